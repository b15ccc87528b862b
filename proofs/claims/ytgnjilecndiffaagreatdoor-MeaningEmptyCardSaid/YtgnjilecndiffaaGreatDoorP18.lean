/- A part of the proof of MeaningEmpty. -/
import Derived.Test.YtgnjilecndiffaaGreatDoorP17
set_option linter.all false
set_option maxRecDepth 1000000
set_option maxHeartbeats 0
namespace Go.Sx.E1
open Go.Proofs
variable [MaxL]
theorem add_next {U V M:List Int} {k c u v s:Int} (h0:0≤k) (hl:(M.length:Int)=k) (hM:digV M+c*16777216^k.toNat=digV (U.take k.toNat)+digV (V.take k.toNat)) (hu:u=U.getD k.toNat 0) (hv:v=V.getD k.toNat 0) (hs:s=c+u+v) (hs0:0≤s):
  digV (M++[s.tmod 16777216])+s.tdiv 16777216*16777216^(k+1).toNat=digV (U.take (k+1).toNat)+digV (V.take (k+1).toNat):=by
 have e1:(k+1).toNat=k.toNat+1:=by omega
 have e2:M.length=k.toNat:=by omega
 rw [Int.tmod_eq_emod_of_nonneg hs0,Int.tdiv_eq_ediv_of_nonneg hs0,e1,dig_take,dig_take,digV_append,e2,Int.pow_succ,← hu,← hv];have e3:=Int.mul_ediv_add_emod s 16777216;simp only [digV];have e4:s%16777216=c+u+v - 16777216*(s /16777216):=by omega
 rw [e4]
 grind
theorem add_bounds {s:Int} (h0:0≤s) (h1:s<33554432):0≤s.tdiv 16777216∧s.tdiv 16777216≤1∧(s<16777216→s.tdiv 16777216=0)∧0≤s.tmod 16777216∧s.tmod 16777216<16777216:=by
 rw [Int.tmod_eq_emod_of_nonneg h0,Int.tdiv_eq_ediv_of_nonneg h0];omega
theorem getD_z (L:List Int) (k:Int):(L.length:Int)≤k→L.getD k.toNat 0=0:=fun h=>(getD_ge (by omega)).symm
theorem add_side {U V M:List Int} {k c s:Int} (h0:0≤k) (hl:(M.length:Int)=k) (hc0:0≤c) (hc1:c≤1) (hd:DigOk M) (hM:digV M+c*16777216^k.toNat=digV (U.take k.toNat)+digV (V.take k.toNat)) (hz:k>(U.length:Int)→k>(V.length:Int)→c=0) (hU:DigOk U) (hV:DigOk V) (hU3:U.length≤3) (hV3:V.length≤3) (hk:k<(U.length:Int)∨k<(V.length:Int)∨c>0) (hs:s=c+U.getD k.toNat 0+V.getD k.toNat 0):
  0≤k+1∧((M++[s.tmod 16777216]).length:Int)=k+1∧0≤s.tdiv 16777216∧s.tdiv 16777216≤1∧DigOk (M++[s.tmod 16777216])∧digV (M++[s.tmod 16777216])+s.tdiv 16777216*16777216^(k+1).toNat=digV (U.take (k+1).toNat)+digV (V.take (k+1).toNat)∧(k+1>(U.length:Int)→k+1>(V.length:Int)→s.tdiv 16777216=0)∧k+1≤4:=by
 have b1:=getD_bounds hU k.toNat;have b2:=getD_bounds hV k.toNat;have z1:=getD_z U k;have z2:=getD_z V k;have h9:=add_bounds (s:=s) (by omega) (by omega);refine ⟨by omega,by simp;omega,by omega,by omega,digOk_snoc hd (by omega),add_next h0 hl hM rfl rfl hs (by omega),by omega,by omega⟩
theorem add_last {U V M:List Int} {k c:Int} (h1:(U.length:Int)≤k) (h2:(V.length:Int)≤k) (hc:c=0) (hM:digV M+c*16777216^k.toNat=digV (U.take k.toNat)+digV (V.take k.toNat)):digV M=digV U+digV V:=by
 rw [List.take_of_length_le (by omega),List.take_of_length_le (by omega),hc] at hM;omega
theorem add_fin {U V M:List Int} {s t z:ByteArray} {k c:Int} (hn:natV z=digV M) (hM:digV M+c*16777216^k.toNat=digV (U.take k.toNat)+digV (V.take k.toNat)) (e1:digV U=natV s) (e2:digV V=natV t) (h1:(U.length:Int)≤k) (h2:(V.length:Int)≤k) (hc:c=0):natV z=natV s+natV t:=by
 rw [hn,add_last h1 h2 hc hM,e1,e2]
theorem add_contra {U:List Int} {s:ByteArray} (h:256^(7:Int).toNat≤natV s) (h1:digV U=natV s) (h3:U.length=0):False:=by
 have e1:U=[]:=List.length_eq_zero_iff.1 h3;subst e1;have e2:(256:Int)^(7:Int).toNat=72057594037927936:=by decide
 simp only [digV] at h1;omega
theorem c271 (s t:ByteArray) (hs:(s.size:Int)≤1000000) (ht:(t.size:Int)≤1000000) (hv:natV s<2361183241434822606848) (hw:natV t<2361183241434822606848):ValC Tryz.prog GG 271 [o (sv s),o (sv t)] (fun r=>∃c:ByteArray,r=o (sv c)∧(c.size:Int)≤15∧natV c=natV s+natV t∧E1.Canon c):=by
 refine vX (fn:=Tryz.f271)<| yC 7 (c386 s 7 (by omega) (by decide) (by decide)) ?_
 rintro _ ⟨n0,ok1,rfl,hq2,hq3,_,_⟩;refine yC 9 (c386 t 7 (by omega) (by decide) (by decide)) ?_;rintro _ ⟨n6,ok7,rfl,hq8,hq9,_,_⟩;cases hb12:ok1
 ·have:=hq3 hb12;refine yC 19 (c387 s (by omega) (by omega)) ?_;rintro _ ⟨x14,L15,rfl,hq16,_,_,_,_⟩;refine yC 5 (c387 t (by omega) (by omega)) ?_;rintro _ ⟨x21,L22,rfl,hq23,_,_,_,_⟩;refine yP 17 [] 83 (pT Tryz.f271 [1,1,1,1,1,1,1,1,0,1,0,0]) (α:=(Int×Int) ⊕ (Int×Int×List Int)) (fun ix_=>match ix_ with | (.inl (c,k))=>c=0∧k=0 | (.inr (c1,q,M))=>0≤q∧(M.length:Int)=q∧0≤c1∧c1≤1∧DigOk M∧digV M+c1*16777216^q.toNat=digV (List.take q.toNat (L15))+digV (List.take q.toNat (L22))∧(q>((L15).length:Int)→q>((L22).length:Int)→c1=0)∧q≤4) (fun ix_=>match ix_ with | (.inl (c,k))=>(100 - k).toNat | (.inr (c1,q,M))=>(100 - q).toNat) (fun ix_=>match ix_ with | (.inl (c,k))=>([(9,o (.p x14)),(10,o (.p x21)),(11,o (nl)),(12,o (i c)),(13,o (i k))],[]) | (.inr (c1,q,M))=>([(9,o (.p x14)),(10,o (.p x21)),(11,o (.lsl 0 0 M.length 1)),(12,o (i c1)),(13,o (i q))],[.cells (pc (List.flatMap encI M)) false])) (.inl (0,0)) (by omega) ?_;rintro (⟨c,k⟩ | ⟨c1,q,M⟩) hI ih11 J
  try dsimp only at hI ih11 ⊢
  ·obtain ⟨_,_⟩:=hI;refine yL 5 hq16<| yB 2 41 (k<(↑L15.length:Int)) (fun _=> ?_) fun _=> ?_
   ·refine yL 24 hq16<| yp 2 57 (k<(↑L15.length:Int))<| yI 5 k hq16<| yG 0 encI L15 k ?_
    have:=(show (0≤L15.getD k.toNat 0∧L15.getD k.toNat 0<16777216) from fact_getD k.toNat (by omega))
    refine yJ 8 14 (c+L15.getD k.toNat 0)<| yL 0 hq23<| yB 2 67 (k<(↑L22.length:Int)) (fun _=> ?_) fun _=> ?_
    ·refine yI 5 k hq23<| yG 0 encI L22 k ?_
     have:=(show (0≤L22.getD k.toNat 0∧L22.getD k.toNat 0<16777216) from fact_getD k.toNat (by omega))
     refine yJ 24 13 (k+1)<| yE 0 12 (yw (c+L15.getD k.toNat 0+L22.getD k.toNat 0)) (fun z=>o (i (IntKind.i64.wrap (z.tdiv 16777216))))<| yQ 0 1 0 (yw (c+L15.getD k.toNat 0+L22.getD k.toNat 0)) (fun z=>i (z.tmod 16777216))<| yJ 0 12 ((c+L15.getD k.toNat 0+L22.getD k.toNat 0).tdiv 16777216) ?_ (h0:=by have:=(show (0≤L22.getD k.toNat 0∧L22.getD k.toNat 0<16777216) from fact_getD k.toNat (by omega));have:=(show (0≤L15.getD k.toNat 0∧L15.getD k.toNat 0<16777216) from fact_getD k.toNat (by omega));have:=Int.tdiv_eq_ediv_of_nonneg (a:=(c+L15.getD k.toNat 0+L22.getD k.toNat 0)) (b:=16777216) (by omega);omega) (h1:=by have:=(show (0≤L22.getD k.toNat 0∧L22.getD k.toNat 0<16777216) from fact_getD k.toNat (by omega));have:=(show (0≤L15.getD k.toNat 0∧L15.getD k.toNat 0<16777216) from fact_getD k.toNat (by omega));have:=Int.tdiv_eq_ediv_of_nonneg (a:=(c+L15.getD k.toNat 0+L22.getD k.toNat 0)) (b:=16777216) (by omega);omega)
     exact yK 0 [1] (ih11 (.inr (((c+L15.getD k.toNat 0+L22.getD k.toNat 0).tdiv 16777216),(k+1),([(c+L15.getD k.toNat 0+L22.getD k.toNat 0).tmod 16777216]))) (by (have z1:=getD_z (L15) k;have z2:=getD_z (L22) k;obtain rfl:k=0:=(by omega);exact add_side (U:=(L15)) (V:=(L22)) (M:=[]) (c:=c) (k:=0) (by omega) (by simp) (by omega) (by omega) digOk_nil (by simp [digV]<;>omega) (by omega) (by assumption) (by assumption) (by omega) (by omega) (by omega) (by omega))) (by dsimp only;omega))
    refine yJ 23 13 (k+1)<| yJ 0 12 ((c+L15.getD k.toNat 0).tdiv 16777216) ?_ (h0:=by have:=(show (0≤L15.getD k.toNat 0∧L15.getD k.toNat 0<16777216) from fact_getD k.toNat (by omega));have:=Int.tdiv_eq_ediv_of_nonneg (a:=(c+L15.getD k.toNat 0)) (b:=16777216) (by omega);omega) (h1:=by have:=(show (0≤L15.getD k.toNat 0∧L15.getD k.toNat 0<16777216) from fact_getD k.toNat (by omega));have:=Int.tdiv_eq_ediv_of_nonneg (a:=(c+L15.getD k.toNat 0)) (b:=16777216) (by omega);omega)
    exact yK 0 [1] (ih11 (.inr (((c+L15.getD k.toNat 0).tdiv 16777216),(k+1),([(c+L15.getD k.toNat 0).tmod 16777216]))) (by (have z1:=getD_z (L15) k;have z2:=getD_z (L22) k;obtain rfl:k=0:=(by omega);exact add_side (U:=(L15)) (V:=(L22)) (M:=[]) (c:=c) (k:=0) (by omega) (by simp) (by omega) (by omega) digOk_nil (by simp [digV]<;>omega) (by omega) (by assumption) (by assumption) (by omega) (by omega) (by omega) (by omega))) (by dsimp only;omega))
   refine yL 2 hq23<| yB 3 47 (k<(↑L22.length:Int)) (fun _=> ?_) fun _=> ?_
   ·refine yL 18 hq16<| yn 2 57 (k<(↑L15.length:Int))<| yL 7 hq23<| yp 2 67 (k<(↑L22.length:Int))<| yI 5 k hq23<| yG 0 encI L22 k ?_
    have:=(show (0≤L22.getD k.toNat 0∧L22.getD k.toNat 0<16777216) from fact_getD k.toNat (by omega))
    refine yJ 24 13 (k+1)<| yE 0 12 (yw (c+L22.getD k.toNat 0)) (fun z=>o (i (IntKind.i64.wrap (z.tdiv 16777216))))<| yQ 0 1 0 (yw (c+L22.getD k.toNat 0)) (fun z=>i (z.tmod 16777216))<| yJ 0 12 ((c+L22.getD k.toNat 0).tdiv 16777216) ?_ (h0:=by have:=(show (0≤L22.getD k.toNat 0∧L22.getD k.toNat 0<16777216) from fact_getD k.toNat (by omega));have:=Int.tdiv_eq_ediv_of_nonneg (a:=(c+L22.getD k.toNat 0)) (b:=16777216) (by omega);omega) (h1:=by have:=(show (0≤L22.getD k.toNat 0∧L22.getD k.toNat 0<16777216) from fact_getD k.toNat (by omega));have:=Int.tdiv_eq_ediv_of_nonneg (a:=(c+L22.getD k.toNat 0)) (b:=16777216) (by omega);omega)
    exact yK 0 [1] (ih11 (.inr (((c+L22.getD k.toNat 0).tdiv 16777216),(k+1),([(c+L22.getD k.toNat 0).tmod 16777216]))) (by (have z1:=getD_z (L15) k;have z2:=getD_z (L22) k;obtain rfl:k=0:=(by omega);exact add_side (U:=(L15)) (V:=(L22)) (M:=[]) (c:=c) (k:=0) (by omega) (by simp) (by omega) (by omega) digOk_nil (by simp [digV]<;>omega) (by omega) (by assumption) (by assumption) (by omega) (by omega) (by omega) (by omega))) (by dsimp only;omega))
   refine yn 4 50 (c>0)<| yV 5 (kv (f:=393) (args:=[o (nl)]) (r:=o (.p (.vl (vs [])))) (by kernel_rfl))<| yF 2 (o (.p (.vl (vs [])))) ?_
   (exfalso;exact add_contra (s:=s) (by assumption) (by assumption) (by omega))
  obtain ⟨_,_,_,_,_,_,_,_⟩:=hI;refine yL 5 hq16<| yB 2 41 (q<(↑L15.length:Int)) (fun _=> ?_) fun _=> ?_
  ·refine yL 24 hq16<| yp 2 57 (q<(↑L15.length:Int))<| yI 5 q hq16<| yG 0 encI L15 q ?_
   have:=(show (0≤L15.getD q.toNat 0∧L15.getD q.toNat 0<16777216) from fact_getD q.toNat (by omega))
   refine yJ 8 14 (c1+L15.getD q.toNat 0)<| yL 0 hq23<| yB 2 67 (q<(↑L22.length:Int)) (fun _=> ?_) fun _=> ?_
   ·refine yI 5 q hq23<| yG 0 encI L22 q ?_
    have:=(show (0≤L22.getD q.toNat 0∧L22.getD q.toNat 0<16777216) from fact_getD q.toNat (by omega))
    refine yJ 9 14 (c1+L15.getD q.toNat 0+L22.getD q.toNat 0)<| yQ 0 1 0 (yw (c1+L15.getD q.toNat 0+L22.getD q.toNat 0)) (fun z=>i (z.tmod 16777216))<| yA 0 encI M ((c1+L15.getD q.toNat 0+L22.getD q.toNat 0).tmod 16777216) 8 ?_
    have:=Int.tmod_eq_emod_of_nonneg (a:=(c1+L15.getD q.toNat 0+L22.getD q.toNat 0)) (b:=16777216) (by omega);refine yJ 14 13 (q+1)<| yJ 0 12 ((c1+L15.getD q.toNat 0+L22.getD q.toNat 0).tdiv 16777216) ?_ (h0:=by have:=(show (0≤L22.getD q.toNat 0∧L22.getD q.toNat 0<16777216) from fact_getD q.toNat (by omega));have:=(show (0≤L15.getD q.toNat 0∧L15.getD q.toNat 0<16777216) from fact_getD q.toNat (by omega));have:=Int.tdiv_eq_ediv_of_nonneg (a:=(c1+L15.getD q.toNat 0+L22.getD q.toNat 0)) (b:=16777216) (by omega);omega) (h1:=by have:=(show (0≤L22.getD q.toNat 0∧L22.getD q.toNat 0<16777216) from fact_getD q.toNat (by omega));have:=(show (0≤L15.getD q.toNat 0∧L15.getD q.toNat 0<16777216) from fact_getD q.toNat (by omega));have:=Int.tdiv_eq_ediv_of_nonneg (a:=(c1+L15.getD q.toNat 0+L22.getD q.toNat 0)) (b:=16777216) (by omega);omega)
    exact yK 0 [2] (ih11 (.inr (((c1+L15.getD q.toNat 0+L22.getD q.toNat 0).tdiv 16777216),(q+1),(M++[(c1+L15.getD q.toNat 0+L22.getD q.toNat 0).tmod 16777216]))) (by (have z1:=getD_z (L15) q;have z2:=getD_z (L22) q;exact add_side (M:=M) (c:=c1) (by omega) (by omega) (by omega) (by omega) (by assumption) (by assumption) (by omega) (by assumption) (by assumption) (by omega) (by omega) (by omega) (by omega))) (by dsimp only;omega)) (hh:=(mo (renAt_pc (by kernel_rfl)) (mo_nil)))
   refine yA 8 encI M ((c1+L15.getD q.toNat 0).tmod 16777216) 8 ?_;have:=Int.tmod_eq_emod_of_nonneg (a:=(c1+L15.getD q.toNat 0)) (b:=16777216) (by omega);refine yJ 14 13 (q+1)<| yJ 0 12 ((c1+L15.getD q.toNat 0).tdiv 16777216) ?_ (h0:=by have:=(show (0≤L15.getD q.toNat 0∧L15.getD q.toNat 0<16777216) from fact_getD q.toNat (by omega));have:=Int.tdiv_eq_ediv_of_nonneg (a:=(c1+L15.getD q.toNat 0)) (b:=16777216) (by omega);omega) (h1:=by have:=(show (0≤L15.getD q.toNat 0∧L15.getD q.toNat 0<16777216) from fact_getD q.toNat (by omega));have:=Int.tdiv_eq_ediv_of_nonneg (a:=(c1+L15.getD q.toNat 0)) (b:=16777216) (by omega);omega)
   exact yK 0 [2] (ih11 (.inr (((c1+L15.getD q.toNat 0).tdiv 16777216),(q+1),(M++[(c1+L15.getD q.toNat 0).tmod 16777216]))) (by (have z1:=getD_z (L15) q;have z2:=getD_z (L22) q;exact add_side (M:=M) (c:=c1) (by omega) (by omega) (by omega) (by omega) (by assumption) (by assumption) (by omega) (by assumption) (by assumption) (by omega) (by omega) (by omega) (by omega))) (by dsimp only;omega)) (hh:=(mo (renAt_pc (by kernel_rfl)) (mo_nil)))
  refine yL 2 hq23<| yB 3 47 (q<(↑L22.length:Int)) (fun _=> ?_) fun _=> ?_
  ·refine yL 18 hq16<| yn 2 57 (q<(↑L15.length:Int))<| yL 7 hq23<| yp 2 67 (q<(↑L22.length:Int))<| yI 5 q hq23<| yG 0 encI L22 q ?_
   have:=(show (0≤L22.getD q.toNat 0∧L22.getD q.toNat 0<16777216) from fact_getD q.toNat (by omega))
   refine yJ 9 14 (c1+L22.getD q.toNat 0)<| yQ 0 1 0 (yw (c1+L22.getD q.toNat 0)) (fun z=>i (z.tmod 16777216))<| yA 0 encI M ((c1+L22.getD q.toNat 0).tmod 16777216) 8 ?_
   have:=Int.tmod_eq_emod_of_nonneg (a:=(c1+L22.getD q.toNat 0)) (b:=16777216) (by omega);refine yJ 14 13 (q+1)<| yJ 0 12 ((c1+L22.getD q.toNat 0).tdiv 16777216) ?_ (h0:=by have:=(show (0≤L22.getD q.toNat 0∧L22.getD q.toNat 0<16777216) from fact_getD q.toNat (by omega));have:=Int.tdiv_eq_ediv_of_nonneg (a:=(c1+L22.getD q.toNat 0)) (b:=16777216) (by omega);omega) (h1:=by have:=(show (0≤L22.getD q.toNat 0∧L22.getD q.toNat 0<16777216) from fact_getD q.toNat (by omega));have:=Int.tdiv_eq_ediv_of_nonneg (a:=(c1+L22.getD q.toNat 0)) (b:=16777216) (by omega);omega)
   exact yK 0 [2] (ih11 (.inr (((c1+L22.getD q.toNat 0).tdiv 16777216),(q+1),(M++[(c1+L22.getD q.toNat 0).tmod 16777216]))) (by (have z1:=getD_z (L15) q;have z2:=getD_z (L22) q;exact add_side (M:=M) (c:=c1) (by omega) (by omega) (by omega) (by omega) (by assumption) (by assumption) (by omega) (by assumption) (by assumption) (by omega) (by omega) (by omega) (by omega))) (by dsimp only;omega)) (hh:=(mo (renAt_pc (by kernel_rfl)) (mo_nil)))
  refine yB 4 50 (c1>0) (fun _=> ?_) fun _=> ?_
  ·refine yL 14 hq16<| yn 2 57 (q<(↑L15.length:Int))<| yL 7 hq23<| yn 2 67 (q<(↑L22.length:Int))<| yA 8 encI M (c1.tmod 16777216) 8<| yJ 14 12 (c1.tdiv 16777216) ?_ (h0:=by have:=Int.tdiv_eq_ediv_of_nonneg (a:=c1) (b:=16777216) (by omega);omega) (h1:=by have:=Int.tdiv_eq_ediv_of_nonneg (a:=c1) (b:=16777216) (by omega);omega)
   exact yJ 0 13 (q+1)<| yK 0 [2] (ih11 (.inr ((c1.tdiv 16777216),(q+1),(M++[c1.tmod 16777216]))) (by (have z1:=getD_z (L15) q;have z2:=getD_z (L22) q;exact add_side (M:=M) (c:=c1) (by omega) (by omega) (by omega) (by omega) (by assumption) (by assumption) (by omega) (by assumption) (by assumption) (by omega) (by omega) (by omega) (by omega))) (by dsimp only;omega)) (hh:=(mo (renAt_pc (by kernel_rfl)) (mo_nil)))
  refine yM 5 81 (r:=o (.lsl 0 0 M.length 1)) (r':=o (.p (.sl M.length (List.flatMap encI M)))) (ts:=[0]) (fzR_one (fzL_pc (fz:=false) (by kernel_rfl) (by exact flat_len (z:=1) (fun _=>rfl) _)))<| yC 0 (c393 M (PV.sl M.length (List.flatMap encI M)) IsS.sl (by omega) (by omega)) ?_
  rintro _ ⟨c80,rfl,_,_,_⟩;exact yF 2 (o (.p (.vl (.string c80))))<| ⟨_,rfl,by omega,add_fin (c:=c1) (k:=q) (by assumption) (by assumption) (by assumption) (by assumption) (by omega) (by omega) (by omega),by assumption⟩
 have:=hq2 hb12;cases hb85:ok7
 ·have:=hq9 hb85;refine yC 19 (c387 s (by omega) (by omega)) ?_;rintro _ ⟨x87,L88,rfl,hq89,_,_,_,_⟩;refine yC 5 (c387 t (by omega) (by omega)) ?_;rintro _ ⟨x94,L95,rfl,hq96,_,_,_,_⟩;refine yP 17 [] 83 (pT Tryz.f271 [1,1,1,1,1,1,1,1,0,1,0,0]) (α:=(Int×Int) ⊕ (Int×Int×List Int)) (fun ix_=>match ix_ with | (.inl (c,k))=>c=0∧k=0 | (.inr (c1,q,M))=>0≤q∧(M.length:Int)=q∧0≤c1∧c1≤1∧DigOk M∧digV M+c1*16777216^q.toNat=digV (List.take q.toNat (L88))+digV (List.take q.toNat (L95))∧(q>((L88).length:Int)→q>((L95).length:Int)→c1=0)∧q≤4) (fun ix_=>match ix_ with | (.inl (c,k))=>(100 - k).toNat | (.inr (c1,q,M))=>(100 - q).toNat) (fun ix_=>match ix_ with | (.inl (c,k))=>([(9,o (.p x87)),(10,o (.p x94)),(11,o (nl)),(12,o (i c)),(13,o (i k))],[]) | (.inr (c1,q,M))=>([(9,o (.p x87)),(10,o (.p x94)),(11,o (.lsl 0 0 M.length 1)),(12,o (i c1)),(13,o (i q))],[.cells (pc (List.flatMap encI M)) false])) (.inl (0,0)) (by omega) ?_;rintro (⟨c,k⟩ | ⟨c1,q,M⟩) hI ih11 J
  try dsimp only at hI ih11 ⊢
  ·obtain ⟨_,_⟩:=hI;refine yL 5 hq89<| yB 2 41 (k<(↑L88.length:Int)) (fun _=> ?_) fun _=> ?_
   ·refine yL 24 hq89<| yp 2 57 (k<(↑L88.length:Int))<| yI 5 k hq89<| yG 0 encI L88 k ?_
    have:=(show (0≤L88.getD k.toNat 0∧L88.getD k.toNat 0<16777216) from fact_getD k.toNat (by omega))
    refine yJ 8 14 (c+L88.getD k.toNat 0)<| yL 0 hq96<| yB 2 67 (k<(↑L95.length:Int)) (fun _=> ?_) fun _=> ?_
    ·refine yI 5 k hq96<| yG 0 encI L95 k ?_
     have:=(show (0≤L95.getD k.toNat 0∧L95.getD k.toNat 0<16777216) from fact_getD k.toNat (by omega))
     refine yJ 24 13 (k+1)<| yE 0 12 (yw (c+L88.getD k.toNat 0+L95.getD k.toNat 0)) (fun z=>o (i (IntKind.i64.wrap (z.tdiv 16777216))))<| yQ 0 1 0 (yw (c+L88.getD k.toNat 0+L95.getD k.toNat 0)) (fun z=>i (z.tmod 16777216))<| yJ 0 12 ((c+L88.getD k.toNat 0+L95.getD k.toNat 0).tdiv 16777216) ?_ (h0:=by have:=(show (0≤L95.getD k.toNat 0∧L95.getD k.toNat 0<16777216) from fact_getD k.toNat (by omega));have:=(show (0≤L88.getD k.toNat 0∧L88.getD k.toNat 0<16777216) from fact_getD k.toNat (by omega));have:=Int.tdiv_eq_ediv_of_nonneg (a:=(c+L88.getD k.toNat 0+L95.getD k.toNat 0)) (b:=16777216) (by omega);omega) (h1:=by have:=(show (0≤L95.getD k.toNat 0∧L95.getD k.toNat 0<16777216) from fact_getD k.toNat (by omega));have:=(show (0≤L88.getD k.toNat 0∧L88.getD k.toNat 0<16777216) from fact_getD k.toNat (by omega));have:=Int.tdiv_eq_ediv_of_nonneg (a:=(c+L88.getD k.toNat 0+L95.getD k.toNat 0)) (b:=16777216) (by omega);omega)
     exact yK 0 [1] (ih11 (.inr (((c+L88.getD k.toNat 0+L95.getD k.toNat 0).tdiv 16777216),(k+1),([(c+L88.getD k.toNat 0+L95.getD k.toNat 0).tmod 16777216]))) (by (have z1:=getD_z (L88) k;have z2:=getD_z (L95) k;obtain rfl:k=0:=(by omega);exact add_side (U:=(L88)) (V:=(L95)) (M:=[]) (c:=c) (k:=0) (by omega) (by simp) (by omega) (by omega) digOk_nil (by simp [digV]<;>omega) (by omega) (by assumption) (by assumption) (by omega) (by omega) (by omega) (by omega))) (by dsimp only;omega))
    refine yJ 23 13 (k+1)<| yJ 0 12 ((c+L88.getD k.toNat 0).tdiv 16777216) ?_ (h0:=by have:=(show (0≤L88.getD k.toNat 0∧L88.getD k.toNat 0<16777216) from fact_getD k.toNat (by omega));have:=Int.tdiv_eq_ediv_of_nonneg (a:=(c+L88.getD k.toNat 0)) (b:=16777216) (by omega);omega) (h1:=by have:=(show (0≤L88.getD k.toNat 0∧L88.getD k.toNat 0<16777216) from fact_getD k.toNat (by omega));have:=Int.tdiv_eq_ediv_of_nonneg (a:=(c+L88.getD k.toNat 0)) (b:=16777216) (by omega);omega)
    exact yK 0 [1] (ih11 (.inr (((c+L88.getD k.toNat 0).tdiv 16777216),(k+1),([(c+L88.getD k.toNat 0).tmod 16777216]))) (by (have z1:=getD_z (L88) k;have z2:=getD_z (L95) k;obtain rfl:k=0:=(by omega);exact add_side (U:=(L88)) (V:=(L95)) (M:=[]) (c:=c) (k:=0) (by omega) (by simp) (by omega) (by omega) digOk_nil (by simp [digV]<;>omega) (by omega) (by assumption) (by assumption) (by omega) (by omega) (by omega) (by omega))) (by dsimp only;omega))
   refine yL 2 hq96<| yB 3 47 (k<(↑L95.length:Int)) (fun _=> ?_) fun _=> ?_
   ·refine yL 18 hq89<| yn 2 57 (k<(↑L88.length:Int))<| yL 7 hq96<| yp 2 67 (k<(↑L95.length:Int))<| yI 5 k hq96<| yG 0 encI L95 k ?_
    have:=(show (0≤L95.getD k.toNat 0∧L95.getD k.toNat 0<16777216) from fact_getD k.toNat (by omega))
    refine yJ 24 13 (k+1)<| yE 0 12 (yw (c+L95.getD k.toNat 0)) (fun z=>o (i (IntKind.i64.wrap (z.tdiv 16777216))))<| yQ 0 1 0 (yw (c+L95.getD k.toNat 0)) (fun z=>i (z.tmod 16777216))<| yJ 0 12 ((c+L95.getD k.toNat 0).tdiv 16777216) ?_ (h0:=by have:=(show (0≤L95.getD k.toNat 0∧L95.getD k.toNat 0<16777216) from fact_getD k.toNat (by omega));have:=Int.tdiv_eq_ediv_of_nonneg (a:=(c+L95.getD k.toNat 0)) (b:=16777216) (by omega);omega) (h1:=by have:=(show (0≤L95.getD k.toNat 0∧L95.getD k.toNat 0<16777216) from fact_getD k.toNat (by omega));have:=Int.tdiv_eq_ediv_of_nonneg (a:=(c+L95.getD k.toNat 0)) (b:=16777216) (by omega);omega)
    exact yK 0 [1] (ih11 (.inr (((c+L95.getD k.toNat 0).tdiv 16777216),(k+1),([(c+L95.getD k.toNat 0).tmod 16777216]))) (by (have z1:=getD_z (L88) k;have z2:=getD_z (L95) k;obtain rfl:k=0:=(by omega);exact add_side (U:=(L88)) (V:=(L95)) (M:=[]) (c:=c) (k:=0) (by omega) (by simp) (by omega) (by omega) digOk_nil (by simp [digV]<;>omega) (by omega) (by assumption) (by assumption) (by omega) (by omega) (by omega) (by omega))) (by dsimp only;omega))
   refine yn 4 50 (c>0)<| yV 5 (kv (f:=393) (args:=[o (nl)]) (r:=o (.p (.vl (vs [])))) (by kernel_rfl))<| yF 2 (o (.p (.vl (vs [])))) ?_
   (exfalso;exact add_contra (s:=t) (by assumption) (by assumption) (by omega))
  obtain ⟨_,_,_,_,_,_,_,_⟩:=hI;refine yL 5 hq89<| yB 2 41 (q<(↑L88.length:Int)) (fun _=> ?_) fun _=> ?_
  ·refine yL 24 hq89<| yp 2 57 (q<(↑L88.length:Int))<| yI 5 q hq89<| yG 0 encI L88 q ?_
   have:=(show (0≤L88.getD q.toNat 0∧L88.getD q.toNat 0<16777216) from fact_getD q.toNat (by omega))
   refine yJ 8 14 (c1+L88.getD q.toNat 0)<| yL 0 hq96<| yB 2 67 (q<(↑L95.length:Int)) (fun _=> ?_) fun _=> ?_
   ·refine yI 5 q hq96<| yG 0 encI L95 q ?_
    have:=(show (0≤L95.getD q.toNat 0∧L95.getD q.toNat 0<16777216) from fact_getD q.toNat (by omega))
    refine yJ 9 14 (c1+L88.getD q.toNat 0+L95.getD q.toNat 0)<| yQ 0 1 0 (yw (c1+L88.getD q.toNat 0+L95.getD q.toNat 0)) (fun z=>i (z.tmod 16777216))<| yA 0 encI M ((c1+L88.getD q.toNat 0+L95.getD q.toNat 0).tmod 16777216) 8 ?_
    have:=Int.tmod_eq_emod_of_nonneg (a:=(c1+L88.getD q.toNat 0+L95.getD q.toNat 0)) (b:=16777216) (by omega);refine yJ 14 13 (q+1)<| yJ 0 12 ((c1+L88.getD q.toNat 0+L95.getD q.toNat 0).tdiv 16777216) ?_ (h0:=by have:=(show (0≤L95.getD q.toNat 0∧L95.getD q.toNat 0<16777216) from fact_getD q.toNat (by omega));have:=(show (0≤L88.getD q.toNat 0∧L88.getD q.toNat 0<16777216) from fact_getD q.toNat (by omega));have:=Int.tdiv_eq_ediv_of_nonneg (a:=(c1+L88.getD q.toNat 0+L95.getD q.toNat 0)) (b:=16777216) (by omega);omega) (h1:=by have:=(show (0≤L95.getD q.toNat 0∧L95.getD q.toNat 0<16777216) from fact_getD q.toNat (by omega));have:=(show (0≤L88.getD q.toNat 0∧L88.getD q.toNat 0<16777216) from fact_getD q.toNat (by omega));have:=Int.tdiv_eq_ediv_of_nonneg (a:=(c1+L88.getD q.toNat 0+L95.getD q.toNat 0)) (b:=16777216) (by omega);omega)
    exact yK 0 [2] (ih11 (.inr (((c1+L88.getD q.toNat 0+L95.getD q.toNat 0).tdiv 16777216),(q+1),(M++[(c1+L88.getD q.toNat 0+L95.getD q.toNat 0).tmod 16777216]))) (by (have z1:=getD_z (L88) q;have z2:=getD_z (L95) q;exact add_side (M:=M) (c:=c1) (by omega) (by omega) (by omega) (by omega) (by assumption) (by assumption) (by omega) (by assumption) (by assumption) (by omega) (by omega) (by omega) (by omega))) (by dsimp only;omega)) (hh:=(mo (renAt_pc (by kernel_rfl)) (mo_nil)))
   refine yA 8 encI M ((c1+L88.getD q.toNat 0).tmod 16777216) 8 ?_;have:=Int.tmod_eq_emod_of_nonneg (a:=(c1+L88.getD q.toNat 0)) (b:=16777216) (by omega);refine yJ 14 13 (q+1)<| yJ 0 12 ((c1+L88.getD q.toNat 0).tdiv 16777216) ?_ (h0:=by have:=(show (0≤L88.getD q.toNat 0∧L88.getD q.toNat 0<16777216) from fact_getD q.toNat (by omega));have:=Int.tdiv_eq_ediv_of_nonneg (a:=(c1+L88.getD q.toNat 0)) (b:=16777216) (by omega);omega) (h1:=by have:=(show (0≤L88.getD q.toNat 0∧L88.getD q.toNat 0<16777216) from fact_getD q.toNat (by omega));have:=Int.tdiv_eq_ediv_of_nonneg (a:=(c1+L88.getD q.toNat 0)) (b:=16777216) (by omega);omega)
   exact yK 0 [2] (ih11 (.inr (((c1+L88.getD q.toNat 0).tdiv 16777216),(q+1),(M++[(c1+L88.getD q.toNat 0).tmod 16777216]))) (by (have z1:=getD_z (L88) q;have z2:=getD_z (L95) q;exact add_side (M:=M) (c:=c1) (by omega) (by omega) (by omega) (by omega) (by assumption) (by assumption) (by omega) (by assumption) (by assumption) (by omega) (by omega) (by omega) (by omega))) (by dsimp only;omega)) (hh:=(mo (renAt_pc (by kernel_rfl)) (mo_nil)))
  refine yL 2 hq96<| yB 3 47 (q<(↑L95.length:Int)) (fun _=> ?_) fun _=> ?_
  ·refine yL 18 hq89<| yn 2 57 (q<(↑L88.length:Int))<| yL 7 hq96<| yp 2 67 (q<(↑L95.length:Int))<| yI 5 q hq96<| yG 0 encI L95 q ?_
   have:=(show (0≤L95.getD q.toNat 0∧L95.getD q.toNat 0<16777216) from fact_getD q.toNat (by omega))
   refine yJ 9 14 (c1+L95.getD q.toNat 0)<| yQ 0 1 0 (yw (c1+L95.getD q.toNat 0)) (fun z=>i (z.tmod 16777216))<| yA 0 encI M ((c1+L95.getD q.toNat 0).tmod 16777216) 8 ?_
   have:=Int.tmod_eq_emod_of_nonneg (a:=(c1+L95.getD q.toNat 0)) (b:=16777216) (by omega);refine yJ 14 13 (q+1)<| yJ 0 12 ((c1+L95.getD q.toNat 0).tdiv 16777216) ?_ (h0:=by have:=(show (0≤L95.getD q.toNat 0∧L95.getD q.toNat 0<16777216) from fact_getD q.toNat (by omega));have:=Int.tdiv_eq_ediv_of_nonneg (a:=(c1+L95.getD q.toNat 0)) (b:=16777216) (by omega);omega) (h1:=by have:=(show (0≤L95.getD q.toNat 0∧L95.getD q.toNat 0<16777216) from fact_getD q.toNat (by omega));have:=Int.tdiv_eq_ediv_of_nonneg (a:=(c1+L95.getD q.toNat 0)) (b:=16777216) (by omega);omega)
   exact yK 0 [2] (ih11 (.inr (((c1+L95.getD q.toNat 0).tdiv 16777216),(q+1),(M++[(c1+L95.getD q.toNat 0).tmod 16777216]))) (by (have z1:=getD_z (L88) q;have z2:=getD_z (L95) q;exact add_side (M:=M) (c:=c1) (by omega) (by omega) (by omega) (by omega) (by assumption) (by assumption) (by omega) (by assumption) (by assumption) (by omega) (by omega) (by omega) (by omega))) (by dsimp only;omega)) (hh:=(mo (renAt_pc (by kernel_rfl)) (mo_nil)))
  refine yB 4 50 (c1>0) (fun _=> ?_) fun _=> ?_
  ·refine yL 14 hq89<| yn 2 57 (q<(↑L88.length:Int))<| yL 7 hq96<| yn 2 67 (q<(↑L95.length:Int))<| yA 8 encI M (c1.tmod 16777216) 8<| yJ 14 12 (c1.tdiv 16777216) ?_ (h0:=by have:=Int.tdiv_eq_ediv_of_nonneg (a:=c1) (b:=16777216) (by omega);omega) (h1:=by have:=Int.tdiv_eq_ediv_of_nonneg (a:=c1) (b:=16777216) (by omega);omega)
   exact yJ 0 13 (q+1)<| yK 0 [2] (ih11 (.inr ((c1.tdiv 16777216),(q+1),(M++[c1.tmod 16777216]))) (by (have z1:=getD_z (L88) q;have z2:=getD_z (L95) q;exact add_side (M:=M) (c:=c1) (by omega) (by omega) (by omega) (by omega) (by assumption) (by assumption) (by omega) (by assumption) (by assumption) (by omega) (by omega) (by omega) (by omega))) (by dsimp only;omega)) (hh:=(mo (renAt_pc (by kernel_rfl)) (mo_nil)))
  refine yM 5 81 (r:=o (.lsl 0 0 M.length 1)) (r':=o (.p (.sl M.length (List.flatMap encI M)))) (ts:=[0]) (fzR_one (fzL_pc (fz:=false) (by kernel_rfl) (by exact flat_len (z:=1) (fun _=>rfl) _)))<| yC 0 (c393 M (PV.sl M.length (List.flatMap encI M)) IsS.sl (by omega) (by omega)) ?_
  rintro _ ⟨c153,rfl,_,_,_⟩;exact yF 2 (o (.p (.vl (.string c153))))<| ⟨_,rfl,by omega,add_fin (c:=c1) (k:=q) (by assumption) (by assumption) (by assumption) (by assumption) (by omega) (by omega) (by omega),by assumption⟩
 have:=hq8 hb85;refine yJ 20 31 (n0+n6)<| yC 0 (c383 (n0+n6) (by omega) (by omega)) ?_
 rintro _ ⟨c158,rfl,_,_,_⟩;exact yF 2 (o (.p (.vl (.string c158))))<| ⟨_,rfl,by omega,by omega,by assumption⟩
def sg (g:Bool) (n:Int):Int:=match g with | true=> -n | false=>n
theorem sgd (c:ByteArray):sg (decide ((c.size:Int)>0)) (natV c)= -natV c:=by
 by_cases h:(c.size:Int)>0
 ·rw [decide_eq_true h];rfl
 rw [decide_eq_false h,natV_of0 (by omega)];rfl
theorem sg_add {g k:Bool} {x y:Int} (h:(g==k)=true):sg g (x+y)=sg g x+sg k y:=by
 cases g<;>cases k<;>simp [sg] at h ⊢<;>omega
theorem sg_f {g:Bool} {x y:Int} (h:(g==false)=false):sg false (y - x)=sg g x+sg false y:=by
 cases g<;>simp [sg] at h ⊢<;>omega
theorem sg_t {g:Bool} {x y:Int} (h:(g==true)=false): -(y - x)=sg g x+sg true y:=by
 cases g<;>simp [sg] at h ⊢<;>omega
theorem sg_f' {k:Bool} {x y:Int} (h:(false==k)=false):sg false (x - y)=sg false x+sg k y:=by
 cases k<;>simp [sg] at h ⊢<;>omega
theorem sg_t' {k:Bool} {x y:Int} (h:(true==k)=false): -(x - y)=sg true x+sg k y:=by
 cases k<;>simp [sg] at h ⊢<;>omega
theorem c266 (g k:Bool) (c d:ByteArray) (s t:Int) (hc:(c.size:Int)≤1000) (hd:(d.size:Int)≤1000) (h0:0≤s) (h1:s≤6) (h2:0≤t) (h3:t≤6) (hv:natV c≤1000000000000000) (hw:natV d≤1000000000000000):ValC Tryz.prog GG 266 [a [b g,sv c,i s],a [b k,sv d,i t]] (fun r=>∃(h:Bool) (e:ByteArray),r=a [b h,sv e,i (if t>s then t else s)]∧sg h (natV e)=sg g (natV c*p10 ((if t>s then t else s) - s))+sg k (natV d*p10 ((if t>s then t else s) - t))∧E1.Canon e):=by
 refine vX (fn:=Tryz.f266)<| yC 14 (c380 g c s (if t>s then t else s) (by omega) (by omega) (by omega) (by omega) (by omega)) ?_
 rintro _ ⟨d0,rfl,_,hq2,_,_⟩;refine yC 11 (c380 k d t (if t>s then t else s) (by omega) (by omega) (by omega) (by omega) (by omega)) ?_;rintro _ ⟨d5,rfl,_,hq7,_,_⟩
 rcases bt2 (g==k) with hb10 | hb10
 ·refine yE 12 28 hb10 ob<| yC 9 (c381 d0 d5 (by omega) (by omega)) ?_
  rintro _ ⟨v11,rfl,_⟩;refine yB 2 44 (v11<0) (fun _=> ?_) fun _=> ?_
  ·refine yC 22 (c382 d5 d0 (by omega) (by omega) (by omega) (by omega)) ?_;rintro _ ⟨c14,rfl,_,_,_⟩;cases hb18:k
   ·refine yF 21 (a [b false,.p (.vl (.string c14)),i (if t>s then t else s)]) ?_
    (refine ⟨_,_,rfl,?_,by assumption⟩;(try rw [sgd]);rw [← hq2,← hq7,‹natV _=_ - _›];simp_all only [];exact sg_f hb10)
   refine yF 21 (a [b (decide ((↑c14.size:Int)>0)),.p (.vl (.string c14)),i (if t>s then t else s)]) ?_
   (refine ⟨_,_,rfl,?_,by assumption⟩;(try rw [sgd]);rw [← hq2,← hq7,‹natV _=_ - _›];simp_all only [];exact sg_t hb10)
  refine yC 8 (c382 d0 d5 (by omega) (by omega) (by omega) (by omega)) ?_;rintro _ ⟨c19,rfl,_,_,_⟩;cases hb23:g
  ·refine yF 21 (a [b false,.p (.vl (.string c19)),i (if t>s then t else s)]) ?_
   (refine ⟨_,_,rfl,?_,by assumption⟩;(try rw [sgd]);rw [← hq2,← hq7,‹natV _=_ - _›];simp_all only [];exact sg_f' hb10)
  refine yF 21 (a [b (decide ((↑c19.size:Int)>0)),.p (.vl (.string c19)),i (if t>s then t else s)]) ?_
  (refine ⟨_,_,rfl,?_,by assumption⟩;(try rw [sgd]);rw [← hq2,← hq7,‹natV _=_ - _›];simp_all only [];exact sg_t' hb10)
 refine yE 12 28 hb10 ob<| yD 2 [] [[],[],[],[],[],[],[],[],[],[],[2]] [0,1,2,3,4,5,7,8,6,9,10]<| yC 8 (c271 d0 d5 (by omega) (by omega) (by omega) (by omega)) ?_
 rintro _ ⟨c24,rfl,_,_,_⟩;refine yF 3 (a [b g,.p (.vl (.string c24)),i (if t>s then t else s)]) ?_
 (refine ⟨_,_,rfl,?_,by assumption⟩;(try rw [sgd]);rw [← hq2,← hq7,‹natV _=_+_›];exact sg_add hb10)
theorem c276 (n:Int) (h0: -1000000000000000≤n) (h1:n≤1000000000000000):ValC Tryz.prog GG 276 [o (i n)] (fun r=>∃c:ByteArray,r=o (sv c)∧(c.size:Int)≤15∧(0≤n→natV c=n)∧(n<0→natV c= -n)∧E1.Canon c):=by
 refine vX (fn:=Tryz.f276)<| yB 10 4 (n≥0) (fun _=> ?_) fun _=> ?_
 ·refine yC 4 (c383 n (by omega) (by omega)) ?_;rintro _ ⟨c1,rfl,_,_,_⟩;exact yF 2 (o (.p (.vl (.string c1))))<| ⟨_,rfl,by omega,by omega,by omega,by assumption⟩
 refine yE 7 9 (yw (n+1)) (fun z=>o (i (IntKind.i64.wrap (0 - z))))<| yJ 0 9 (0 - (n+1))<| yC 0 (c383 (0 - (n+1)) (by omega) (by omega)) ?_
 rintro _ ⟨c5,rfl,_,_,_⟩;refine yC 0 (c383 1 (by decide) (by decide)) ?_;rintro _ ⟨c9,rfl,_,_,_⟩;refine yC 0 (c271 c5 c9 (by omega) (by omega) (by omega) (by omega)) ?_;rintro _ ⟨c13,rfl,_,_,_⟩;exact yF 2 (o (.p (.vl (.string c13))))<| ⟨_,rfl,by omega,by omega,by omega,by assumption⟩
theorem c265_w (n s:Int) (h:right04 n s=true) (h0: -1000000000000000≤n) (h1:n≤1000000000000000) (h2:0≤s) (h3:s≤6):ValC Tryz.prog GG 265 [a [i n,i s]] (fun r=>∃(g:Bool) (c:ByteArray),r=a [b g,sv c,i s]∧(c.size:Int)≤15∧(0≤n→natV c=n)∧(n<0→natV c= -n)∧g=decide (n<0)∧E1.Canon c∧natV c≤1000000000000000):=by
 refine vX (fn:=Tryz.f265)<| yV 8 (c121_1 n s (by omega))<| yD 11 [] [[],[],[],[],[],[],[],[],[],[1]] [0,1,2,3,4,6,7,5,8,9]<| yC 7 (c276 n (by omega) (by omega)) ?_
 rintro _ ⟨c0,rfl,_,_,_,_⟩;exact yF 3 (a [b (decide (n<0)),.p (.vl (.string c0)),i s])<| ⟨_,_,rfl,by omega,by omega,by omega,rfl,by assumption,by omega⟩
theorem c265 (n s:Int) (h:right04 n s=true):ValC Tryz.prog GG 265 [a [i n,i s]] (fun r=>∃(g:Bool) (c:ByteArray),r=a [b g,sv c,i s]∧(c.size:Int)≤15∧(0≤n→natV c=n)∧(n<0→natV c= -n)∧g=decide (n<0)∧E1.Canon c∧natV c≤1000000000000000):=
 have h':=right_bounds h
 c265_w n s h h'.1 h'.2.1 h'.2.2.1 h'.2.2.2
def decV (n s:Int):Int:=n*p10 (6 - s)
theorem p10_add {x y:Int} (hx:0≤x) (hy:0≤y):p10 (x+y)=p10 x*p10 y:=by
 unfold p10;rw [show (x+y).toNat=x.toNat+y.toNat by omega,Int.pow_add]
theorem p10_pos (x:Int):0<p10 x:=Int.pow_pos (by omega)
theorem sg_n {n m P:Int} {g:Bool} (hg:g=decide (n<0)) (h0:0≤n→m=n) (h1:n<0→m= -n):sg g (m*P)=n*P∧sg (!g) (m*P)= -(n*P):=by
 by_cases h:n<0
 ·rw [hg,decide_eq_true h,h1 h,Int.neg_mul];simp [sg]
 rw [hg,decide_eq_false h,h0 (by omega)];simp [sg]
theorem cmp_dec {n s n' s' m m' S v:Int} {g g' h:Bool} {e:ByteArray} (hS:s≤S∧s'≤S∧S≤6) (hg:g=decide (n<0)) (h0:0≤n→m=n) (h1:n<0→m= -n) (hg':g'=decide (n'<0)) (h0':0≤n'→m'=n') (h1':n'<0→m'= -n') (he:sg h (natV e)=sg g (m*p10 (S - s))+sg (!g') (m'*p10 (S - s'))) (hc:E1.Canon e)
  (hv:((e.size:Int)=0∧v=0)∨(¬(e.size:Int)=0∧h=true∧v= -1)∨(¬(e.size:Int)=0∧h=false∧v=1)):(v= -1∧decV n s<decV n' s')∨(v=1∧decV n' s'<decV n s)∨(v=0∧decV n s=decV n' s'):=by
 rw [(sg_n hg h0 h1).1,(sg_n hg' h0' h1').2] at he;have e1:decV n s=(n*p10 (S - s))*p10 (6 - S):=by
  unfold decV;rw [Int.mul_assoc,← p10_add (by omega) (by omega)];congr 2;omega
 have e2:decV n' s'=(n'*p10 (S - s'))*p10 (6 - S):=by
  unfold decV;rw [Int.mul_assoc,← p10_add (by omega) (by omega)];congr 2;omega
 have hp:=p10_pos (6 - S);rw [e1,e2];generalize n*p10 (S - s)=A at*;generalize n'*p10 (S - s')=B at*
 rcases hv with ⟨hz,rfl⟩ | ⟨hz,hh,rfl⟩ | ⟨hz,hh,rfl⟩
 ·right;right;rw [natV_of0 (by omega)] at he;have:A=B:=by cases h<;>simp [sg] at he<;>omega
  rw [this];exact ⟨rfl,rfl⟩
 ·left;have h2:(1:Int)≤natV e:=by have:=canon_big (s:=e) (m:=0) hc (by omega);simpa using this
  rw [hh] at he;simp only [sg] at he;exact ⟨rfl,Int.mul_lt_mul_of_pos_right (by omega) hp⟩
 right;left;have h2:(1:Int)≤natV e:=by have:=canon_big (s:=e) (m:=0) hc (by omega);simpa using this
 rw [hh] at he;simp only [sg] at he;exact ⟨rfl,Int.mul_lt_mul_of_pos_right (by omega) hp⟩
theorem c136_w (n s n' s':Int) (h:right04 n s=true) (h':right04 n' s'=true) (h0:0≤s) (h1:s≤6) (h2:0≤s') (h3:s'≤6):ValC Tryz.prog GG 136 [a [i n,i s],a [i n',i s']] (fun r=>∃v:Int,r=o (i v)∧((v= -1∧decV n s<decV n' s')∨(v=1∧decV n' s'<decV n s)∨(v=0∧decV n s=decV n' s'))):=by
 refine vX (fn:=Tryz.f136)<| yC 9 (c265 n s (by omega)) ?_
 rintro _ ⟨g0,c1,rfl,_,hq3,hq4,hq5,_,_⟩;refine yC 6 (c265 n' s' (by omega)) ?_;rintro _ ⟨g8,c9,rfl,_,hq11,hq12,hq13,_,_⟩;refine yC 15 (c266 g0 (!g8) c1 c9 s s' (by omega) (by omega) (by omega) (by omega) (by omega) (by omega) (by omega) (by omega)) ?_;rintro _ ⟨h16,e17,rfl,hq18,hq19⟩
 by_cases hb20:((↑e17.size:Int)=0)
 ·exact ye 11 22 (↑e17.size:Int) 0<| yF 5 (o (i 0))<| ⟨_,rfl,cmp_dec (S:=if s'>s then s' else s) (by split<;>omega) hq5 hq3 hq4 hq13 hq11 hq12 hq18 hq19 (.inl ⟨by assumption,rfl⟩)⟩
 refine yu 11 22 (↑e17.size:Int) 0 ?_;cases hb21:h16
 ·exact yF 14 (o (i 1))<| ⟨_,rfl,cmp_dec (S:=if s'>s then s' else s) (by split<;>omega) hq5 hq3 hq4 hq13 hq11 hq12 hq18 hq19 (.inr (.inr ⟨by assumption,by assumption,rfl⟩))⟩
 exact yF 13 (o (i (-1)))<| ⟨_,rfl,cmp_dec (S:=if s'>s then s' else s) (by split<;>omega) hq5 hq3 hq4 hq13 hq11 hq12 hq18 hq19 (.inr (.inl ⟨by assumption,by assumption,rfl⟩))⟩
theorem c136 (n s n' s':Int) (h:right04 n s=true) (h':right04 n' s'=true):ValC Tryz.prog GG 136 [a [i n,i s],a [i n',i s']] (fun r=>∃v:Int,r=o (i v)∧((v= -1∧decV n s<decV n' s')∨(v=1∧decV n' s'<decV n s)∨(v=0∧decV n s=decV n' s'))):=
 have e:=right_bounds h;have e':=right_bounds h'
 c136_w n s n' s' h h' e.2.2.1 e.2.2.2 e'.2.2.1 e'.2.2.2
theorem fit_right {n t m:Int} {d:ByteArray} (h0:0≤t) (h1:t≤6) (hn:n=m∨n= -m) (hm:0≤m) (h2:m≤1000000000000000) (h:t=0∨m%10≠0):right04 n t=true:=by
 unfold right04;have e:n.tmod 10=0→m%10=0:=by
  intro hz
  rcases hn with rfl | rfl
  ·rwa [Int.tmod_eq_emod_of_nonneg hm] at hz
  rw [Int.neg_tmod,Int.tmod_eq_emod_of_nonneg hm] at hz;omega
 simp;refine ⟨h0,h1,by omega,by omega,?_⟩
 rcases h with h | h
 ·exact .inl h
 exact .inr (fun hz=>h (e hz))
theorem rest_pos {r s t:ByteArray} {m:Int} (h:natV r=natV s%natV t) (ht:natV t=10) (hm:m=natV s) (hc:E1.Canon r) (hs:(r.size:Int)>0):m%10≠0:=by
 have h2:(1:Int)≤natV r:=by have:=canon_big (s:=r) (m:=0) hc (by omega);simpa using this
 rw [h,ht,← hm] at h2;omega
theorem quo_le {r s t:ByteArray} (h:natV r=natV s /natV t) (ht:natV t=10):natV r≤natV s:=by
 have:=natV_nonneg s;rw [h,ht];omega
theorem c275 (g:Bool) (c:ByteArray) (s:Int) (hc:(c.size:Int)≤1000) (h0:0≤s) (h1:s≤6) (hv:natV c≤1000000000000000):ValC Tryz.prog GG 275 [a [b g,sv c,i s]] (fun r=>∃(n t:Int),r= .tup [.agg [i n,i t],.one (b true)]∧right04 n t=true):=by
 refine vX (fn:=Tryz.f275)<| yP 9 [0,1] 55 (pT Tryz.f275 [1,0,0,0]) (α:=(ByteArray×Int)) (fun (d,t)=>(d.size:Int)≤1000∧0≤t∧t≤6∧natV d≤1000000000000000) (fun (d,t)=>t.toNat) (fun (d,t)=>([(1,o (.ref 0 0)),(2,o (.ref 1 0))],[.cells [b g,.p (.vl (.string d)),i t] false,.cells [i 0,i 0] false])) (c,s) (by omega) ?_
 rintro ⟨d,t⟩ hI ih3 J
 try dsimp only at hI ih3 ⊢
 obtain ⟨_,_,_,_⟩:=hI;refine yB 7 11 (t>0) (fun _=> ?_) fun _=> ?_
 ·refine yD 4 [] [] (List.range 11)<| yC 2 (c383 10 (by decide) (by decide)) ?_
  rintro _ ⟨c5,rfl,_,_,_⟩;refine yC 0 (c269 d c5 (by omega) (by omega) (by omega) (by omega) (by omega)) ?_;rintro _ ⟨c9,d10,rfl,_,_,_,_,_,_⟩;refine yB 15 22 ((↑d10.size:Int)>0) (fun _=> ?_) fun _=> ?_
  ·refine yC 6 (c394 d (by omega) (by omega)) ?_;rintro _ ⟨n18,rfl,_,_⟩;refine yn 16 41 (n18>1000000000000000)<| yn 5 45 (t>6) ?_
   cases hb23:g
   ·exact yF 19 (.tup [.agg [i n18,i t],.one (b true)])<| ⟨_,_,rfl,fit_right (d:=d) (m:=natV d) (by omega) (by omega) (by omega) (natV_nonneg d) (by omega) (by exact .inr (rest_pos (s:=d) (by assumption) (by assumption) rfl (by assumption) (by assumption)))⟩
   exact yQ 23 1 0 (yw (0 - n18)) i<| yF 0 (.tup [.agg [i (0 - n18),i t],.one (b true)])<| ⟨_,_,rfl,fit_right (d:=d) (m:=natV d) (by omega) (by omega) (by omega) (natV_nonneg d) (by omega) (by exact .inr (rest_pos (s:=d) (by assumption) (by assumption) rfl (by assumption) (by assumption)))⟩
  exact yQ 17 0 2 (yw (t - 1)) i<| yK 0 [0,1] (ih3 (c9,(t - 1)) (by (have h9:=quo_le (s:=d) (by assumption) (by assumption);dsimp only;omega)) (by (dsimp only;omega)))
 refine yC 6 (c394 d (by omega) (by omega)) ?_;rintro _ ⟨n24,rfl,_,_⟩;refine yn 16 41 (n24>1000000000000000)<| yn 5 45 (t>6) ?_
 cases hb29:g
 ·exact yF 19 (.tup [.agg [i n24,i t],.one (b true)])<| ⟨_,_,rfl,fit_right (d:=d) (m:=natV d) (by omega) (by omega) (by omega) (natV_nonneg d) (by omega) (by exact .inl (by omega))⟩
 exact yQ 23 1 0 (yw (0 - n24)) i<| yF 0 (.tup [.agg [i (0 - n24),i t],.one (b true)])<| ⟨_,_,rfl,fit_right (d:=d) (m:=natV d) (by omega) (by omega) (by omega) (natV_nonneg d) (by omega) (by exact .inl (by omega))⟩
theorem c145 (n s:Int) (h0: -1000000000000000≤n) (h1:n≤1000000000000000) (h2:0≤s) (h3:s≤6):ValC Tryz.prog GG 145 [o (i n),o (i s)] (fun r=>∃(m t:Int),r= .tup [.agg [i m,i t],.one (b true)]∧right04 m t=true):=by
 refine vX (fn:=Tryz.f145)<| yn 11 8 (s<0)<| yn 4 11 (s>18)<| yC 7 (c276 n (by omega) (by omega)) ?_
 rintro _ ⟨c2,rfl,_,_,_,_⟩;refine yC 2 (c275 (decide (n<0)) c2 s (by omega) (by omega) (by omega) (by omega)) ?_;rintro _ ⟨n7,t8,rfl,_⟩;exact yF 5 (.tup [.agg [i n7,i t8],.one (b true)])<| ⟨_,_,rfl,by assumption⟩
theorem c75 (L:List Int) (x:PV) (K:Int) (h:Nums L x K):RefC Tryz.prog GG 75 [o (.ref 0 0)] [.p x,i K] (fun r cs=>∃n s K':Int,r=a [i n,i s]∧cs=[.p x,i K']∧right04 n s=true∧Nums L x K'):=by
 refine vR (fn:=Tryz.f75)<| yR 7 0 (c21 _ _ _ 2001 h (by decide) (by decide)) ?_
 rintro _ _ ⟨v0,K1,rfl,rfl,_,_,hq4⟩;refine yJ 7 3 (v0 - 1000)<| yR 0 0 (c21 _ _ _ 8 hq4 (by decide) (by decide)) ?_
 rintro _ _ ⟨v5,K6,rfl,rfl,_,_,hq9⟩
 by_cases hb10:(v5=7)
 ·refine ye 2 11 v5 7<| yR 3 0 (c21 _ _ _ 2000000000000001 hq9 (by decide) (by decide)) ?_
  rintro _ _ ⟨v11,K12,rfl,rfl,_,_,hq15⟩;refine yJ 7 16 (v11 - 1000000000000000)<| yR 0 0 (c21 _ _ _ 4 hq15 (by decide) (by decide)) ?_
  rintro _ _ ⟨v16,K17,rfl,rfl,_,_,_⟩;refine yC 0 (c145 (v11 - 1000000000000000) v16 (by omega) (by omega) (by omega) (by omega)) ?_;rintro _ ⟨m21,t22,rfl,_⟩;exact yFR 12 (a [i m21,i t22]) [.p x,i K17] (r':=a [i m21,i t22]) (ts:=[])<| ⟨_,_,_,rfl,rfl,by assumption,by assumption⟩
 refine yu 2 11 v5 7<| yR 6 0 (c21 _ _ _ 4 hq9 (by decide) (by decide)) ?_
 rintro _ _ ⟨v24,K25,rfl,rfl,_,_,_⟩;refine yC 0 (c145 (v0 - 1000) v24 (by omega) (by omega) (by omega) (by omega)) ?_;rintro _ ⟨m29,t30,rfl,_⟩;exact yFR 12 (a [i m29,i t30]) [.p x,i K25] (r':=a [i m29,i t30]) (ts:=[])<| ⟨_,_,_,rfl,rfl,by assumption,by assumption⟩
theorem c26_0 (L:List Int) (x:PV) (K k:Int) (h:Nums L x K) (h0:0≤k) (h4:k≤4):RefC Tryz.prog GG 26 [o (.ref 0 0),o (i k)] [.p x,i K] (fun r cs=>∃(k':Int) (s:ByteArray) (dn ds n K':Int),r=a [i k',sv s,i dn,i ds,i n,nl,nl]∧cs=[.p x,i K']∧RightC k' s dn ds n∧k'=k∧Nums L x K'):=by
 refine vR (fn:=Tryz.f26) ?_
 by_cases hb0:(k=1)
 ·refine ye 15 7 k 1<| yR 5 0 (c74 _ _ _ h) ?_
  rintro _ _ ⟨s1,K2,rfl,rfl,_,_⟩;exact yFR 3 (a [i k,.p (.vl (.string s1)),i 0,i 0,i 0,nl,nl]) [.p x,i K2] (r':=a [i k,.p (.vl (.string s1)),i 0,i 0,i 0,nl,nl]) (ts:=[])<| ⟨k,_,0,0,0,_,rfl,rfl,.inr (.inl ⟨by omega,by assumption,rfl,rfl,rfl⟩),rfl,by assumption⟩
 refine yu 15 7 k 1 ?_
 by_cases hb5:(k=2)
 ·refine ye 6 13 k 2<| yR 5 0 (c75 _ _ _ h) ?_
  rintro _ _ ⟨n6,s7,K8,rfl,rfl,_,_⟩;exact yFR 3 (a [i k,.p (.vl (vs [])),i n6,i s7,i 0,nl,nl]) [.p x,i K8] (r':=a [i k,.p (.vl (vs [])),i n6,i s7,i 0,nl,nl]) (ts:=[])<| ⟨k,⟨#[]⟩,_,_,0,_,rfl,rfl,.inr (.inr (.inl ⟨by omega,rfl,by assumption,rfl⟩)),rfl,by assumption⟩
 refine yu 6 13 k 2 ?_
 by_cases hb11:(k=3)
 ·refine ye 6 19 k 3<| yR 4 0 (c21 _ _ _ 1000 h (by decide) (by decide)) ?_
  rintro _ _ ⟨v12,K13,rfl,rfl,_,_,hq16⟩;refine yJ 7 5 (738000+v12)<| yR 0 0 (c21 _ _ _ 8 hq16 (by decide) (by decide)) ?_
  rintro _ _ ⟨v17,K18,rfl,rfl,_,_,hq21⟩
  by_cases hb22:(v17=7)
  ·refine ye 2 26 v17 7<| yR 3 0 (c21 _ _ _ 3652059 hq21 (by decide) (by decide)) ?_
   rintro _ _ ⟨v23,K24,rfl,rfl,_,_,_⟩;exact yFR 9 (a [i k,.p (.vl (vs [])),i 0,i 0,i v23,nl,nl]) [.p x,i K24] (r':=a [i k,.p (.vl (vs [])),i 0,i 0,i v23,nl,nl]) (ts:=[])<| ⟨k,⟨#[]⟩,0,0,_,_,rfl,rfl,.inr (.inr (.inr (.inl ⟨by omega,rfl,rfl,rfl,by omega,by omega⟩))),rfl,by assumption⟩
  exact yu 2 26 v17 7<| yFR 9 (a [i k,.p (.vl (vs [])),i 0,i 0,i (738000+v12),nl,nl]) [.p x,i K18] (r':=a [i k,.p (.vl (vs [])),i 0,i 0,i (738000+v12),nl,nl]) (ts:=[])<| ⟨k,⟨#[]⟩,0,0,_,_,rfl,rfl,.inr (.inr (.inr (.inl ⟨by omega,rfl,rfl,rfl,by omega,by omega⟩))),rfl,by assumption⟩
 refine yu 6 19 k 3 ?_
 by_cases hb28:(k=4)
 ·refine ye 6 32 k 4<| yR 5 0 (c21 _ _ _ 2 h (by decide) (by decide)) ?_
  rintro _ _ ⟨v29,K30,rfl,rfl,_,_,_⟩;exact yFR 3 (a [i k,.p (.vl (vs [])),i 0,i 0,i v29,nl,nl]) [.p x,i K30] (r':=a [i k,.p (.vl (vs [])),i 0,i 0,i v29,nl,nl]) (ts:=[])<| ⟨k,⟨#[]⟩,0,0,_,_,rfl,rfl,.inr (.inr (.inr (.inr ⟨by omega,rfl,rfl,rfl,by omega,by omega⟩))),rfl,by assumption⟩
 refine yu 6 32 k 4 ?_;have:¬(k=5):=by omega
 refine yu 6 38 k 5<| yR 6 0 (c21 _ _ _ 100 h (by decide) (by decide)) ?_
 rintro _ _ ⟨v35,K36,rfl,rfl,_,_,_⟩;refine yFR 3 (a [i 0,.p (.vl (vs [])),i 0,i 0,i v35,nl,nl]) [.p x,i K36] (r':=a [i 0,.p (.vl (vs [])),i 0,i 0,i v35,nl,nl]) (ts:=[]) ?_
 (obtain rfl:k=0:=(by omega);exact ⟨0,⟨#[]⟩,0,0,_,_,rfl,rfl,.inl ⟨rfl,rfl,rfl,rfl,by omega,by omega⟩,rfl,by assumption⟩)
end Go.Sx.E1
