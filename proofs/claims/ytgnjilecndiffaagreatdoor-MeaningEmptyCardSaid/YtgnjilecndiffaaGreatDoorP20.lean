/- A part of the proof of MeaningEmpty. -/
import Derived.Test.YtgnjilecndiffaaGreatDoorP19
set_option linter.all false
set_option maxRecDepth 1000000
set_option maxHeartbeats 0
namespace Go.Sx.E1
open Go.Proofs
variable [MaxL]
def KdOk3 (Kd:List Int):Prop:=∀b∈Kd,1≤b∧b≤3
theorem kd3_snoc {Kd:List Int} {d:Int} (h:KdOk3 Kd) (h1:1≤d∧d≤3):KdOk3 (Kd++[d]):=by
 intro x hx
 rcases List.mem_append.1 hx with h2 | h2
 ·exact h x h2
 simp only [List.mem_cons,List.mem_nil_iff,or_false] at h2;subst h2;exact h1
theorem fact_kd3 {Kd:List Int} (n:Nat) (h:KdOk3 Kd) (hn:n<Kd.length):1≤Kd.getD n 0∧Kd.getD n 0≤3:=by
 have:Kd.getD n 0=Kd[n]:=by simp [hn]
 rw [this];exact h _ (by simp)
theorem kd3_set {Kd:List Int} (h:KdOk3 Kd):KdOk3 (Kd.set 0 1):=by
 intro x hx
 rcases List.mem_or_eq_of_mem_set hx with h2 | h2
 ·exact h x h2
 subst h2;decide
theorem isS_set {Kd:List Int}:IsS encI (Kd.set 0 1) (.sl Kd.length ((Kd.set 0 1).flatMap encI)):=by
 have:IsS encI (Kd.set 0 1) (.sl (Kd.set 0 1).length ((Kd.set 0 1).flatMap encI)):= .sl
 rwa [List.length_set] at this
theorem jc23_0 (nme:ByteArray) (L:List Int) (x:PV) (hx:IsS encI L x) (hL:(L.length:Int)<4611686018427387904) (w:Int) (rr:Int) (Kc:Int) (y:PV) (yc:PV) (hI:∃(Kd:List Int) (C:List ByteArray),IsS encI Kd y∧(Kd.length:Int)=w∧KdOk3 Kd∧Kd.getD 0 0=1∧IsS encS C yc∧C=citL.take w.toNat∧(C.length:Int)=w∧1≤w∧w≤4∧0≤rr∧rr≤6∧Nums L x Kc):∀J,X 0 23 (.s (pT Tryz.f23 [1,1,1,1,1,1,1,1,0,1,0]) (stOf 79 ([(4,o (.ref 0 0)),(5,o (.ref 1 0)),(6,o (.ref 2 0)),(7,o (i w)),(8,o (.p y)),(10,o (i rr)),(11,o (i 0))],[.cells [.p (.vl (vs [])),nl,nl] false,.cells [.p x,i Kc] false,.cells [.p (.vl (.string nme)),.p yc,nl] false]) J)) (fun st=>∃r,resultsR TT GG Tryz.f23 st=some r∧∃r' ts,fzR st.hp r=some (r',ts)∧(fun r=>∃(w:Nat) (R:List (Row w)) (y z:PV) (Kd:List Int),r=a [sv nme,.p y,.p z]∧IsS encS (citL.take w) y∧1≤w∧w≤4∧IsS encRow R z∧R.length≤6∧Kd.length=w∧KdOk3 Kd∧Kd.getD 0 0=1∧RowsOk Kd R) r'):=by
 intro J;obtain ⟨Kd76,C77,hq78,_,_,_,_,_,_,_,_,_,_,_⟩:=hI;refine yP 1 [0,1,2] 79 (pT Tryz.f23 [1,1,1,1,1,1,1,1,0,1,0,0]) (α:=(Int×Int) ⊕ (Int×Int×List (Row w.toNat))) (fun ix_=>match ix_ with | (.inl (k,Kg))=>k=0∧Nums L x Kg | (.inr (q,Ke,R))=>1≤q∧q≤rr∧(R.length:Int)=q∧RowsOk (kdOf y) R∧Nums L x Ke) (fun ix_=>match ix_ with | (.inl (k,Kg))=>(rr - k).toNat | (.inr (q,Ke,R))=>(rr - q).toNat) (fun ix_=>match ix_ with | (.inl (k,Kg))=>([(4,o (.ref 0 0)),(5,o (.ref 1 0)),(6,o (.ref 2 0)),(7,o (i w)),(8,o (.p y)),(10,o (i rr)),(11,o (i k))],[.cells [.p (.vl (vs [])),nl,nl] false,.cells [.p x,i Kg] false,.cells [.p (.vl (.string nme)),.p yc,nl] false]) | (.inr (q,Ke,R))=>([(4,o (.ref 0 0)),(5,o (.ref 1 0)),(6,o (.ref 2 0)),(7,o (i w)),(8,o (.p y)),(10,o (i rr)),(11,o (i q))],[.cells [.p (.vl (vs [])),nl,nl] false,.cells [.p x,i Ke] false,.cells [.p (.vl (.string nme)),.p yc,.lsl 3 0 R.length 1] false,.cells (pc (List.flatMap encRow R)) false])) (.inl (0,Kc)) (by exact ⟨by omega,by assumption⟩) ?_;rintro (⟨k,Kg⟩ | ⟨q,Ke,R⟩) hI ih11 J
 try dsimp only at hI ih11 ⊢
 ·obtain ⟨_,_⟩:=hI;refine yB 7 54 (k<rr) (fun _=> ?_) fun _=> ?_
  ·refine yP 15 [0,1,2] 79 (pT Tryz.f23 [1,1,1,1,1,1,1,1,0,1,0,0,1,0,0,1,0,1,0,0]) (α:=(Int×Int) ⊕ (Int×Int×List Cel)) (fun ix_=>match ix_ with | (.inl (j,Kh))=>j=0∧Nums L x Kh | (.inr (jj,Ki,Rw))=>1≤jj∧jj≤w∧(Rw.length:Int)=jj∧CellsOk (kdOf y) Rw∧Nums L x Ki∧k=k) (fun ix_=>match ix_ with | (.inl (j,Kh))=>(w - j).toNat | (.inr (jj,Ki,Rw))=>(w - jj).toNat) (fun ix_=>match ix_ with | (.inl (j,Kh))=>([(4,o (.ref 0 0)),(5,o (.ref 1 0)),(6,o (.ref 2 0)),(7,o (i w)),(8,o (.p y)),(10,o (i rr)),(11,o (i k)),(12,o (nl)),(13,o (i j))],[.cells [.p (.vl (vs [])),nl,nl] false,.cells [.p x,i Kh] false,.cells [.p (.vl (.string nme)),.p yc,nl] false]) | (.inr (jj,Ki,Rw))=>([(4,o (.ref 0 0)),(5,o (.ref 1 0)),(6,o (.ref 2 0)),(7,o (i w)),(8,o (.p y)),(10,o (i rr)),(11,o (i k)),(12,o (.lsl 3 0 Rw.length 7)),(13,o (i jj))],[.cells [.p (.vl (vs [])),nl,nl] false,.cells [.p x,i Ki] false,.cells [.p (.vl (.string nme)),.p yc,nl] false,.cells (pc (List.flatMap encC Rw)) false])) (.inl (0,Kg)) (by exact ⟨by omega,by assumption⟩) ?_;rintro (⟨j,Kh⟩ | ⟨jj,Ki,Rw⟩) hI ih19 J
   try dsimp only at hI ih19 ⊢
   ·obtain ⟨_,hq94⟩:=hI;refine yp 7 59 (j<w)<| yD 4 [[1],[1],[1],[1],[1]] [[],[],[],[],[],[],[1]] (List.range 11)<| yI 3 j hq78<| yG 0 encI Kd76 j ?_
    have:=(show (1≤Kd76.getD j.toNat 0∧Kd76.getD j.toNat 0≤3) from fact_kd3 j.toNat (by omega) (by omega))
    refine yR 1 1 (c21 _ _ _ 5 hq94 (by decide) (by decide)) ?_;rintro _ _ ⟨v97,K98,rfl,rfl,_,_,_⟩;refine yC 0 (c72 (Kd76.getD j.toNat 0) v97 (by omega) (by omega) (by omega) (by omega)) ?_;rintro _ ⟨k102,s103,dn104,ds105,m106,rfl,hq107,_⟩;exact yJ 11 13 (j+1)<| yK 0 [0,1,2,4] (ih19 (.inr ((j+1),K98,([Cel.mk k102 s103 dn104 ds105 m106 hq107]))) (by exact ⟨by omega,by omega,by simp;omega,cells_one (by assumption) (by assumption) (by assumption),by assumption,rfl⟩) (by ((try dsimp only);omega)))
   obtain ⟨_,_,_,_,hq113,_⟩:=hI;refine yB 7 59 (jj<w) (fun _=> ?_) fun _=> ?_
   ·refine yD 4 [[1],[1],[1],[1],[1]] [[],[],[],[],[],[],[1],[],[],[3]] (List.range 11)<| yI 3 jj hq78<| yG 0 encI Kd76 jj ?_
    have:=(show (1≤Kd76.getD jj.toNat 0∧Kd76.getD jj.toNat 0≤3) from fact_kd3 jj.toNat (by omega) (by omega))
    refine yR 1 1 (c21 _ _ _ 5 hq113 (by decide) (by decide)) ?_;rintro _ _ ⟨v117,K118,rfl,rfl,_,_,_⟩;refine yC 0 (c72 (Kd76.getD jj.toNat 0) v117 (by omega) (by omega) (by omega) (by omega)) ?_;rintro _ ⟨k122,s123,dn124,ds125,m126,rfl,hq127,_⟩;exact yA 1 encC Rw (Cel.mk k122 s123 dn124 ds125 m126 hq127) 96<| yJ 9 13 (jj+1)<| yK 0 [0,1,2,5] (ih19 (.inr ((jj+1),K118,(Rw++[Cel.mk k122 s123 dn124 ds125 m126 hq127]))) (by exact ⟨by omega,by omega,by simp;omega,cells_snoc (by assumption) (by assumption) (by assumption) (by assumption),by assumption,rfl⟩) (by ((try dsimp only);omega))) (hh:=(mo (by kernel_rfl) (mo (by kernel_rfl) (mo (by kernel_rfl) (mo (renAt_pc (by kernel_rfl)) (mo_nil))))))
   refine yM 2 12 (r:=o (.lsl 3 0 Rw.length 7)) (r':=o (.p (.sl Rw.length (List.flatMap encC Rw)))) (ts:=[3]) (fzR_one (fzL_pc (fz:=false) (by kernel_rfl) (by exact flat_len (z:=7) (fun _=>rfl) _))) ?_;have hn2:IsS encC Rw (.sl Rw.length (Rw.flatMap encC)):=by exact .sl
   have hn3:Rw.length=w.toNat:=by omega
   exact yJ 16 11 (k+1)<| yK 0 [0,1,2,5] (ih11 (.inr ((k+1),Ki,([Row.mk (PV.sl Rw.length (List.flatMap encC Rw)) Rw hn2 hn3]))) (by exact ⟨by omega,by omega,by simp;omega,rows_snoc (R:=[]) rows_nil (by assumption),by assumption⟩) (by ((try dsimp only);omega)))
  refine yF 7 (a [.p (.vl (.string nme)),.p yc,nl]) ?_
  (refine ⟨w.toNat,[],_,_,kdOf y,rfl,?_,by omega,by omega,.nil rfl,by simp,?_,?_,?_,rows_nil⟩<;>first | (simp only [kdOf_eq (by assumption)];first | assumption | omega) | (simp only [← (by assumption:_=List.take w.toNat citL)];assumption))
 obtain ⟨_,_,_,_,_⟩:=hI;refine yB 7 54 (q<rr) (fun _=> ?_) fun _=> ?_
 ·refine yP 15 [0,1,2,3] 79 (pT Tryz.f23 [1,1,1,1,1,1,1,1,0,1,0,0,1,0,0,1,0,1,0,0]) (α:=(Int×Int) ⊕ (Int×Int×List Cel)) (fun ix_=>match ix_ with | (.inl (j,Kh))=>j=0∧Nums L x Kh | (.inr (jj,Ki,Rw))=>1≤jj∧jj≤w∧(Rw.length:Int)=jj∧CellsOk (kdOf y) Rw∧Nums L x Ki∧q=q) (fun ix_=>match ix_ with | (.inl (j,Kh))=>(w - j).toNat | (.inr (jj,Ki,Rw))=>(w - jj).toNat) (fun ix_=>match ix_ with | (.inl (j,Kh))=>([(4,o (.ref 0 0)),(5,o (.ref 1 0)),(6,o (.ref 2 0)),(7,o (i w)),(8,o (.p y)),(10,o (i rr)),(11,o (i q)),(12,o (nl)),(13,o (i j))],[.cells [.p (.vl (vs [])),nl,nl] false,.cells [.p x,i Kh] false,.cells [.p (.vl (.string nme)),.p yc,.lsl 3 0 R.length 1] false,.cells (pc (List.flatMap encRow R)) false]) | (.inr (jj,Ki,Rw))=>([(4,o (.ref 0 0)),(5,o (.ref 1 0)),(6,o (.ref 2 0)),(7,o (i w)),(8,o (.p y)),(10,o (i rr)),(11,o (i q)),(12,o (.lsl 3 0 Rw.length 7)),(13,o (i jj))],[.cells [.p (.vl (vs [])),nl,nl] false,.cells [.p x,i Ki] false,.cells [.p (.vl (.string nme)),.p yc,.lsl 4 0 R.length 1] false,.cells (pc (List.flatMap encC Rw)) false,.cells (pc (List.flatMap encRow R)) false])) (.inl (0,Ke)) (by exact ⟨by omega,by assumption⟩) ?_ (hh:=(mo (by kernel_rfl) (mo (by kernel_rfl) (mo (by kernel_rfl) (mo (renAt_pc (by kernel_rfl)) (mo_nil))))));rintro (⟨j,Kh⟩ | ⟨jj,Ki,Rw⟩) hI ih19 J
  try dsimp only at hI ih19 ⊢
  ·obtain ⟨_,hq137⟩:=hI;refine yp 7 59 (j<w)<| yD 4 [[1],[1],[1],[1],[1]] [[],[],[],[],[],[],[1]] (List.range 11)<| yI 3 j hq78<| yG 0 encI Kd76 j ?_
   have:=(show (1≤Kd76.getD j.toNat 0∧Kd76.getD j.toNat 0≤3) from fact_kd3 j.toNat (by omega) (by omega))
   refine yR 1 1 (c21 _ _ _ 5 hq137 (by decide) (by decide)) ?_;rintro _ _ ⟨v140,K141,rfl,rfl,_,_,_⟩;refine yC 0 (c72 (Kd76.getD j.toNat 0) v140 (by omega) (by omega) (by omega) (by omega)) ?_;rintro _ ⟨k145,s146,dn147,ds148,m149,rfl,hq150,_⟩;exact yJ 11 13 (j+1)<| yK 0 [0,1,2,5,3] (ih19 (.inr ((j+1),K141,([Cel.mk k145 s146 dn147 ds148 m149 hq150]))) (by exact ⟨by omega,by omega,by simp;omega,cells_one (by assumption) (by assumption) (by assumption),by assumption,rfl⟩) (by ((try dsimp only);omega))) (hh:=(mo (by kernel_rfl) (mo (by kernel_rfl) (mo (by kernel_rfl) (mo (by kernel_rfl) (mo (renAt_pc (by kernel_rfl)) (mo_nil)))))))
  obtain ⟨_,_,_,_,hq156,_⟩:=hI;refine yB 7 59 (jj<w) (fun _=> ?_) fun _=> ?_
  ·refine yD 4 [[1],[1],[1],[1],[1]] [[],[],[],[],[],[],[1],[],[],[3]] (List.range 11)<| yI 3 jj hq78<| yG 0 encI Kd76 jj ?_
   have:=(show (1≤Kd76.getD jj.toNat 0∧Kd76.getD jj.toNat 0≤3) from fact_kd3 jj.toNat (by omega) (by omega))
   refine yR 1 1 (c21 _ _ _ 5 hq156 (by decide) (by decide)) ?_;rintro _ _ ⟨v160,K161,rfl,rfl,_,_,_⟩;refine yC 0 (c72 (Kd76.getD jj.toNat 0) v160 (by omega) (by omega) (by omega) (by omega)) ?_;rintro _ ⟨k165,s166,dn167,ds168,m169,rfl,hq170,_⟩;exact yA 1 encC Rw (Cel.mk k165 s166 dn167 ds168 m169 hq170) 96<| yJ 9 13 (jj+1)<| yK 0 [0,1,2,6,4] (ih19 (.inr ((jj+1),K161,(Rw++[Cel.mk k165 s166 dn167 ds168 m169 hq170]))) (by exact ⟨by omega,by omega,by simp;omega,cells_snoc (by assumption) (by assumption) (by assumption) (by assumption),by assumption,rfl⟩) (by ((try dsimp only);omega))) (hh:=(mo (by kernel_rfl) (mo (by kernel_rfl) (mo (by kernel_rfl) (mo (renAt_pc (by kernel_rfl)) (mo (renAt_pc (by kernel_rfl)) (mo_nil)))))))
  refine yM 2 12 (r:=o (.lsl 3 0 Rw.length 7)) (r':=o (.p (.sl Rw.length (List.flatMap encC Rw)))) (ts:=[3]) (fzR_one (fzL_pc (fz:=false) (by kernel_rfl) (by exact flat_len (z:=7) (fun _=>rfl) _))) ?_;have hn2:IsS encC Rw (.sl Rw.length (Rw.flatMap encC)):=by exact .sl
  have hn3:Rw.length=w.toNat:=by omega
  exact yA 5 encRow R (Row.mk (PV.sl Rw.length (List.flatMap encC Rw)) Rw hn2 hn3) 24<| yJ 10 11 (q+1)<| yK 0 [0,1,2,6] (ih11 (.inr ((q+1),Ki,(R++[Row.mk (PV.sl Rw.length (List.flatMap encC Rw)) Rw hn2 hn3]))) (by exact ⟨by omega,by omega,by simp;omega,rows_snoc (by assumption) (by assumption),by assumption⟩) (by ((try dsimp only);omega))) (hh:=(mo (by kernel_rfl) (mo (by kernel_rfl) (mo (by kernel_rfl) (mo (renAt_pc (by kernel_rfl)) (mo_nil))))))
 refine yFF 7 (a [.p (.vl (.string nme)),.p yc,.lsl 3 0 R.length 1]) (r':=a [.p (.vl (.string nme)),.p yc,.p (.sl R.length (List.flatMap encRow R))]) (ts:=[3]) (fzR_agg (xs:=[.p (.vl (.string nme)),.p yc,.lsl 3 0 R.length 1]) (ps:=[((.vl (.string nme)),[]),(yc,[]),((.sl R.length (List.flatMap encRow R)),[3])]) (mo (by kernel_rfl) (mo (by kernel_rfl) (mo (fzL_pc (fz:=false) (by kernel_rfl) (by exact flat_len (z:=1) (fun _=>rfl) _)) (mo_nil))))) ?_
 (refine ⟨w.toNat,_,_,_,kdOf y,rfl,?_,by omega,by omega,.sl,by omega,?_,?_,?_,by assumption⟩<;>first | (simp only [kdOf_eq (by assumption)];first | assumption | omega) | (simp only [← (by assumption:_=List.take w.toNat citL)];assumption))
theorem c23 (nme:ByteArray) (L:List Int) (x:PV) (hx:IsS encI L x) (hL:(L.length:Int)<4611686018427387904):ValC Tryz.prog GG 23 [o (sv nme),o (.p x)] (fun r=>∃(w:Nat) (R:List (Row w)) (y z:PV) (Kd:List Int),r=a [sv nme,.p y,.p z]∧IsS encS (citL.take w) y∧1≤w∧w≤4∧IsS encRow R z∧R.length≤6∧Kd.length=w∧KdOk3 Kd∧Kd.getD 0 0=1∧RowsOk Kd R):=by
 refine vX (fn:=Tryz.f23) ?_;have hN:Nums L x 0:=by exact ⟨hx,by omega,by omega,by omega⟩
 refine yR 21 1 (c21 _ _ _ 4 hN (by decide) (by decide)) ?_;rintro _ _ ⟨v0,K1,rfl,rfl,_,_,_⟩;refine yJ 14 7 (1+v0)<| yP 0 [0,1,2] 79 (pT Tryz.f23 [1,1,1,1,1,0,1,0,0]) (α:=(Int×Int) ⊕ (Int×Int×List ByteArray×List Int)) (fun ix_=>match ix_ with | (.inl (k,Ka))=>k=0∧Nums L x Ka | (.inr (q,Kb,C,Kd))=>1≤q∧q≤((1+v0))∧C=citL.take q.toNat∧(C.length:Int)=q∧(Kd.length:Int)=q∧KdOk3 Kd∧Nums L x Kb) (fun ix_=>match ix_ with | (.inl (k,Ka))=>(((1+v0)) - k).toNat | (.inr (q,Kb,C,Kd))=>(((1+v0)) - q).toNat) (fun ix_=>match ix_ with | (.inl (k,Ka))=>([(4,o (.ref 0 0)),(5,o (.ref 1 0)),(6,o (.ref 2 0)),(7,o (i (1+v0))),(8,o (nl)),(9,o (i k))],[.cells [.p (.vl (vs [])),nl,nl] false,.cells [.p x,i Ka] false,.cells [.p (.vl (.string nme)),nl,nl] false]) | (.inr (q,Kb,C,Kd))=>([(4,o (.ref 0 0)),(5,o (.ref 1 0)),(6,o (.ref 2 0)),(7,o (i (1+v0))),(8,o (.lsl 3 0 Kd.length 1)),(9,o (i q))],[.cells [.p (.vl (vs [])),nl,nl] false,.cells [.p x,i Kb] false,.cells [.p (.vl (.string nme)),.lsl 4 0 C.length 1,nl] false,.cells (pc (List.flatMap encI Kd)) false,.cells (pc (List.flatMap encS C)) false])) (.inl (0,K1)) (by exact ⟨by omega,by assumption⟩) ?_
 rintro (⟨k,Ka⟩ | ⟨q,Kb,C,Kd⟩) hI ih8 J
 try dsimp only at hI ih8 ⊢
 ·obtain ⟨_,hq6⟩:=hI;refine yp 7 24 (k<1+v0)<| yD 5 [] [[],[],[],[],[],[],[],[],[],[2]] [0,1,3,2,4,5,6,7,8,9] ?_
  have he8:k=0:=by omega
  refine yE 4 9 he8 oi<| yE 0 30 he8 oi<| yR 12 1 (c21 _ _ _ 2 hq6 (by decide) (by decide)) ?_
  rintro _ _ ⟨v9,K10,rfl,rfl,_,_,_⟩;refine yE 3 43 (yw (v9*2)) (fun z=>o (i ((IntKind.i64.wrap (0+z)).tmod 4)))<| yE 0 43 (yw (0+v9*2)) (fun z=>o (i (z.tmod 4))) ?_
  have:=(show (0≤(0+v9*2).tmod 4∧(0+v9*2).tmod 4<4) from fact_tmodV (by omega) (by decide))
  have:=Int.tmod_eq_emod_of_nonneg (a:=(0+v9*2)) (b:=4) (by omega)
  rcases (show ((0+v9*2).tmod 4)=0∨((0+v9*2).tmod 4)=2 from by omega) with he19 | he19
  ·exact yE 0 43 he19 oi<| yK 13 [0,1,2,8,5] (ih8 (.inr (1,K10,([ByteArray.mk (List.map UInt8.ofNat [99,105,116,121]).toArray]),([1]))) (by exact ⟨by omega,by omega,rfl,by ((simp only [List.length_append,List.length_cons,List.length_nil,List.length_take,List.length_drop,List.length_set] at*;omega)),by ((simp only [List.length_append,List.length_cons,List.length_nil,List.length_take,List.length_drop,List.length_set] at*;omega)),kd3_snoc (Kd:=[]) (fun _ h=>by simp at h) (by omega),by assumption⟩) (by ((try dsimp only);omega)))
  exact yE 0 43 he19 oi<| yK 13 [0,1,2,8,5] (ih8 (.inr (1,K10,([ByteArray.mk (List.map UInt8.ofNat [99,105,116,121]).toArray]),([1]))) (by exact ⟨by omega,by omega,rfl,by ((simp only [List.length_append,List.length_cons,List.length_nil,List.length_take,List.length_drop,List.length_set] at*;omega)),by ((simp only [List.length_append,List.length_cons,List.length_nil,List.length_take,List.length_drop,List.length_set] at*;omega)),kd3_snoc (Kd:=[]) (fun _ h=>by simp at h) (by omega),by assumption⟩) (by ((try dsimp only);omega)))
 obtain ⟨_,_,_,_,_,_,hq26⟩:=hI;refine yB 7 24 (q<1+v0) (fun _=> ?_) fun _=> ?_
 ·refine yD 5 [] [[],[],[],[],[],[],[],[4],[],[2]] [0,1,3,2,4,5,6,7,8,9] ?_
  rcases (show q=1∨q=2∨q=3 from by omega) with he28 | he28 | he28
  ·refine yE 4 9 he28 oi<| yE 0 30 he28 oi<| yA 3 encS C (ByteArray.mk (List.map UInt8.ofNat [122,105,112]).toArray) 16<| yR 8 1 (c21 _ _ _ 2 hq26 (by decide) (by decide)) ?_
   rintro _ _ ⟨v30,K31,rfl,rfl,_,_,_⟩;refine yE 3 43 (yw (v30*2)) (fun z=>o (i ((IntKind.i64.wrap (1+z)).tmod 4)))<| yE 0 43 (yw (1+v30*2)) (fun z=>o (i (z.tmod 4))) ?_
   have:=(show (0≤(1+v30*2).tmod 4∧(1+v30*2).tmod 4<4) from fact_tmodV (by omega) (by decide))
   have:=Int.tmod_eq_emod_of_nonneg (a:=(1+v30*2)) (b:=4) (by omega)
   rcases (show ((1+v30*2).tmod 4)=1∨((1+v30*2).tmod 4)=3 from by omega) with he40 | he40
   ·exact yE 0 43 he40 oi<| yA 3 encI Kd 2 8<| yK 9 [0,1,2,10,7] (ih8 (.inr (2,K31,(C++[ByteArray.mk (List.map UInt8.ofNat [122,105,112]).toArray]),(Kd++[2]))) (by exact ⟨by omega,by omega,cit_next ‹C=List.take q.toNat citL› (by exact .inl ⟨by omega,rfl,by omega⟩),by ((simp only [List.length_append,List.length_cons,List.length_nil,List.length_take,List.length_drop,List.length_set] at*;omega)),by ((simp only [List.length_append,List.length_cons,List.length_nil,List.length_take,List.length_drop,List.length_set] at*;omega)),kd3_snoc (by assumption) (by omega),by assumption⟩) (by ((try dsimp only);omega))) (hh:=(mo (by kernel_rfl) (mo (by kernel_rfl) (mo (by kernel_rfl) (mo (renAt_pc (by kernel_rfl)) (mo (renAt_pc (by kernel_rfl)) (mo_nil)))))))
   exact yE 0 43 he40 oi<| yA 3 encI Kd 3 8<| yK 9 [0,1,2,10,7] (ih8 (.inr (2,K31,(C++[ByteArray.mk (List.map UInt8.ofNat [122,105,112]).toArray]),(Kd++[3]))) (by exact ⟨by omega,by omega,cit_next ‹C=List.take q.toNat citL› (by exact .inl ⟨by omega,rfl,by omega⟩),by ((simp only [List.length_append,List.length_cons,List.length_nil,List.length_take,List.length_drop,List.length_set] at*;omega)),by ((simp only [List.length_append,List.length_cons,List.length_nil,List.length_take,List.length_drop,List.length_set] at*;omega)),kd3_snoc (by assumption) (by omega),by assumption⟩) (by ((try dsimp only);omega))) (hh:=(mo (by kernel_rfl) (mo (by kernel_rfl) (mo (by kernel_rfl) (mo (renAt_pc (by kernel_rfl)) (mo (renAt_pc (by kernel_rfl)) (mo_nil)))))))
  ·refine yE 4 9 he28 oi<| yE 0 30 he28 oi<| yA 3 encS C (ByteArray.mk (List.map UInt8.ofNat [99,111,117,110,116,114,121]).toArray) 16<| yR 8 1 (c21 _ _ _ 2 hq26 (by decide) (by decide)) ?_
   rintro _ _ ⟨v44,K45,rfl,rfl,_,_,_⟩;refine yE 3 43 (yw (v44*2)) (fun z=>o (i ((IntKind.i64.wrap (2+z)).tmod 4)))<| yE 0 43 (yw (2+v44*2)) (fun z=>o (i (z.tmod 4))) ?_
   have:=(show (0≤(2+v44*2).tmod 4∧(2+v44*2).tmod 4<4) from fact_tmodV (by omega) (by decide))
   have:=Int.tmod_eq_emod_of_nonneg (a:=(2+v44*2)) (b:=4) (by omega)
   rcases (show ((2+v44*2).tmod 4)=0∨((2+v44*2).tmod 4)=2 from by omega) with he54 | he54
   ·exact yE 0 43 he54 oi<| yA 3 encI Kd 1 8<| yK 9 [0,1,2,10,7] (ih8 (.inr (3,K45,(C++[ByteArray.mk (List.map UInt8.ofNat [99,111,117,110,116,114,121]).toArray]),(Kd++[1]))) (by exact ⟨by omega,by omega,cit_next ‹C=List.take q.toNat citL› (by exact .inr (.inl ⟨by omega,rfl,by omega⟩)),by ((simp only [List.length_append,List.length_cons,List.length_nil,List.length_take,List.length_drop,List.length_set] at*;omega)),by ((simp only [List.length_append,List.length_cons,List.length_nil,List.length_take,List.length_drop,List.length_set] at*;omega)),kd3_snoc (by assumption) (by omega),by assumption⟩) (by ((try dsimp only);omega))) (hh:=(mo (by kernel_rfl) (mo (by kernel_rfl) (mo (by kernel_rfl) (mo (renAt_pc (by kernel_rfl)) (mo (renAt_pc (by kernel_rfl)) (mo_nil)))))))
   exact yE 0 43 he54 oi<| yA 3 encI Kd 1 8<| yK 9 [0,1,2,10,7] (ih8 (.inr (3,K45,(C++[ByteArray.mk (List.map UInt8.ofNat [99,111,117,110,116,114,121]).toArray]),(Kd++[1]))) (by exact ⟨by omega,by omega,cit_next ‹C=List.take q.toNat citL› (by exact .inr (.inl ⟨by omega,rfl,by omega⟩)),by ((simp only [List.length_append,List.length_cons,List.length_nil,List.length_take,List.length_drop,List.length_set] at*;omega)),by ((simp only [List.length_append,List.length_cons,List.length_nil,List.length_take,List.length_drop,List.length_set] at*;omega)),kd3_snoc (by assumption) (by omega),by assumption⟩) (by ((try dsimp only);omega))) (hh:=(mo (by kernel_rfl) (mo (by kernel_rfl) (mo (by kernel_rfl) (mo (renAt_pc (by kernel_rfl)) (mo (renAt_pc (by kernel_rfl)) (mo_nil)))))))
  refine yE 4 9 he28 oi<| yE 0 30 he28 oi<| yA 3 encS C (ByteArray.mk (List.map UInt8.ofNat [115,105,110,99,101]).toArray) 16<| yR 8 1 (c21 _ _ _ 2 hq26 (by decide) (by decide)) ?_
  rintro _ _ ⟨v58,K59,rfl,rfl,_,_,_⟩;refine yE 3 43 (yw (v58*2)) (fun z=>o (i ((IntKind.i64.wrap (3+z)).tmod 4)))<| yE 0 43 (yw (3+v58*2)) (fun z=>o (i (z.tmod 4))) ?_
  have:=(show (0≤(3+v58*2).tmod 4∧(3+v58*2).tmod 4<4) from fact_tmodV (by omega) (by decide))
  have:=Int.tmod_eq_emod_of_nonneg (a:=(3+v58*2)) (b:=4) (by omega)
  rcases (show ((3+v58*2).tmod 4)=1∨((3+v58*2).tmod 4)=3 from by omega) with he68 | he68
  ·exact yE 0 43 he68 oi<| yA 3 encI Kd 2 8<| yK 9 [0,1,2,10,7] (ih8 (.inr (4,K59,(C++[ByteArray.mk (List.map UInt8.ofNat [115,105,110,99,101]).toArray]),(Kd++[2]))) (by exact ⟨by omega,by omega,cit_next ‹C=List.take q.toNat citL› (by exact .inr (.inr ⟨by omega,rfl,by omega⟩)),by ((simp only [List.length_append,List.length_cons,List.length_nil,List.length_take,List.length_drop,List.length_set] at*;omega)),by ((simp only [List.length_append,List.length_cons,List.length_nil,List.length_take,List.length_drop,List.length_set] at*;omega)),kd3_snoc (by assumption) (by omega),by assumption⟩) (by ((try dsimp only);omega))) (hh:=(mo (by kernel_rfl) (mo (by kernel_rfl) (mo (by kernel_rfl) (mo (renAt_pc (by kernel_rfl)) (mo (renAt_pc (by kernel_rfl)) (mo_nil)))))))
  exact yE 0 43 he68 oi<| yA 3 encI Kd 3 8<| yK 9 [0,1,2,10,7] (ih8 (.inr (4,K59,(C++[ByteArray.mk (List.map UInt8.ofNat [115,105,110,99,101]).toArray]),(Kd++[3]))) (by exact ⟨by omega,by omega,cit_next ‹C=List.take q.toNat citL› (by exact .inr (.inr ⟨by omega,rfl,by omega⟩)),by ((simp only [List.length_append,List.length_cons,List.length_nil,List.length_take,List.length_drop,List.length_set] at*;omega)),by ((simp only [List.length_append,List.length_cons,List.length_nil,List.length_take,List.length_drop,List.length_set] at*;omega)),kd3_snoc (by assumption) (by omega),by assumption⟩) (by ((try dsimp only);omega))) (hh:=(mo (by kernel_rfl) (mo (by kernel_rfl) (mo (by kernel_rfl) (mo (renAt_pc (by kernel_rfl)) (mo (renAt_pc (by kernel_rfl)) (mo_nil)))))))
 refine yO 5 (indexAddrA TT 22 (o (.lsl 3 0 Kd.length 1)) (o (i 0))) (indexAddrA_lsl (e:=3) (by kernel_rfl) (by kernel_rfl) (by decide) (by omega))<| yO 0 (storeA TT 3 (o (.ref 3 0)) (o (i 1))) (rule_storeI (L:=Kd) (by kernel_rfl) (by kernel_rfl) (by omega))<| yR 4 1 (c21 _ _ _ 7 hq26 (by decide) (by decide)) ?_
 rintro _ _ ⟨v71,K72,rfl,rfl,_,_,_⟩;refine yM 8 8 (r:=o (.lsl 3 0 Kd.length 1)) (r':=o (.p (.sl Kd.length (List.flatMap encI (Kd.set 0 1))))) (ts:=[3]) (fzR_one (fzL_pc (fz:=false) (by kernel_rfl) (by rw [flat_len (z:=1) (fun _=>rfl),List.length_set])))<| yZ 0 2 1 (x:= .lsl 4 0 C.length 1) (y:=(.sl C.length (List.flatMap encS C))) (ts:=[4]) ?_ (hz:=(fzL_pc (fz:=false) (by kernel_rfl) (by exact flat_len (z:=1) (fun _=>rfl) _)))
 exact yK 0 [0,1,2] (jc23_0 nme L x hx hL (1+v0) v71 K72 (PV.sl Kd.length (List.flatMap encI (Kd.set 0 1))) (PV.sl C.length (List.flatMap encS C)) (by exact ⟨Kd.set 0 1,_,isS_set,by (simp only [List.length_set];omega),kd3_set (by assumption),kd1_set (by omega),.sl,by rw [show (((1+v0)))=q by omega];assumption,by omega,by omega,by omega,by omega,by omega,by assumption⟩))
end Go.Sx.E1
namespace Go.Sx.E1
open Go.Proofs
def clsI (c:Int):Nat:=if c<32∨126<c then 0 else if 48≤c∧c≤57 then 1 else if 65≤c∧c≤90 then 2 else if 97≤c∧c≤122 then 3 else if c=32 then 5 else 6
theorem clsI_le (c:Int):clsI c≤6:=by unfold clsI;grind
theorem clsI_pos {c:Int} (h:32≤c∧c≤126):1≤clsI c∧clsI c≠4:=by unfold clsI;grind
def bU (s:ByteArray):Nat→Nat
 | 0=>0
 | k+1=>bU s k ||| 2^clsI (byteAt s k)
def bitsN (s:ByteArray):Nat:=bU s s.size
theorem bU_test (s:ByteArray) (j:Nat):∀n,(bU s n).testBit j=true↔∃k:Nat,k<n∧clsI (byteAt s k)=j
 | 0=>by simp [bU]
 | n+1=>by
  simp only [bU,Nat.testBit_or,Bool.or_eq_true,bU_test s j n,Nat.testBit_two_pow,decide_eq_true_eq]
  grind
theorem two6 {k:Nat} (h:k≤6):2^k<128:=by
 have:2^k≤2^6:=Nat.pow_le_pow_right (by decide) h;omega
theorem bU_lt (s:ByteArray):∀n,bU s n<128
 | 0=>by simp [bU]
 | n+1=>Nat.or_lt_two_pow (n:=7) (bU_lt s n) (two6 (clsI_le _))
def orI (x y:Int):Int:=IntKind.i64.wrap ((BitVec.ofInt 64 x ||| BitVec.ofInt 64 y).toNat:Int)
def andI (x y:Int):Int:=IntKind.i64.wrap ((BitVec.ofInt 64 x &&& BitVec.ofInt 64 y).toNat:Int)
theorem orI_nat {x y:Nat} (hx:x<9223372036854775808) (hy:y<9223372036854775808):orI x y=((x ||| y:Nat):Int):=by
 have h:(x ||| y)<2^63:=Nat.or_lt_two_pow (by omega) (by omega);unfold orI;rw [show ((BitVec.ofInt 64 (x:Int) ||| BitVec.ofInt 64 (y:Int)).toNat)=(x ||| y) from ?_]
 ·exact wrap_id (by omega) (by omega)
 grind
theorem andI_nat {x y:Nat} (hx:x<9223372036854775808) (hy:y<9223372036854775808):andI x y=((x &&& y:Nat):Int):=by
 have h:(x &&& y)<2^63:=Nat.and_lt_two_pow _ (by omega);unfold andI;rw [show ((BitVec.ofInt 64 (x:Int) &&& BitVec.ofInt 64 (y:Int)).toNat)=(x &&& y) from ?_]
 ·exact wrap_id (by omega) (by omega)
 grind
theorem shl_cls (c:Int):IntKind.i64.wrap (1*2^min (clsI c:Int).toNat 64)=((2^clsI c:Nat):Int):=by
 have h:=clsI_le c;have h2:=two6 h;have e:min (clsI c:Int).toNat 64=clsI c:=by omega
 have e2:(2:Int)^clsI c=((2^clsI c:Nat):Int):=by simp
 rw [e,Int.one_mul,e2];generalize 2^clsI c=m at h2 ⊢
 exact wrap_id (by omega) (by omega)
theorem bits_next {s:ByteArray} {acc k v:Int} (h:acc=(bU s k.toNat:Int)) (hk:0≤k) (hv:v=(clsI (byteAt s k):Int)):
  orI acc (IntKind.i64.wrap (1*2^min v.toNat 64))=(bU s (k+1).toNat:Int):=by
 subst h;subst hv;have h1:=bU_lt s k.toNat;have h2:=two6 (clsI_le (byteAt s k));rw [shl_cls,orI_nat (by omega) (by omega)];rw [show (k+1).toNat=k.toNat+1 by omega];rfl
theorem bits_end {s:ByteArray} {acc k:Int} (h:acc=(bU s k.toNat:Int)) (h1:k≤s.size) (h2:¬k<s.size):acc=(bitsN s:Int):=by
 rw [h,show k=s.size by omega];rfl
end Go.Sx.E1
namespace Go.Sx.E1
open Go.Proofs
theorem ba_ext {x y:ByteArray} (h:x.size=y.size) (hb:∀j:Int,0≤j→j<x.size→byteAt x j=byteAt y j):x=y:=by
 apply ByteArray.ext;apply Array.ext
 ·exact h
 ·intro k h1 h2;have h1':k<x.size:=h1;have h2':k<y.size:=h2;have:=hb k (by omega) (by omega);rw [byteAt_lt (s:=x) (j:=k) (by simpa using h1'),byteAt_lt (s:=y) (j:=k) (by simpa using h2')] at this;apply UInt8.toNat_inj.1
  exact_mod_cast this
theorem size_app (x y:ByteArray):(x++y).size=x.size+y.size:=ByteArray.size_append
theorem byteAt_appL {x y:ByteArray} {j:Int} (h0:0≤j) (h1:j<x.size):byteAt (x++y) j=byteAt x j:=by
 have e1:j.toNat<(x++y).size:=by rw [size_app];omega
 have e2:j.toNat<x.size:=by omega
 rw [byteAt_lt e1,byteAt_lt e2]
 simp_all
theorem byteAt_appR {x y:ByteArray} {j:Int} (h0:x.size≤j) (h1:j<x.size+y.size):byteAt (x++y) j=byteAt y (j - x.size):=by
 have e1:j.toNat<(x++y).size:=by rw [size_app];omega
 have e2:(j - x.size).toNat<y.size:=by omega
 rw [byteAt_lt e1,byteAt_lt e2]
 congr 2
 have e3:(j - x.size).toNat=j.toNat - x.size:=by omega
 refine (ByteArray.getElem_append_right (by omega)).trans ?_
 simp_all
structure ShW (le mo cl:Int) (be en s:ByteArray):Prop where
 t:TextOk s
 hle:le=s.size
 hmo:le≤mo
 hm2:mo≤200
 hc0:0≤cl
 hc1:cl<128
 hc:∀j:Int,0≤j→j<s.size→cl.toNat.testBit (clsI (byteAt s j))=true
 hb:be.size≤s.size
 he:en.size≤s.size
 hbs:∀j:Int,0≤j→j<be.size→byteAt be j=byteAt s j
 hes:∀j:Int,0≤j→j<en.size→byteAt en j=byteAt s (s.size - en.size+j)
def byte1 (c:Int):ByteArray:=ByteArray.mk #[UInt8.ofNat c.toNat]
theorem byte1_size (c:Int):(byte1 c).size=1:=rfl
theorem byte1_at {c:Int} (h:32≤c∧c≤126):byteAt (byte1 c) 0=c:=by
 rw [byteAt_lt (s:=byte1 c) (j:=0) (by rw [byte1_size];decide)];show ((UInt8.ofNat c.toNat).toNat:Int)=c;simp;omega
def FillOk (cl:Int) (fill:ByteArray) (c:Int):Prop:=∃f:Int,(32≤f∧f≤126)∧fill=byte1 f∧∀d:Int,c<d→d≤126→cl.toNat.testBit (clsI d)=true→cl.toNat.testBit (clsI f)=true
theorem fill_first (cl:Int):FillOk cl (byte1 32) 126:=⟨32,by decide,rfl,fun d h1 h2=>by omega⟩
theorem fill_size {cl c:Int} {fill:ByteArray} (h:FillOk cl fill c):fill.size=1:=by obtain ⟨f,-,rfl,-⟩:=h;rfl
theorem and_pow (n k:Nat):n &&& 2^k≠0↔n.testBit k=true:=by
 constructor
 ·intro h;cases hb:n.testBit k
  ·exfalso;apply h;apply Nat.eq_of_testBit_eq
   grind
  ·rfl
 ·intro h h0;have:(n &&& 2^k).testBit k=true:=by rw [Nat.testBit_and,Nat.testBit_two_pow,h];simp
  simp_all
theorem and_bit {cl v c:Int} (h0:0≤cl) (h1:cl<128) (hv:v=(clsI c:Int)):andI cl (IntKind.i64.wrap (1*2^min v.toNat 64))≠0↔cl.toNat.testBit (clsI c)=true:=by
 subst hv;have h2:=two6 (clsI_le c);have e:cl=(cl.toNat:Int):=by omega
 rw [e,shl_cls,andI_nat (by omega) (by omega),Int.toNat_natCast,← and_pow];omega
theorem fill_take {cl c v:Int} (h0:0≤cl) (h1:cl<128) (hc:32≤c∧c≤126) (hv:v=(clsI c:Int)) (hb:andI cl (IntKind.i64.wrap (1*2^min v.toNat 64))≠0):FillOk cl (byte1 c) (c - 1):=
 ⟨c,hc,rfl,fun d h2 h3 h4=>(and_bit h0 h1 hv).1 hb⟩
theorem fill_skip {cl c v:Int} {fill:ByteArray} (h0:0≤cl) (h1:cl<128) (h:FillOk cl fill c) (hv:v=(clsI c:Int)) (hb:¬andI cl (IntKind.i64.wrap (1*2^min v.toNat 64))≠0):FillOk cl fill (c - 1):=by
 obtain ⟨f,hf,he,h⟩:=h;refine ⟨f,hf,he,fun d h2 h3 h4=> ?_⟩
 by_cases hd:d=c
 ·subst hd;exact absurd ((and_bit h0 h1 hv).2 h4) hb
 grind
theorem fact_cutB (s:ByteArray) (l h:Int):0≤((cutB s l h).size:Int)∧((cutB s l h).size:Int)≤s.size:=by
 have:(cutB s l h).size≤s.size:=by simp [cutB];omega
 omega
def CurP (be fill cur:ByteArray):Prop:=(∀j:Int,0≤j→j<be.size→byteAt cur j=byteAt be j)∧(∀j:Int,be.size≤j→j<cur.size→byteAt cur j=byteAt fill 0)
theorem cur_first (be fill:ByteArray):CurP be fill be:=⟨fun _ _ _=>rfl,fun j h1 h2=>by omega⟩
theorem cur_next {be fill cur:ByteArray} (h:CurP be fill cur) (hf:fill.size=1) (hb:be.size≤cur.size):CurP be fill (cur++fill):=by
 refine ⟨fun j h1 h2=>by rw [byteAt_appL h1 (by omega)];exact h.1 j h1 h2,fun j h1 h2=> ?_⟩;rw [size_app] at h2
 by_cases hj:j<cur.size
 ·rw [byteAt_appL (by omega) hj];exact h.2 j h1 hj
 ·rw [byteAt_appR (by omega) (by omega)]
  grind
theorem str_ne {x y:ByteArray} (e:x=y) (h:(x.toList==y.toList)=false):False:=by simp_all
theorem cut_same {le mo cl n:Int} {be en s cur fill:ByteArray} (hs:ShW le mo cl be en s) (hn:n=s.size) (h1:be.size≤cur.size) (hcur:CurP be fill cur) (h2:(cur.size:Int)=be.size∨(cur.size:Int)+en.size≤n) (h3:¬(cur.size:Int)+en.size<n):
  cutB cur (cur.size - (cur.size+en.size - n)) cur.size=cutB en 0 (cur.size+en.size - n):=by
 have hb:=hs.hb;have he:=hs.he;apply ba_ext
 ·have e1:((cutB cur (cur.size - (cur.size+en.size - n)) cur.size).size:Int)=cur.size - (cur.size - (cur.size+en.size - n)):=cutB_size (by omega) (by omega) (by omega);have e2:((cutB en 0 (cur.size+en.size - n)).size:Int)=(cur.size+en.size - n) - 0:=cutB_size (by omega) (by omega) (by omega);omega
 ·intro j hj0 hj1;have e1:((cutB cur (cur.size - (cur.size+en.size - n)) cur.size).size:Int)=cur.size - (cur.size - (cur.size+en.size - n)):=cutB_size (by omega) (by omega) (by omega);rw [byteAt_cutB (by omega) hj0 (by omega) (by omega),byteAt_cutB (by omega) hj0 (by omega) (by omega)];rw [hcur.1 _ (by omega) (by omega),hs.hbs _ (by omega) (by omega),hs.hes _ (by omega) (by omega)]
  grind
theorem some_ok {le mo cl n c:Int} {be en s cur fill:ByteArray} (hs:ShW le mo cl be en s) (hn:n=s.size) (hf:FillOk cl fill c) (hc:¬c≥32) (hcur:CurP be fill cur) (h1:be.size≤cur.size) (h2:(cur.size:Int)=be.size∨(cur.size:Int)+en.size≤n) (h3:¬(cur.size:Int)+en.size<n):
  ShW le mo cl be en (cur++cutB en (cur.size+en.size - n) en.size):=by
 have hb:=hs.hb;have he:=hs.he;obtain ⟨f,hf0,rfl,hf1⟩:=hf;have e1:((cutB en (cur.size+en.size - n) en.size).size:Int)=en.size - (cur.size+en.size - n):=cutB_size (by omega) (by omega) (by omega);have e2:((cur++cutB en (cur.size+en.size - n) en.size).size:Int)=n:=by rw [size_app];omega
 have hall:∀j:Int,0≤j→j<n→(32≤byteAt (cur++cutB en (cur.size+en.size - n) en.size) j∧byteAt (cur++cutB en (cur.size+en.size - n) en.size) j≤126)∧cl.toNat.testBit (clsI (byteAt (cur++cutB en (cur.size+en.size - n) en.size) j))=true:=by
  intro j hj0 hj1
  by_cases hj:j<cur.size
  ·rw [byteAt_appL hj0 hj]
   by_cases hk:j<be.size
   ·rw [hcur.1 j hj0 hk,hs.hbs j hj0 hk];exact ⟨hs.t.2 j hj0 (by omega),hs.hc j hj0 (by omega)⟩
   ·rw [hcur.2 j (by omega) hj,byte1_at hf0];have hd:=hs.t.2 0 (by omega) (by omega);exact ⟨hf0,hf1 (byteAt s 0) (by omega) (by omega) (hs.hc 0 (by omega) (by omega))⟩
  ·rw [byteAt_appR (by omega) (by omega),byteAt_cutB (by omega) (by omega) (by omega) (by omega),hs.hes _ (by omega) (by omega)];exact ⟨hs.t.2 _ (by omega) (by omega),hs.hc _ (by omega) (by omega)⟩
 have h200:=hs.t.1;have hle:=hs.hle;refine ⟨⟨by omega,fun j h0 h1=>(hall j h0 (by omega)).1⟩,by omega,hs.hmo,hs.hm2,hs.hc0,hs.hc1,fun j h0 h1=>(hall j h0 (by omega)).2,by omega,by omega,fun j h0 h1=> ?_,fun j h0 h1=> ?_⟩
 ·rw [byteAt_appL h0 (by omega),hcur.1 j h0 h1]
 ·rw [e2]
  by_cases hj:n - en.size+j<cur.size
  ·rw [byteAt_appL (by omega) hj,hcur.1 _ (by omega) (by omega),hs.hbs _ (by omega) (by omega),hs.hes j h0 h1]
   congr 1;omega
  ·rw [byteAt_appR (by omega) (by omega),byteAt_cutB (by omega) (by omega) (by omega) (by omega)]
   congr 1;omega
theorem cut_pre {le mo cl:Int} {be en s:ByteArray} (hs:ShW le mo cl be en s):cutB s 0 be.size=be:=by
 have hb:=hs.hb;have e1:((cutB s 0 be.size).size:Int)=be.size - 0:=cutB_size (by omega) (by omega) (by omega);refine ba_ext (by omega) fun j h0 h1=> ?_;rw [byteAt_cutB (by omega) h0 (by omega) (by omega),hs.hbs j h0 (by omega)]
 congr 1;omega
theorem cut_suf {le mo cl:Int} {be en s:ByteArray} (hs:ShW le mo cl be en s):cutB s (s.size - en.size) s.size=en:=by
 have hb:=hs.he;have e1:((cutB s (s.size - en.size) s.size).size:Int)=s.size - (s.size - en.size):=cutB_size (by omega) (by omega) (by omega);refine ba_ext (by omega) fun j h0 h1=> ?_;rw [byteAt_cutB (by omega) h0 (by omega) (by omega),hs.hes j h0 (by omega)]
theorem bits_and {le mo cl v w:Int} {be en s:ByteArray} (hs:ShW le mo cl be en s) (h:¬andI v cl=w) (hv:v=(bitsN s:Int)) (hw:w=(bitsN s:Int)):False:=by
 apply h;subst hv;subst hw;have h0:=hs.hc0;have h1:=hs.hc1;have h2:bitsN s<128:=bU_lt s s.size;have e:cl=(cl.toNat:Int):=by omega
 rw [e,andI_nat (by omega) (by omega)]
 congr 1
 apply Nat.eq_of_testBit_eq;intro j;rw [Nat.testBit_and];cases hb:(bitsN s).testBit j
 ·rfl
 ·obtain ⟨k,hk,e2⟩:=(bU_test s j s.size).1 hb;have:=hs.hc k (by omega) (by omega)
  grind
theorem bits110 {k:Nat} (h1:1≤k) (h2:k≤6) (h4:k≠4):(110:Nat).testBit k=true:=by
 have:k=1∨k=2∨k=3∨k=5∨k=6:=by omega
 grind
theorem join_bits {cl cl' c:Int} (h0:0≤cl) (h1:cl<128) (h0':0≤cl') (h1':cl'<128) (hc:c=andI (orI cl cl') 110):
  0≤c∧c<128∧∀x:Int,32≤x∧x≤126→cl.toNat.testBit (clsI x)=true∨cl'.toNat.testBit (clsI x)=true→c.toNat.testBit (clsI x)=true:=by
 have e:cl=(cl.toNat:Int):=by omega
 have e':cl'=(cl'.toNat:Int):=by omega
 have h3:(cl.toNat ||| cl'.toNat)<2^7:=Nat.or_lt_two_pow (by omega) (by omega);have h4:((cl.toNat ||| cl'.toNat) &&& 110)<2^7:=Nat.and_lt_two_pow _ (by omega);have hc':c=(((cl.toNat ||| cl'.toNat) &&& 110:Nat):Int):=by
  have o1:orI cl cl'=((cl.toNat ||| cl'.toNat:Nat):Int):=by
   have:=orI_nat (x:=cl.toNat) (y:=cl'.toNat) (by omega) (by omega)
   grind
  rw [hc,o1,show (110:Int)=((110:Nat):Int) from rfl,andI_nat (by omega) (by omega)]
 refine ⟨by omega,by omega,fun x hx h=> ?_⟩;have h6:=clsI_pos hx;have h7:=clsI_le x;rw [hc',Int.toNat_natCast,Nat.testBit_and,Nat.testBit_or,bits110 h6.1 h7 h6.2]
 grind
theorem join_ok {le mo cl le' mo' cl' l0 m0 c0 n m:Int} {be en be' en' s s':ByteArray} (hs:ShW le mo cl be en s) (hs':ShW le' mo' cl' be' en' s')
  (hl:(l0=le∧le≤le')∨(l0=le'∧le'≤le)) (hm:(m0=mo∧mo'≤mo)∨(m0=mo'∧mo≤mo')) (hc:c0=andI (orI cl cl') 110)
  (hn0:0≤n) (hn1:n≤be.size) (hn2:n≤be'.size) (hn:∀j:Int,0≤j→j<n→byteAt be j=byteAt be' j)
  (hm0:0≤m) (hm1:m≤en.size) (hm2:m≤en'.size) (hmm:∀j:Int,0≤j→j<m→byteAt en (en.size - 1 - j)=byteAt en' (en'.size - 1 - j)):
  ∃t,ShW l0 m0 c0 (cutB be 0 n) (cutB en (en.size - m) en.size) t:=by
 have e1:((cutB be 0 n).size:Int)=n - 0:=cutB_size (by omega) (by omega) (by omega);have e2:((cutB en (en.size - m) en.size).size:Int)=en.size - (en.size - m):=cutB_size (by omega) (by omega) (by omega);obtain ⟨b0,b1,b2⟩:=join_bits hs.hc0 hs.hc1 hs'.hc0 hs'.hc1 hc;have a1:=hs.hle;have a2:=hs.hmo;have a3:=hs.hm2;have a4:=hs.hb;have a5:=hs.he;have a1':=hs'.hle;have a2':=hs'.hmo;have a3':=hs'.hm2;have a4':=hs'.hb;have a5':=hs'.he
 rcases hl with ⟨rfl,hl⟩ | ⟨rfl,hl⟩
 ·refine ⟨s,hs.t,hs.hle,by omega,by omega,b0,b1,fun j h0 h1=>b2 _ (hs.t.2 j h0 h1) (.inl (hs.hc j h0 h1)),by omega,by omega,fun j h0 h1=> ?_,fun j h0 h1=> ?_⟩
  ·rw [byteAt_cutB (by omega) h0 (by omega) (by omega),← hs.hbs j h0 (by omega)]
   congr 1;omega
  ·rw [byteAt_cutB (by omega) h0 (by omega) (by omega),hs.hes _ (by omega) (by omega)]
   congr 1;omega
 ·refine ⟨s',hs'.t,hs'.hle,by omega,by omega,b0,b1,fun j h0 h1=>b2 _ (hs'.t.2 j h0 h1) (.inr (hs'.hc j h0 h1)),by omega,by omega,fun j h0 h1=> ?_,fun j h0 h1=> ?_⟩
  ·rw [byteAt_cutB (by omega) h0 (by omega) (by omega),← hs'.hbs j h0 (by omega),← hn j h0 (by omega)]
   congr 1;omega
  ·rw [byteAt_cutB (by omega) h0 (by omega) (by omega)];have:=hmm (m - 1 - j) (by omega) (by omega);rw [show (en.size:Int) - 1 - (m - 1 - j)=en.size - m+j by omega] at this;rw [this,hs'.hes _ (by omega) (by omega)]
   congr 1;omega
theorem of_ok {s:ByteArray} {v:Int} (h:TextOk s) (hv:v=(bitsN s:Int)):ShW s.size s.size v s s s:=by
 subst hv;have h2:bitsN s<128:=bU_lt s s.size;refine ⟨h,rfl,by omega,h.1,by omega,by omega,fun j h0 h1=> ?_,by omega,by omega,fun _ _ _=>rfl,fun j h0 h1=>by congr 1;omega⟩;rw [Int.toNat_natCast];exact (bU_test s _ s.size).2 ⟨j.toNat,by omega,by rfl⟩
def ShP (p:Bool) (le mo cl:Int) (be en:ByteArray):Prop:=if p then ∃s,ShW le mo cl be en s else le=1∧mo=0∧cl=0∧be=⟨#[]⟩∧en=⟨#[]⟩
end Go.Sx.E1
namespace Go.Sx.E1
open Go.Proofs
theorem str_eq {x y:ByteArray} (h:(x.toList==y.toList)=true):x=y:=toList_inj.1 (beq_iff_eq.1 h)
open Classical in
noncomputable def idxF (L:List ByteArray) (s:ByteArray):Int:=if s∈L then (L.findIdx (fun x=>decide (x=s)):Int) else -1
theorem idxF_none {L:List ByteArray} {s:ByteArray} (h:∀j:Nat,j<L.length→L.getD j default≠s):idxF L s= -1:=by
 unfold idxF
 grind
theorem idxF_at {L:List ByteArray} {s:ByteArray} {k:Nat} (hk:k<L.length) (h:∀j:Nat,j<k→L.getD j default≠s) (he:L.getD k default=s):idxF L s=k:=by
 have e:L[k]=s:=by rw [← he];simp [hk]
 unfold idxF;rw [if_pos (by grind)]
 congr 1
 rw [List.findIdx_eq hk]
 grind
theorem idx_next {L:List ByteArray} {s:ByteArray} {k:Int} (h0:0≤k) (h:∀j:Nat,(j:Int)<k→L.getD j default≠s) (hn:((L.getD k.toNat default).toList==s.toList)=false):∀j:Nat,(j:Int)<k+1→L.getD j default≠s:=by
 grind
theorem idx_found {L:List ByteArray} {s:ByteArray} {k:Int} (h0:0≤k) (h1:k<L.length) (h:∀j:Nat,(j:Int)<k→L.getD j default≠s) (hn:((L.getD k.toNat default).toList==s.toList)=true):k=idxF L s:=by
 rw [idxF_at (k:=k.toNat) (by omega) (fun j hj=>h j (by omega)) (str_eq hn)];omega
theorem idx_not {L:List ByteArray} {s:ByteArray} {k:Int} (h1:¬k<L.length) (h:∀j:Nat,(j:Int)<k→L.getD j default≠s): -1=idxF L s:=by
 rw [idxF_none (fun j hj=>h j (by omega))]
end Go.Sx.E1
namespace Go.Sx.E1
theorem idx_more {C F:List ByteArray} {k v:Int} (h0:0≤k) (h:∀j:Nat,(j:Int)<k→0≤idxF C (F.getD j default)) (hv:v=idxF C (F.getD k.toNat default)) (hp:0≤v):∀j:Nat,(j:Int)<k+1→0≤idxF C (F.getD j default):=by
 grind
end Go.Sx.E1
namespace Go.Sx.E1
theorem idx_all {C F:List ByteArray} {k q:Int} (h:∀j:Nat,(j:Int)<k→0≤idxF C (F.getD j default)) (h0:0≤q) (h1:q<k):0≤idxF C (F.getD q.toNat default):=h q.toNat (by omega)
end Go.Sx.E1
namespace Go.Sx.E1
open Go.Proofs
variable [MaxL]
theorem c267_1 (n s:Int) (h:right04 n s=true):ValC Tryz.prog GG 267 [a [i n,i s]] (fun r=>r=a [i n,i s]):=by
 refine vX (fn:=Tryz.f267)<| yV 8 (c121_1 n s (by omega))<| yF 13 (a [i n,i s]) ?_
 rfl
def NumV (n s m t:Int):Prop:=right04 n s=true∧right04 m t=true∧decV n s≤decV m t
theorem c137_0 (n s m t:Int) (h:right04 n s=true) (h':right04 m t=true) (hle:decV n s≤decV m t):ValC Tryz.prog GG 137 [a [i n,i s],a [i m,i t]] (fun r=>r=a [i n,i s,i m,i t]):=by
 refine vX (fn:=Tryz.f137)<| yC 11 (c136 n s m t (by omega) (by omega)) ?_
 rintro _ ⟨v0,rfl,_⟩;refine yn 2 8 (v0>0)<| yD 3 [] [[],[],[],[],[],[2]] [0,2,1,3,4,5]<| yV 2 (c267_1 n s (by omega))<| yV 0 (c267_1 m t (by omega))<| yF 3 (a [i n,i s,i m,i t]) ?_
 rfl
theorem c57_0 (n s m t:Int) (h:right04 n s=true) (h':right04 m t=true) (hle:decV n s≤decV m t):ValC Tryz.prog GG 57 [a [i n,i s,i m,i t]] (fun r=>r=o (b false)):=by
 refine vX (fn:=Tryz.f57)<| yC 11 (c136 n s m t (by omega) (by omega)) ?_
 rintro _ ⟨v0,rfl,_⟩;refine yF 3 (o (b (decide (v0>0)))) ?_
 (rw [decide_eq_false (by omega)])
theorem c58_0 (n s m t n' s' m' t':Int) (h1:right04 n s=true) (h2:right04 m t=true) (hle:decV n s≤decV m t) (h3:right04 n' s'=true) (h4:right04 m' t'=true) (hle':decV n' s'≤decV m' t'):ValC Tryz.prog GG 58 [a [i n,i s,i m,i t],a [i n',i s',i m',i t']] (fun r=>∃x y z w:Int,r=a [i x,i y,i z,i w]∧right04 x y=true∧right04 z w=true∧decV x y≤decV z w):=by
 refine vX (fn:=Tryz.f58)<| yV 12 (c137_0 n s m t (by omega) (by omega) (by omega))<| yV 9 (c137_0 n' s' m' t' (by omega) (by omega) (by omega))<| yV 6 (c57_0 n s m t (by omega) (by omega) (by omega))<| yV 5 (c57_0 n' s' m' t' (by omega) (by omega) (by omega))<| yC 23 (c136 n' s' n s (by omega) (by omega)) ?_
 rintro _ ⟨v0,rfl,_⟩;refine yB 2 32 (v0<0) (fun _=> ?_) fun _=> ?_
 ·refine yC 14 (c136 m' t' m t (by omega) (by omega)) ?_;rintro _ ⟨v3,rfl,_⟩;refine yB 2 41 (v3>0) (fun _=> ?_) fun _=> ?_
  ·exact yF 12 (a [i n',i s',i m',i t'])<| ⟨_,_,_,_,rfl,by assumption,by assumption,by omega⟩
  exact yF 7 (a [i n',i s',i m,i t])<| ⟨_,_,_,_,rfl,by assumption,by assumption,by omega⟩
 refine yC 9 (c136 m' t' m t (by omega) (by omega)) ?_;rintro _ ⟨v6,rfl,_⟩;refine yB 2 41 (v6>0) (fun _=> ?_) fun _=> ?_
 ·exact yF 12 (a [i n,i s,i m',i t'])<| ⟨_,_,_,_,rfl,by assumption,by assumption,by omega⟩
 exact yF 7 (a [i n,i s,i m,i t])<| ⟨_,_,_,_,rfl,by assumption,by assumption,by omega⟩
theorem c58_1 (n s m t:Int) (h1:right04 n s=true) (h2:right04 m t=true) (hle:decV n s≤decV m t):ValC Tryz.prog GG 58 [a [i n,i s,i m,i t],a [i 1,i 0,i 0,i 0]] (fun r=>r=a [i n,i s,i m,i t]):=by
 refine vX (fn:=Tryz.f58)<| yV 12 (c137_0 n s m t (by omega) (by omega) (by omega))<| yV 9 (kv (f:=137) (args:=[a [i 1,i 0],a [i 0,i 0]]) (r:=a [i 1,i 0,i 0,i 0]) (by kernel_rfl))<| yV 6 (c57_0 n s m t (by omega) (by omega) (by omega))<| yV 5 (kv (f:=57) (args:=[a [i 1,i 0,i 0,i 0]]) (r:=o (b true)) (by kernel_rfl))<| yF 20 (a [i n,i s,i m,i t]) ?_
 rfl
theorem c58_2 (n s m t:Int) (h1:right04 n s=true) (h2:right04 m t=true) (hle:decV n s≤decV m t):ValC Tryz.prog GG 58 [a [i 1,i 0,i 0,i 0],a [i n,i s,i m,i t]] (fun r=>r=a [i n,i s,i m,i t]):=by
 refine vX (fn:=Tryz.f58)<| yV 12 (kv (f:=137) (args:=[a [i 1,i 0],a [i 0,i 0]]) (r:=a [i 1,i 0,i 0,i 0]) (by kernel_rfl))<| yV 9 (c137_0 n s m t (by omega) (by omega) (by omega))<| yV 6 (kv (f:=57) (args:=[a [i 1,i 0,i 0,i 0]]) (r:=o (b true)) (by kernel_rfl))<| yV 5 (c57_0 n s m t (by omega) (by omega) (by omega))<| yF 13 (a [i n,i s,i m,i t]) ?_
 rfl
theorem c58_3:ValC Tryz.prog GG 58 [a [i 1,i 0,i 0,i 0],a [i 1,i 0,i 0,i 0]] (fun r=>r=a [i 1,i 0,i 0,i 0]):=kv (by kernel_rfl)
def NumP (p:Bool) (n s m t:Int):Prop:=(p=true∧NumV n s m t)∨(p=false∧n=1∧s=0∧m=0∧t=0)
theorem c58 (p q:Bool) (n s m t n' s' m' t':Int) (h:NumP p n s m t) (h':NumP q n' s' m' t'):ValC Tryz.prog GG 58 [a [i n,i s,i m,i t],a [i n',i s',i m',i t']] (fun r=>∃x y z w:Int,r=a [i x,i y,i z,i w]∧NumP (p || q) x y z w):=by
 rcases h with ⟨rfl,h⟩ | ⟨rfl,rfl,rfl,rfl,rfl⟩<;>rcases h' with ⟨rfl,h'⟩ | ⟨rfl,rfl,rfl,rfl,rfl⟩
 ·exact (c58_0 n s m t n' s' m' t' h.1 h.2.1 h.2.2 h'.1 h'.2.1 h'.2.2).mono (fun r ⟨x,y,z,w,e1,e2,e3,e4⟩=>⟨x,y,z,w,e1,.inl ⟨rfl,e2,e3,e4⟩⟩)
 ·exact (c58_1 n s m t h.1 h.2.1 h.2.2).mono (fun r e=>⟨_,_,_,_,e,.inl ⟨rfl,h⟩⟩)
 ·exact (c58_2 n' s' m' t' h'.1 h'.2.1 h'.2.2).mono (fun r e=>⟨_,_,_,_,e,.inl ⟨rfl,h'⟩⟩)
 exact c58_3.mono (fun r e=>⟨_,_,_,_,e,.inr ⟨rfl,rfl,rfl,rfl,rfl⟩⟩)
theorem c50 (F F':List ByteArray) (x y:PV) (s t:ByteArray) (hx:IsS encS F x) (hy:IsS encS F' y) (hl:(F.length:Int)≤100):ValC Tryz.prog GG 50 [a [.p x,sv s],a [.p y,sv t]] (fun r=>∃v:Bool,r=o (b v)):=by
 refine vX (fn:=Tryz.f50)<| yC 12 (c49 _ _ _ _ hx hy (by omega)) ?_
 rintro _ ⟨v0,rfl,_⟩;cases hb2:v0
 ·exact yF 14 (o (b false))<| ⟨_,rfl⟩
 exact yF 14 (o (b (s.toList==t.toList)))<| ⟨_,rfl⟩
end Go.Sx.E1
