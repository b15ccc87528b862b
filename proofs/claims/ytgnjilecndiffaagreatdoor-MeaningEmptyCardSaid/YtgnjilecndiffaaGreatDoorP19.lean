/- A part of the proof of MeaningEmpty. -/
import Derived.Test.YtgnjilecndiffaaGreatDoorP14
import Derived.Test.YtgnjilecndiffaaGreatDoorP18
set_option linter.all false
set_option maxRecDepth 1000000
set_option maxHeartbeats 0
namespace Go.Sx.E1
open Go.Proofs
variable [MaxL]
def abcL:List ByteArray:=[⟨#[97]⟩,⟨#[98]⟩,⟨#[99]⟩]
theorem right0:RightC 0 (ByteArray.mk (List.map UInt8.ofNat []).toArray) 0 0 0:= .inl ⟨rfl,rfl,rfl,rfl,by decide,by decide⟩
def KdOk (Kd:List Int):Prop:=∀b∈Kd,1≤b∧b≤4
theorem abc_next {C:List ByteArray} {q n:Int} {z:ByteArray} (h:C=List.take q.toNat abcL) (hz:(q=1∧z=⟨#[98]⟩∧n=2)∨(q=2∧z=⟨#[99]⟩∧n=3)):C++[z]=List.take n.toNat abcL:=by
 subst h
 rcases hz with ⟨rfl,rfl,rfl⟩ | ⟨rfl,rfl,rfl⟩<;>rfl
theorem kd_snoc {Kd:List Int} {d:Int} (h:KdOk Kd) (h1:1≤d∧d≤4):KdOk (Kd++[d]):=by
 intro x hx
 rcases List.mem_append.1 hx with h2 | h2
 ·exact h x h2
 simp only [List.mem_cons,List.mem_nil_iff,or_false] at h2;subst h2;exact h1
theorem fact_kd {Kd:List Int} (n:Nat) (h:KdOk Kd) (hn:n<Kd.length):1≤Kd.getD n 0∧Kd.getD n 0≤4:=by
 have:Kd.getD n 0=Kd[n]:=by simp [hn]
 rw [this];exact h _ (by simp)
theorem jc76_w_0 (hz:RightC 0 (ByteArray.mk (List.map UInt8.ofNat []).toArray) 0 0 0) (L:List Int) (x:PV) (K:Int) (h:Nums L x K) (w:Int) (rr:Int) (Kc:Int) (y:PV) (yc:PV) (hI:∃(Kd:List Int) (C:List ByteArray),IsS encI Kd y∧(Kd.length:Int)=w∧KdOk Kd∧IsS encS C yc∧C=abcL.take w.toNat∧0≤w∧w≤3∧0≤rr∧rr≤4∧Nums L x Kc):∀J,X 1 76 (.s (pT Tryz.f76 [1,1,1,1,1,1,0,1,0]) (stOf 69 ([(0,o (.ref 0 0)),(2,o (.ref 1 0)),(3,o (.ref 2 0)),(4,o (i w)),(5,o (.p y)),(7,o (i rr)),(8,o (i 0))],[.cells [.p x,i Kc] false,.cells [i 0,.p (.vl (vs [])),i 0,i 0,i 0,nl,nl] false,.cells [i 5,.p (.vl (vs [])),i 0,i 0,i 0,.p yc,nl] false]) J)) (fun st=>∃r,resultsR TT GG Tryz.f76 st=some r∧∃r' ts cs',fzR st.hp r=some (r',ts)∧0∉ts∧st.hp[0]? =some (.cells cs' false)∧cs'.all persL=true∧(fun r cs=>∃(w:Nat) (C:List ByteArray) (R:List (Row w)) (y z:PV) (K':Int),r=a [i 5,sv ⟨#[]⟩,i 0,i 0,i 0,.p y,.p z]∧cs=[.p x,i K']∧IsS encS C y∧C=abcL.take w∧w≤3∧IsS encRow R z∧R.length≤4∧Nums L x K') r' cs'):=by
 intro J;obtain ⟨Kd19,C20,hq21,_,_,_,_,_,_,_,_,_⟩:=hI;refine yP 1 [1,2] 69 (pT Tryz.f76 [1,1,1,1,1,1,0,1,0,0]) (α:=(Int×Int) ⊕ (Int×Int×List (Row w.toNat))) (fun ix_=>match ix_ with | (.inl (k,Kg))=>k=0∧Nums L x Kg | (.inr (q,Ke,R))=>1≤q∧q≤rr∧(R.length:Int)=q∧Nums L x Ke) (fun ix_=>match ix_ with | (.inl (k,Kg))=>(rr - k).toNat | (.inr (q,Ke,R))=>(rr - q).toNat) (fun ix_=>match ix_ with | (.inl (k,Kg))=>([(0,o (.ref 0 0)),(2,o (.ref 1 0)),(3,o (.ref 2 0)),(4,o (i w)),(5,o (.p y)),(7,o (i rr)),(8,o (i k))],[.cells [.p x,i Kg] false,.cells [i 0,.p (.vl (vs [])),i 0,i 0,i 0,nl,nl] false,.cells [i 5,.p (.vl (vs [])),i 0,i 0,i 0,.p yc,nl] false]) | (.inr (q,Ke,R))=>([(0,o (.ref 0 0)),(2,o (.ref 1 0)),(3,o (.ref 2 0)),(4,o (i w)),(5,o (.p y)),(7,o (i rr)),(8,o (i q))],[.cells [.p x,i Ke] false,.cells [i 0,.p (.vl (vs [])),i 0,i 0,i 0,nl,nl] false,.cells [i 5,.p (.vl (vs [])),i 0,i 0,i 0,.p yc,.lsl 3 0 R.length 1] false,.cells (pc (List.flatMap encRow R)) false])) (.inl (0,Kc)) (by exact ⟨by omega,by assumption⟩) ?_;rintro (⟨k,Kg⟩ | ⟨q,Ke,R⟩) hI ih9 J
 try dsimp only at hI ih9 ⊢
 ·obtain ⟨_,_⟩:=hI;refine yB 7 38 (k<rr) (fun _=> ?_) fun _=> ?_
  ·refine yP 15 [1,2] 69 (pT Tryz.f76 [1,1,1,1,1,1,0,1,0,0,1,0,0,1,0,1,0,0]) (α:=(Int×Int) ⊕ (Int×Int×List Cel)) (fun ix_=>match ix_ with | (.inl (j,Kh))=>j=0∧Nums L x Kh | (.inr (jj,Ki,Rw))=>1≤jj∧jj≤w∧(Rw.length:Int)=jj∧Nums L x Ki∧k=k) (fun ix_=>match ix_ with | (.inl (j,Kh))=>(w - j).toNat | (.inr (jj,Ki,Rw))=>(w - jj).toNat) (fun ix_=>match ix_ with | (.inl (j,Kh))=>([(0,o (.ref 0 0)),(2,o (.ref 1 0)),(3,o (.ref 2 0)),(4,o (i w)),(5,o (.p y)),(7,o (i rr)),(8,o (i k)),(9,o (nl)),(10,o (i j))],[.cells [.p x,i Kh] false,.cells [i 0,.p (.vl (vs [])),i 0,i 0,i 0,nl,nl] false,.cells [i 5,.p (.vl (vs [])),i 0,i 0,i 0,.p yc,nl] false]) | (.inr (jj,Ki,Rw))=>([(0,o (.ref 0 0)),(2,o (.ref 1 0)),(3,o (.ref 2 0)),(4,o (i w)),(5,o (.p y)),(7,o (i rr)),(8,o (i k)),(9,o (.lsl 3 0 Rw.length 7)),(10,o (i jj))],[.cells [.p x,i Ki] false,.cells [i 0,.p (.vl (vs [])),i 0,i 0,i 0,nl,nl] false,.cells [i 5,.p (.vl (vs [])),i 0,i 0,i 0,.p yc,nl] false,.cells (pc (List.flatMap encC Rw)) false])) (.inl (0,Kg)) (by exact ⟨by omega,by assumption⟩) ?_;rintro (⟨j,Kh⟩ | ⟨jj,Ki,Rw⟩) hI ih17 J
   try dsimp only at hI ih17 ⊢
   ·obtain ⟨_,hq35⟩:=hI;refine yB 7 43 (j<w) (fun _=> ?_) fun _=> ?_
    ·refine yR 7 0 (c21 _ _ _ 9 hq35 (by decide) (by decide)) ?_;rintro _ _ ⟨v37,K38,rfl,rfl,_,_,hq41⟩
     by_cases hb42:(v37=8)
     ·exact ye 2 48 v37 8<| yJ 15 10 (j+1)<| yK 0 [1,2,4] (ih17 (.inr ((j+1),K38,([Cel.mk 0 (ByteArray.mk (List.map UInt8.ofNat []).toArray) 0 0 0 hz]))) (by exact ⟨by omega,by omega,by simp;omega,by assumption,rfl⟩) (by (dsimp only;omega)))
     refine yu 2 48 v37 8<| yI 6 j hq21<| yG 0 encI Kd19 j ?_
     have:=(show (1≤Kd19.getD j.toNat 0∧Kd19.getD j.toNat 0≤4) from fact_kd j.toNat (by omega) (by omega))
     refine yR 0 0 (c26_0 _ _ _ (Kd19.getD j.toNat 0) hq41 (by omega) (by omega)) ?_;rintro _ _ ⟨k44,s45,dn46,ds47,n48,K49,rfl,rfl,hq50,_,_⟩;exact yJ 11 10 (j+1)<| yK 0 [1,2,4] (ih17 (.inr ((j+1),K49,([Cel.mk k44 s45 dn46 ds47 n48 hq50]))) (by exact ⟨by omega,by omega,by simp;omega,by assumption,rfl⟩) (by (dsimp only;omega)))
    have hn0:IsS encC [] (.vl vn):=by exact .nil rfl
    have hn1:([]:List Cel).length=w.toNat:=by simp;omega
    exact yJ 18 8 (k+1)<| yK 0 [1,2,4] (ih9 (.inr ((k+1),Kh,([Row.mk (PV.vl vn) [] hn0 hn1]))) (by exact ⟨by omega,by omega,by simp;omega,by assumption⟩) (by (dsimp only;omega)))
   obtain ⟨_,_,_,hq56,_⟩:=hI;refine yB 7 43 (jj<w) (fun _=> ?_) fun _=> ?_
   ·refine yR 7 0 (c21 _ _ _ 9 hq56 (by decide) (by decide)) ?_;rintro _ _ ⟨v59,K60,rfl,rfl,_,_,hq63⟩
    by_cases hb64:(v59=8)
    ·exact ye 2 48 v59 8<| yA 5 encC Rw (Cel.mk 0 (ByteArray.mk (List.map UInt8.ofNat []).toArray) 0 0 0 hz) 96<| yJ 9 10 (jj+1)<| yK 0 [1,2,5] (ih17 (.inr ((jj+1),K60,(Rw++[Cel.mk 0 (ByteArray.mk (List.map UInt8.ofNat []).toArray) 0 0 0 hz]))) (by exact ⟨by omega,by omega,by simp;omega,by assumption,rfl⟩) (by (dsimp only;omega))) (hh:=(mo (by kernel_rfl) (mo (by kernel_rfl) (mo (by kernel_rfl) (mo (renAt_pc (by kernel_rfl)) (mo_nil))))))
    refine yu 2 48 v59 8<| yI 6 jj hq21<| yG 0 encI Kd19 jj ?_
    have:=(show (1≤Kd19.getD jj.toNat 0∧Kd19.getD jj.toNat 0≤4) from fact_kd jj.toNat (by omega) (by omega))
    refine yR 0 0 (c26_0 _ _ _ (Kd19.getD jj.toNat 0) hq63 (by omega) (by omega)) ?_;rintro _ _ ⟨k67,s68,dn69,ds70,n71,K72,rfl,rfl,hq73,_,_⟩;exact yA 1 encC Rw (Cel.mk k67 s68 dn69 ds70 n71 hq73) 96<| yJ 9 10 (jj+1)<| yK 0 [1,2,5] (ih17 (.inr ((jj+1),K72,(Rw++[Cel.mk k67 s68 dn69 ds70 n71 hq73]))) (by exact ⟨by omega,by omega,by simp;omega,by assumption,rfl⟩) (by (dsimp only;omega))) (hh:=(mo (by kernel_rfl) (mo (by kernel_rfl) (mo (by kernel_rfl) (mo (renAt_pc (by kernel_rfl)) (mo_nil))))))
   refine yM 2 9 (r:=o (.lsl 3 0 Rw.length 7)) (r':=o (.p (.sl Rw.length (List.flatMap encC Rw)))) (ts:=[3]) (fzR_one (fzL_pc (fz:=false) (by kernel_rfl) (by exact flat_len (z:=7) (fun _=>rfl) _))) ?_;have hn0:IsS encC [] (.vl vn):=by exact .nil rfl
   have hn2:IsS encC Rw (.sl Rw.length (Rw.flatMap encC)):=by exact .sl
   have hn3:Rw.length=w.toNat:=by omega
   exact yJ 16 8 (k+1)<| yK 0 [1,2,5] (ih9 (.inr ((k+1),Ki,([Row.mk (PV.sl Rw.length (List.flatMap encC Rw)) Rw hn2 hn3]))) (by exact ⟨by omega,by omega,by simp;omega,by assumption⟩) (by (dsimp only;omega)))
  exact yFR 7 (a [i 5,.p (.vl (vs [])),i 0,i 0,i 0,.p yc,nl]) [.p x,i Kg] (r':=a [i 5,.p (.vl (vs [])),i 0,i 0,i 0,.p yc,nl]) (ts:=[])<| ⟨w.toNat,_,[],_,_,_,rfl,rfl,by assumption,by assumption,by omega,.nil rfl,by simp,by assumption⟩
 obtain ⟨_,_,_,_⟩:=hI;refine yB 7 38 (q<rr) (fun _=> ?_) fun _=> ?_
 ·refine yP 15 [1,2,3] 69 (pT Tryz.f76 [1,1,1,1,1,1,0,1,0,0,1,0,0,1,0,1,0,0]) (α:=(Int×Int) ⊕ (Int×Int×List Cel)) (fun ix_=>match ix_ with | (.inl (j,Kh))=>j=0∧Nums L x Kh | (.inr (jj,Ki,Rw))=>1≤jj∧jj≤w∧(Rw.length:Int)=jj∧Nums L x Ki) (fun ix_=>match ix_ with | (.inl (j,Kh))=>(w - j).toNat | (.inr (jj,Ki,Rw))=>(w - jj).toNat) (fun ix_=>match ix_ with | (.inl (j,Kh))=>([(0,o (.ref 0 0)),(2,o (.ref 1 0)),(3,o (.ref 2 0)),(4,o (i w)),(5,o (.p y)),(7,o (i rr)),(8,o (i q)),(9,o (nl)),(10,o (i j))],[.cells [.p x,i Kh] false,.cells [i 0,.p (.vl (vs [])),i 0,i 0,i 0,nl,nl] false,.cells [i 5,.p (.vl (vs [])),i 0,i 0,i 0,.p yc,.lsl 3 0 R.length 1] false,.cells (pc (List.flatMap encRow R)) false]) | (.inr (jj,Ki,Rw))=>([(0,o (.ref 0 0)),(2,o (.ref 1 0)),(3,o (.ref 2 0)),(4,o (i w)),(5,o (.p y)),(7,o (i rr)),(8,o (i q)),(9,o (.lsl 3 0 Rw.length 7)),(10,o (i jj))],[.cells [.p x,i Ki] false,.cells [i 0,.p (.vl (vs [])),i 0,i 0,i 0,nl,nl] false,.cells [i 5,.p (.vl (vs [])),i 0,i 0,i 0,.p yc,.lsl 4 0 R.length 1] false,.cells (pc (List.flatMap encC Rw)) false,.cells (pc (List.flatMap encRow R)) false])) (.inl (0,Ke)) (by exact ⟨by omega,by assumption⟩) ?_ (hh:=(mo (by kernel_rfl) (mo (by kernel_rfl) (mo (by kernel_rfl) (mo (renAt_pc (by kernel_rfl)) (mo_nil))))));rintro (⟨j,Kh⟩ | ⟨jj,Ki,Rw⟩) hI ih17 J
  try dsimp only at hI ih17 ⊢
  ·obtain ⟨_,hq83⟩:=hI;refine yB 7 43 (j<w) (fun _=> ?_) fun _=> ?_
   ·refine yR 7 0 (c21 _ _ _ 9 hq83 (by decide) (by decide)) ?_;rintro _ _ ⟨v85,K86,rfl,rfl,_,_,hq89⟩
    by_cases hb90:(v85=8)
    ·exact ye 2 48 v85 8<| yJ 15 10 (j+1)<| yK 0 [1,2,5,3] (ih17 (.inr ((j+1),K86,([Cel.mk 0 (ByteArray.mk (List.map UInt8.ofNat []).toArray) 0 0 0 hz]))) (by exact ⟨by omega,by omega,by simp;omega,by assumption⟩) (by (dsimp only;omega))) (hh:=(mo (by kernel_rfl) (mo (by kernel_rfl) (mo (by kernel_rfl) (mo (by kernel_rfl) (mo (renAt_pc (by kernel_rfl)) (mo_nil)))))))
    refine yu 2 48 v85 8<| yI 6 j hq21<| yG 0 encI Kd19 j ?_
    have:=(show (1≤Kd19.getD j.toNat 0∧Kd19.getD j.toNat 0≤4) from fact_kd j.toNat (by omega) (by omega))
    refine yR 0 0 (c26_0 _ _ _ (Kd19.getD j.toNat 0) hq89 (by omega) (by omega)) ?_;rintro _ _ ⟨k92,s93,dn94,ds95,n96,K97,rfl,rfl,hq98,_,_⟩;exact yJ 11 10 (j+1)<| yK 0 [1,2,5,3] (ih17 (.inr ((j+1),K97,([Cel.mk k92 s93 dn94 ds95 n96 hq98]))) (by exact ⟨by omega,by omega,by simp;omega,by assumption⟩) (by (dsimp only;omega))) (hh:=(mo (by kernel_rfl) (mo (by kernel_rfl) (mo (by kernel_rfl) (mo (by kernel_rfl) (mo (renAt_pc (by kernel_rfl)) (mo_nil)))))))
   have hn0:IsS encC [] (.vl vn):=by exact .nil rfl
   have hn1:([]:List Cel).length=w.toNat:=by simp;omega
   exact yA 7 encRow R (Row.mk (PV.vl vn) [] hn0 hn1) 24<| yJ 10 8 (q+1)<| yK 0 [1,2,5] (ih9 (.inr ((q+1),Kh,(R++[Row.mk (PV.vl vn) [] hn0 hn1]))) (by exact ⟨by omega,by omega,by simp;omega,by assumption⟩) (by (dsimp only;omega))) (hh:=(mo (by kernel_rfl) (mo (by kernel_rfl) (mo (by kernel_rfl) (mo (renAt_pc (by kernel_rfl)) (mo_nil))))))
  obtain ⟨_,_,_,hq105⟩:=hI;refine yB 7 43 (jj<w) (fun _=> ?_) fun _=> ?_
  ·refine yR 7 0 (c21 _ _ _ 9 hq105 (by decide) (by decide)) ?_;rintro _ _ ⟨v107,K108,rfl,rfl,_,_,hq111⟩
   by_cases hb112:(v107=8)
   ·exact ye 2 48 v107 8<| yA 5 encC Rw (Cel.mk 0 (ByteArray.mk (List.map UInt8.ofNat []).toArray) 0 0 0 hz) 96<| yJ 9 10 (jj+1)<| yK 0 [1,2,6,4] (ih17 (.inr ((jj+1),K108,(Rw++[Cel.mk 0 (ByteArray.mk (List.map UInt8.ofNat []).toArray) 0 0 0 hz]))) (by exact ⟨by omega,by omega,by simp;omega,by assumption⟩) (by (dsimp only;omega))) (hh:=(mo (by kernel_rfl) (mo (by kernel_rfl) (mo (by kernel_rfl) (mo (renAt_pc (by kernel_rfl)) (mo (renAt_pc (by kernel_rfl)) (mo_nil)))))))
   refine yu 2 48 v107 8<| yI 6 jj hq21<| yG 0 encI Kd19 jj ?_
   have:=(show (1≤Kd19.getD jj.toNat 0∧Kd19.getD jj.toNat 0≤4) from fact_kd jj.toNat (by omega) (by omega))
   refine yR 0 0 (c26_0 _ _ _ (Kd19.getD jj.toNat 0) hq111 (by omega) (by omega)) ?_;rintro _ _ ⟨k115,s116,dn117,ds118,n119,K120,rfl,rfl,hq121,_,_⟩;exact yA 1 encC Rw (Cel.mk k115 s116 dn117 ds118 n119 hq121) 96<| yJ 9 10 (jj+1)<| yK 0 [1,2,6,4] (ih17 (.inr ((jj+1),K120,(Rw++[Cel.mk k115 s116 dn117 ds118 n119 hq121]))) (by exact ⟨by omega,by omega,by simp;omega,by assumption⟩) (by (dsimp only;omega))) (hh:=(mo (by kernel_rfl) (mo (by kernel_rfl) (mo (by kernel_rfl) (mo (renAt_pc (by kernel_rfl)) (mo (renAt_pc (by kernel_rfl)) (mo_nil)))))))
  refine yM 2 9 (r:=o (.lsl 3 0 Rw.length 7)) (r':=o (.p (.sl Rw.length (List.flatMap encC Rw)))) (ts:=[3]) (fzR_one (fzL_pc (fz:=false) (by kernel_rfl) (by exact flat_len (z:=7) (fun _=>rfl) _))) ?_;have hn0:IsS encC [] (.vl vn):=by exact .nil rfl
  have hn2:IsS encC Rw (.sl Rw.length (Rw.flatMap encC)):=by exact .sl
  have hn3:Rw.length=w.toNat:=by omega
  exact yA 5 encRow R (Row.mk (PV.sl Rw.length (List.flatMap encC Rw)) Rw hn2 hn3) 24<| yJ 10 8 (q+1)<| yK 0 [1,2,6] (ih9 (.inr ((q+1),Ki,(R++[Row.mk (PV.sl Rw.length (List.flatMap encC Rw)) Rw hn2 hn3]))) (by exact ⟨by omega,by omega,by simp;omega,by assumption⟩) (by (dsimp only;omega))) (hh:=(mo (by kernel_rfl) (mo (by kernel_rfl) (mo (by kernel_rfl) (mo (renAt_pc (by kernel_rfl)) (mo_nil))))))
 refine yFR 7 (a [i 5,.p (.vl (vs [])),i 0,i 0,i 0,.p yc,.lsl 3 0 R.length 1]) [.p x,i Ke] (r':=a [i 5,.p (.vl (vs [])),i 0,i 0,i 0,.p yc,.p (.sl R.length (List.flatMap encRow R))]) (ts:=[3]) ?_ (hz:=(fzR_agg (xs:=[i 5,.p (.vl (vs [])),i 0,i 0,i 0,.p yc,.lsl 3 0 R.length 1]) (ps:=[((.vl (vi 5)),[]),((.vl (vs [])),[]),((.vl (vi 0)),[]),((.vl (vi 0)),[]),((.vl (vi 0)),[]),(yc,[]),((.sl R.length (List.flatMap encRow R)),[3])]) (mo (by kernel_rfl) (mo (by kernel_rfl) (mo (by kernel_rfl) (mo (by kernel_rfl) (mo (by kernel_rfl) (mo (by kernel_rfl) (mo (fzL_pc (fz:=false) (by kernel_rfl) (by exact flat_len (z:=1) (fun _=>rfl) _)) (mo_nil))))))))));exact ⟨w.toNat,_,_,_,_,_,rfl,rfl,by assumption,by assumption,by omega,.sl,by omega,by assumption⟩
theorem c76_w (hz:RightC 0 (ByteArray.mk (List.map UInt8.ofNat []).toArray) 0 0 0) (L:List Int) (x:PV) (K:Int) (h:Nums L x K):RefC Tryz.prog GG 76 [o (.ref 0 0)] [.p x,i K] (fun r cs=>∃(w:Nat) (C:List ByteArray) (R:List (Row w)) (y z:PV) (K':Int),r=a [i 5,sv ⟨#[]⟩,i 0,i 0,i 0,.p y,.p z]∧cs=[.p x,i K']∧IsS encS C y∧C=abcL.take w∧w≤3∧IsS encRow R z∧R.length≤4∧Nums L x K'):=by
 refine vR (fn:=Tryz.f76)<| yR 13 0 (c21 _ _ _ 4 h (by decide) (by decide)) ?_
 rintro _ _ ⟨v0,K1,rfl,rfl,_,_,_⟩;refine yP 13 [1,2] 69 (pT Tryz.f76 [1,1,1,1,0,1,0,0]) (α:=(Int×Int) ⊕ (Int×Int×List ByteArray×List Int)) (fun ix_=>match ix_ with | (.inl (k,Ka))=>k=0∧Nums L x Ka | (.inr (q,Kb,C,Kd))=>1≤q∧q≤(v0)∧C=abcL.take q.toNat∧(C.length:Int)=q∧(Kd.length:Int)=q∧KdOk Kd∧Nums L x Kb) (fun ix_=>match ix_ with | (.inl (k,Ka))=>((v0) - k).toNat | (.inr (q,Kb,C,Kd))=>((v0) - q).toNat) (fun ix_=>match ix_ with | (.inl (k,Ka))=>([(0,o (.ref 0 0)),(2,o (.ref 1 0)),(3,o (.ref 2 0)),(4,o (i v0)),(5,o (nl)),(6,o (i k))],[.cells [.p x,i Ka] false,.cells [i 0,.p (.vl (vs [])),i 0,i 0,i 0,nl,nl] false,.cells [i 5,.p (.vl (vs [])),i 0,i 0,i 0,nl,nl] false]) | (.inr (q,Kb,C,Kd))=>([(0,o (.ref 0 0)),(2,o (.ref 1 0)),(3,o (.ref 2 0)),(4,o (i v0)),(5,o (.lsl 3 0 Kd.length 1)),(6,o (i q))],[.cells [.p x,i Kb] false,.cells [i 0,.p (.vl (vs [])),i 0,i 0,i 0,nl,nl] false,.cells [i 5,.p (.vl (vs [])),i 0,i 0,i 0,.lsl 4 0 C.length 1,nl] false,.cells (pc (List.flatMap encI Kd)) false,.cells (pc (List.flatMap encS C)) false])) (.inl (0,K1)) (by exact ⟨by omega,by assumption⟩) ?_;rintro (⟨k,Ka⟩ | ⟨q,Kb,C,Kd⟩) hI ih7 J
 try dsimp only at hI ih7 ⊢
 ·obtain ⟨_,hq6⟩:=hI;refine yB 7 16 (k<v0) (fun _=> ?_) fun _=> ?_
  ·refine yD 5 [] [[],[],[],[],[],[],[],[],[],[2]] [0,1,3,2,4,5,6,7,8,9] ?_;have he8:k=0:=by omega
   refine yE 4 6 he8 oi<| yE 0 22 he8 oi<| yR 10 0 (c21 _ _ _ 4 hq6 (by decide) (by decide)) ?_
   rintro _ _ ⟨v9,K10,rfl,rfl,_,_,_⟩;exact yQ 12 7 0 (yw (1+v9)) i<| yK 0 [1,2,7,5] (ih7 (.inr (1,K10,([ByteArray.mk (List.map UInt8.ofNat [97]).toArray]),([1+v9]))) (by exact ⟨by omega,by omega,rfl,by simp,by simp,kd_snoc (Kd:=[]) (fun _ h=>by simp at h) (by omega),by assumption⟩) (by (dsimp only;omega)))
  refine yR 5 0 (c21 _ _ _ 5 hq6 (by decide) (by decide)) ?_;rintro _ _ ⟨v14,K15,rfl,rfl,_,_,_⟩;exact yK 8 [1,2] (jc76_w_0 hz L x K h v0 v14 K15 (PV.vl vn) (PV.vl vn) (by exact ⟨[],[],.nil rfl,by simp;omega,fun _ h=>by simp at h,.nil rfl,by rw [show ((v0)).toNat=0 by omega];rfl,by omega,by omega,by omega,by omega,by assumption⟩))
 obtain ⟨_,_,_,_,_,_,hq132⟩:=hI;refine yB 7 16 (q<v0) (fun _=> ?_) fun _=> ?_
 ·refine yD 5 [] [[],[],[],[],[],[],[],[4],[],[2]] [0,1,3,2,4,5,6,7,8,9] ?_
  rcases (show q=1∨q=2 from by omega) with he134 | he134
  ·refine yE 4 6 he134 oi<| yE 0 22 he134 oi<| yA 3 encS C (ByteArray.mk (List.map UInt8.ofNat [98]).toArray) 16<| yR 6 0 (c21 _ _ _ 4 hq132 (by decide) (by decide)) ?_
   rintro _ _ ⟨v136,K137,rfl,rfl,_,_,_⟩;exact yQ 2 8 0 (yw (1+v136)) i<| yA 0 encI Kd (1+v136) 8<| yK 9 [1,2,9,7] (ih7 (.inr (2,K137,(C++[ByteArray.mk (List.map UInt8.ofNat [98]).toArray]),(Kd++[1+v136]))) (by exact ⟨by omega,by omega,abc_next ‹C=List.take q.toNat abcL› (by exact .inl ⟨by omega,rfl,rfl⟩),by simp;omega,by simp;omega,kd_snoc (by assumption) (by omega),by assumption⟩) (by (dsimp only;omega))) (hh:=(mo (by kernel_rfl) (mo (by kernel_rfl) (mo (by kernel_rfl) (mo (renAt_pc (by kernel_rfl)) (mo (renAt_pc (by kernel_rfl)) (mo_nil)))))))
  refine yE 4 6 he134 oi<| yE 0 22 he134 oi<| yA 3 encS C (ByteArray.mk (List.map UInt8.ofNat [99]).toArray) 16<| yR 6 0 (c21 _ _ _ 4 hq132 (by decide) (by decide)) ?_
  rintro _ _ ⟨v143,K144,rfl,rfl,_,_,_⟩;exact yQ 2 8 0 (yw (1+v143)) i<| yA 0 encI Kd (1+v143) 8<| yK 9 [1,2,9,7] (ih7 (.inr (3,K144,(C++[ByteArray.mk (List.map UInt8.ofNat [99]).toArray]),(Kd++[1+v143]))) (by exact ⟨by omega,by omega,abc_next ‹C=List.take q.toNat abcL› (by exact .inr ⟨by omega,rfl,rfl⟩),by simp;omega,by simp;omega,kd_snoc (by assumption) (by omega),by assumption⟩) (by (dsimp only;omega))) (hh:=(mo (by kernel_rfl) (mo (by kernel_rfl) (mo (by kernel_rfl) (mo (renAt_pc (by kernel_rfl)) (mo (renAt_pc (by kernel_rfl)) (mo_nil)))))))
 refine yR 5 0 (c21 _ _ _ 5 hq132 (by decide) (by decide)) ?_;rintro _ _ ⟨v149,K150,rfl,rfl,_,_,_⟩;refine yM 8 5 (r:=o (.lsl 3 0 Kd.length 1)) (r':=o (.p (.sl Kd.length (List.flatMap encI Kd)))) (ts:=[3]) (fzR_one (fzL_pc (fz:=false) (by kernel_rfl) (by exact flat_len (z:=1) (fun _=>rfl) _)))<| yZ 0 2 5 (x:= .lsl 4 0 C.length 1) (y:=(.sl C.length (List.flatMap encS C))) (ts:=[4]) ?_ (hz:=(fzL_pc (fz:=false) (by kernel_rfl) (by exact flat_len (z:=1) (fun _=>rfl) _)))
 exact yK 0 [1,2] (jc76_w_0 hz L x K h v0 v149 K150 (PV.sl Kd.length (List.flatMap encI Kd)) (PV.sl C.length (List.flatMap encS C)) (by exact ⟨_,_,.sl,by omega,by assumption,.sl,by rw [show ((v0))=q by omega];assumption,by omega,by omega,by omega,by omega,by assumption⟩))
theorem c76 (L:List Int) (x:PV) (K:Int) (h:Nums L x K):RefC Tryz.prog GG 76 [o (.ref 0 0)] [.p x,i K] (fun r cs=>∃(w:Nat) (C:List ByteArray) (R:List (Row w)) (y z:PV) (K':Int),r=a [i 5,sv ⟨#[]⟩,i 0,i 0,i 0,.p y,.p z]∧cs=[.p x,i K']∧IsS encS C y∧C=abcL.take w∧w≤3∧IsS encRow R z∧R.length≤4∧Nums L x K'):=c76_w right0 L x K h
theorem c49 (L M:List ByteArray) (x y:PV) (hx:IsS encS L x) (hy:IsS encS M y) (h:(L.length:Int)<4611686018427387904):ValC Tryz.prog GG 49 [o (.p x),o (.p y)] (fun r=>∃v:Bool,r=o (b v)∧(L=M→v=true)):=by
 refine vX (fn:=Tryz.f49)<| yL 8 hx<| yL 1 hy ?_
 by_cases hb0:((↑L.length:Int)≠(↑M.length:Int))
 ·exact yE 2 10 ((bne_iff_ne.2 hb0:((↑L.length:Int) !=(↑M.length:Int))=true)) ob<| yF 5 (o (b false))<| ⟨_,rfl,fun h=>by subst h;simp_all⟩
 refine yE 2 10 ((bne_eq_false_iff_eq.2 (Decidable.not_not.1 hb0):((↑L.length:Int) !=(↑M.length:Int))=false)) ob<| yP 9 [] 26 (pT Tryz.f49 [1,1,0,1,0,0]) (α:=(Int)) (fun k=>0≤k∧k≤L.length) (fun k=>(L.length - k).toNat) (fun k=>([(0,o (.p x)),(1,o (.p y)),(5,o (i k))],[])) 0 (by omega) ?_
 rintro k hI ih5 J
 try dsimp only at hI ih5 ⊢
 obtain ⟨_,_⟩:=hI;refine yL 5 hx<| yB 2 14 (k<(↑L.length:Int)) (fun _=> ?_) fun _=> ?_
 ·refine yD 5 [] [] (List.range 9)<| yI 2 k hx<| yG 0 encS L k<| yI 2 k hy<| yG 0 encS M k ?_
  rcases bt2 ((L.getD k.toNat default).toList==(M.getD k.toNat default).toList) with hb4 | hb4
  ·exact yE 2 25 hb4 onb<| yF 5 (o (b false))<| ⟨_,rfl,fun h=>by subst h;simp_all⟩
  exact yE 2 25 hb4 onb<| yJ 9 5 (k+1)<| yK 0 [] (ih5 (k+1) (by omega) (by omega))
 exact yF 6 (o (b true))<| ⟨_,rfl,fun _=>rfl⟩
theorem c123_0 (k dn ds n k' dn' ds' n':Int) (s s':ByteArray):ValC Tryz.prog GG 123 [a [i k,sv s,i dn,i ds,i n,nl,nl],a [i k',sv s',i dn',i ds',i n',nl,nl]] (fun r=>∃v:Bool,r=o (b v)∧(v=true↔k=k'∧s=s'∧dn=dn'∧ds=ds'∧n=n')):=by
 refine vX (fn:=Tryz.f123)<| yBe 14 10 k k' (fun _=> ?_) fun _=> ?_
 ·refine yBb 7 17 (s.toList==s'.toList) (fun _=> ?_) fun _=> ?_
  ·exact yF 29 (o (b false))<| ⟨_,rfl,by simp_all [toList_inj]⟩
  refine yO 4 (binA Tryz.prog TT .eql 37 (.tmp 19) (.tmp 21) (a [i dn,i ds]) (a [i dn',i ds'])) (rule_eqDec) ?_
  by_cases hb2:(dn=dn')
  ·refine yE 2 24 ((beq_iff_eq.2 hb2:(dn==dn')=true)) (fun z=>o (b (z && ds==ds'))) ?_
   by_cases hb3:(ds=ds')
   ·refine yE 0 24 ((beq_iff_eq.2 hb3:(ds==ds')=true)) (fun z=>o (b (true && z)))<| yBe 7 31 n n' (fun _=> ?_) fun _=> ?_
    ·refine yC 4 (c49 ([]) ([]) (PV.vl vn) (PV.vl vn) (IsS.nil rfl) (IsS.nil rfl) (by decide)) ?_;rintro _ ⟨v5,rfl,_⟩;cases hb7:v5
     ·exact yF 10 (o (b false))<| ⟨_,rfl,by simp_all [toList_inj]⟩
     exact yV 6 (kv (f:=261) (args:=[o (nl),o (nl)]) (r:=o (b true)) (by kernel_rfl))<| yF 3 (o (b true))<| ⟨_,rfl,by simp_all [toList_inj]⟩
    exact yF 15 (o (b false))<| ⟨_,rfl,by simp_all [toList_inj]⟩
   exact yE 0 24 ((beq_eq_false_iff_ne.2 hb3:(ds==ds')=false)) (fun z=>o (b (true && z)))<| yF 22 (o (b false))<| ⟨_,rfl,by simp_all [toList_inj]⟩
  exact yE 2 24 ((beq_eq_false_iff_ne.2 hb2:(dn==dn')=false)) (fun z=>o (b (z && ds==ds')))<| yF 22 (o (b false))<| ⟨_,rfl,by simp_all [toList_inj]⟩
 exact yF 36 (o (b false))<| ⟨_,rfl,by simp_all [toList_inj]⟩
theorem c378 (L M:List Cel) (x y:PV) (hx:IsS encC L x) (hy:IsS encC M y) (h:(L.length:Int)<4611686018427387904):ValC Tryz.prog GG 378 [o (.p x),o (.p y)] (fun r=>∃v:Bool,r=o (b v)∧(L=M→v=true)):=by
 refine vX (fn:=Tryz.f378)<| yL 8 hx<| yL 1 hy ?_
 by_cases hb0:((↑L.length:Int)≠(↑M.length:Int))
 ·exact yE 2 11 ((bne_iff_ne.2 hb0:((↑L.length:Int) !=(↑M.length:Int))=true)) ob<| yF 5 (o (b false))<| ⟨_,rfl,fun h=>by subst h;simp_all⟩
 refine yE 2 11 ((bne_eq_false_iff_eq.2 (Decidable.not_not.1 hb0):((↑L.length:Int) !=(↑M.length:Int))=false)) ob<| yP 9 [] 29 (pT Tryz.f378 [1,1,0,1,0,0]) (α:=(Int)) (fun k=>0≤k∧k≤L.length) (fun k=>(L.length - k).toNat) (fun k=>([(0,o (.p x)),(1,o (.p y)),(5,o (i k))],[])) 0 (by omega) ?_
 rintro k hI ih5 J
 try dsimp only at hI ih5 ⊢
 obtain ⟨_,_⟩:=hI;refine yL 5 hx<| yB 2 15 (k<(↑L.length:Int)) (fun _=> ?_) fun _=> ?_
 ·refine yD 5 [] [] (List.range 10)<| yI 2 k hx<| yGN 0 encC L k 7<| yI 2 k hy<| yGN 0 encC M k 7<| yC 0 (c123_0 ((L.getD k.toNat default).k) ((L.getD k.toNat default).dn) ((L.getD k.toNat default).ds) ((L.getD k.toNat default).n) ((M.getD k.toNat default).k) ((M.getD k.toNat default).dn) ((M.getD k.toNat default).ds) ((M.getD k.toNat default).n) ((L.getD k.toNat default).s) ((M.getD k.toNat default).s)) ?_
  rintro _ ⟨v4,rfl,_⟩;cases hb6:v4
  ·exact yF 12 (o (b false))<| ⟨_,rfl,fun h=>by subst h;simp_all⟩
  exact yJ 16 5 (k+1)<| yK 0 [] (ih5 (k+1) (by omega) (by omega))
 exact yF 6 (o (b true))<| ⟨_,rfl,fun _=>rfl⟩
theorem c261 {w:Nat} (L M:List (Row w)) (x y:PV) (hx:IsS encRow L x) (hy:IsS encRow M y) (h:(L.length:Int)<4611686018427387904) (hw:(w:Int)<1000):ValC Tryz.prog GG 261 [o (.p x),o (.p y)] (fun r=>∃v:Bool,r=o (b v)∧(L=M→v=true)):=by
 refine vX (fn:=Tryz.f261)<| yL 8 hx<| yL 1 hy ?_
 by_cases hb0:((↑L.length:Int)≠(↑M.length:Int))
 ·exact yE 2 11 ((bne_iff_ne.2 hb0:((↑L.length:Int) !=(↑M.length:Int))=true)) ob<| yF 5 (o (b false))<| ⟨_,rfl,fun h=>by subst h;simp_all⟩
 refine yE 2 11 ((bne_eq_false_iff_eq.2 (Decidable.not_not.1 hb0):((↑L.length:Int) !=(↑M.length:Int))=false)) ob<| yP 9 [] 29 (pT Tryz.f261 [1,1,0,1,0,0]) (α:=(Int)) (fun k=>0≤k∧k≤L.length) (fun k=>(L.length - k).toNat) (fun k=>([(0,o (.p x)),(1,o (.p y)),(5,o (i k))],[])) 0 (by omega) ?_
 rintro k hI ih5 J
 try dsimp only at hI ih5 ⊢
 obtain ⟨_,_⟩:=hI;refine yL 5 hx<| yB 2 15 (k<(↑L.length:Int)) (fun _=> ?_) fun _=> ?_
 ·refine yD 5 [] [] (List.range 10)<| yI 2 k hx<| yG 0 encRow L k ?_
  have:=((L.getD k.toNat default)).hw;refine yI 2 k hy<| yG 0 encRow M k ?_
  have:=((M.getD k.toNat default)).hw;refine yC 0 (c378 _ _ _ _ ((L.getD k.toNat default)).h ((M.getD k.toNat default)).h (by omega)) ?_;rintro _ ⟨v6,rfl,_⟩;cases hb8:v6
  ·exact yF 12 (o (b false))<| ⟨_,rfl,fun h=>by subst h;simp_all⟩
  exact yJ 16 5 (k+1)<| yK 0 [] (ih5 (k+1) (by omega) (by omega))
 exact yF 6 (o (b true))<| ⟨_,rfl,fun _=>rfl⟩
theorem c123_1 {w:Nat} (C:List ByteArray) (R:List (Row w)) (x y:PV) (hx:IsS encS C x) (hy:IsS encRow R y) (hC:(C.length:Int)≤8) (hR:R.length≤100) (hw:(w:Int)<1000):ValC Tryz.prog GG 123 [a [i 5,sv ⟨#[]⟩,i 0,i 0,i 0,.p x,.p y],a [i 5,sv ⟨#[]⟩,i 0,i 0,i 0,.p x,.p y]] (fun r=>r=o (b true)):=by
 refine vX (fn:=Tryz.f123)<| yC 39 (c49 _ _ _ _ hx hx (by omega)) ?_
 rintro _ ⟨v0,rfl,_⟩;cases hb2:v0
 ·refine yF 10 (o (b false)) ?_
  (simp_all;done)
 refine yC 6 (c261 _ _ _ _ hy hy (by omega) (by omega)) ?_;rintro _ ⟨v3,rfl,_⟩;refine yF 3 (o (b v3)) ?_
 (simp_all;done)
theorem c120 (s:ByteArray) (h:(s.size:Int)<4611686018427387904):ValC Tryz.prog GG 120 [o (.p (.vl (.string s)))] (fun r=>∃v:Bool,r=o (b v)∧(v=true↔TextOk s)):=by
 refine vX (fn:=Tryz.f120)<| yP 11 [] 23 (pT Tryz.f120 [1,0,1,0,0]) (α:=(Int)) (fun k=>0≤k∧k≤s.size∧(∀j:Int,0≤j→j<k→32≤byteAt s j∧byteAt s j≤126)) (fun k=>(s.size - k).toNat) (fun k=>([(0,o (.p (.vl (.string s)))),(3,o (i k))],[])) 0 (by exact ⟨by omega,by omega,fun j h1 h2=>by omega⟩) ?_
 rintro k hI ih4 J
 try dsimp only at hI ih4 ⊢
 obtain ⟨_,_,hq2⟩:=hI;refine yB 8 7 (k<(↑s.size:Int)) (fun _=> ?_) fun _=> ?_
 ·refine yY 8 s k ?_;have:=byteAt_bounds s k;refine yB 2 14 (byteAt s k<32) (fun _=> ?_) fun _=> ?_
  ·exact yF 11 (o (b false))<| ⟨_,rfl,by constructor;(intro h;simp at h);(intro h;have:=h.2 k (by omega) (by omega);omega)⟩
  refine yY 2 s k ?_;have:=byteAt_bounds s k;refine yB 3 19 (byteAt s k>126) (fun _=> ?_) fun _=> ?_
  ·exact yF 5 (o (b false))<| ⟨_,rfl,by constructor;(intro h;simp at h);(intro h;have:=h.2 k (by omega) (by omega);omega)⟩
  exact yJ 9 3 (k+1)<| yK 0 [] (ih4 (k+1) (by (refine ⟨by omega,by omega,fun j h1 h2=> ?_⟩;rcases Int.lt_or_eq_of_le (Int.le_of_lt_add_one h2) with h3 | h3;(exact hq2 j h1 h3);(subst h3;omega))) (by omega))
 exact yF 9 (o (b (decide ((↑s.size:Int)≤200))))<| ⟨_,rfl,by constructor;(intro h;exact ⟨by (simp at h;omega),fun j h1 h2=>hq2 j h1 (by omega)⟩);(intro h;have:=h.1;(simp;omega))⟩
theorem c51_0 (n:Int) (h:0≤n) (h':n≤99):ValC Tryz.prog GG 51 [a [i 0,sv ⟨#[]⟩,i 0,i 0,i n,nl,nl]] (fun r=>r=o (b true)):=by
 refine vX (fn:=Tryz.f51)<| yp 42 18 (n≥0)<| yp 11 79 (n≤99)<| yC 2 (c123_0 0 0 0 n 0 0 0 n (ByteArray.mk (List.map UInt8.ofNat []).toArray) (ByteArray.mk (List.map UInt8.ofNat []).toArray)) ?_
 rintro _ ⟨v2,rfl,_⟩;refine yF 3 (o (b v2)) ?_
 (simp_all;done)
theorem c51_1 (s:ByteArray) (h:TextOk s) (h':(s.size:Int)≤200):ValC Tryz.prog GG 51 [a [i 1,sv s,i 0,i 0,i 0,nl,nl]] (fun r=>r=o (b true)):=by
 refine vX (fn:=Tryz.f51)<| yC 46 (c120 s (by omega)) ?_
 rintro _ ⟨v0,rfl,_⟩;cases hb2:v0
 ·refine yF 13 (o (b false)) ?_
  (simp_all;done)
 refine yC 9 (c123_0 1 0 0 0 1 0 0 0 s s) ?_;rintro _ ⟨v3,rfl,_⟩;refine yF 3 (o (b v3)) ?_
 (simp_all;done)
theorem c51_2 (dn ds:Int) (h:right04 dn ds=true):ValC Tryz.prog GG 51 [a [i 2,sv ⟨#[]⟩,i dn,i ds,i 0,nl,nl]] (fun r=>r=o (b true)):=by
 refine vX (fn:=Tryz.f51)<| yV 52 (c121 dn ds)<| yE 7 79 (h:(right04 dn ds)=true) ob<| yC 2 (c123_0 2 dn ds 0 2 dn ds 0 (ByteArray.mk (List.map UInt8.ofNat []).toArray) (ByteArray.mk (List.map UInt8.ofNat []).toArray)) ?_
 rintro _ ⟨v1,rfl,_⟩;refine yF 3 (o (b v1)) ?_
 (simp_all;done)
theorem c51_3 (n:Int) (h:0≤n) (h':n≤3652058):ValC Tryz.prog GG 51 [a [i 3,sv ⟨#[]⟩,i 0,i 0,i n,nl,nl]] (fun r=>r=o (b true)):=by
 refine vX (fn:=Tryz.f51)<| yp 60 47 (n≥0)<| yp 11 79 (n≤3652058)<| yC 2 (c123_0 3 0 0 n 3 0 0 n (ByteArray.mk (List.map UInt8.ofNat []).toArray) (ByteArray.mk (List.map UInt8.ofNat []).toArray)) ?_
 rintro _ ⟨v2,rfl,_⟩;refine yF 3 (o (b v2)) ?_
 (simp_all;done)
theorem c51_4 (n:Int) (h:0≤n) (h':n≤1):ValC Tryz.prog GG 51 [a [i 4,sv ⟨#[]⟩,i 0,i 0,i n,nl,nl]] (fun r=>r=o (b true)):=by
 refine vX (fn:=Tryz.f51) ?_
 by_cases hb0:(n=0)
 ·refine ye 66 60 n 0<| yC 13 (c123_0 4 0 0 n 4 0 0 n (ByteArray.mk (List.map UInt8.ofNat []).toArray) (ByteArray.mk (List.map UInt8.ofNat []).toArray)) ?_
  rintro _ ⟨v1,rfl,_⟩;refine yF 3 (o (b v1)) ?_
  (simp_all;done)
 refine yu 66 60 n 0 ?_;have:(n=1):=by omega
 refine ye 11 79 n 1<| yC 2 (c123_0 4 0 0 n 4 0 0 n (ByteArray.mk (List.map UInt8.ofNat []).toArray) (ByteArray.mk (List.map UInt8.ofNat []).toArray)) ?_
 rintro _ ⟨v4,rfl,_⟩;refine yF 3 (o (b v4)) ?_
 (simp_all;done)
theorem c51 (k:Int) (s:ByteArray) (dn ds n:Int) (h:RightC k s dn ds n):ValC Tryz.prog GG 51 [a [i k,sv s,i dn,i ds,i n,nl,nl]] (fun r=>r=o (b true)):=by
 rcases h with ⟨rfl,rfl,rfl,rfl,h1,h2⟩ | ⟨rfl,h1,rfl,rfl,rfl⟩ | ⟨rfl,rfl,h1,rfl⟩ | ⟨rfl,rfl,rfl,rfl,h1,h2⟩ | ⟨rfl,rfl,rfl,rfl,h1,h2⟩
 ·exact c51_0 n h1 h2
 ·exact c51_1 s h1 h1.1
 ·exact c51_2 dn ds h1
 ·exact c51_3 n h1 h2
 exact c51_4 n h1 h2
theorem c122 {w:Nat} (C:List ByteArray) (R:List (Row w)) (x y:PV) (hx:IsS encS C x) (hy:IsS encRow R y) (hN:ValC Tryz.prog GG 260 [o (.p x)] (fun r=>r=o (b true))) (hw:C.length=w) (h8:w≤8) (hR:R.length≤100):ValC Tryz.prog GG 122 [o (.p x),o (.p y)] (fun r=>r=o (b true)):=by
 refine vX (fn:=Tryz.f122)<| yV 7 hN<| yL 9 hx<| yn 3 18 ((↑C.length:Int)>8)<| yL 1 hy<| yn 3 22 ((↑R.length:Int)>100)<| yP 9 [] 65 (pT Tryz.f122 [1,1,1,0,1,0,0]) (α:=(Int)) (fun k=>0≤k∧k≤R.length) (fun k=>(R.length - k).toNat) (fun k=>([(0,o (.p x)),(1,o (.p y)),(6,o (i k))],[])) 0 (by omega) ?_
 rintro k hI ih6 J
 try dsimp only at hI ih6 ⊢
 obtain ⟨_,_⟩:=hI;refine yL 5 hy<| yB 2 26 (k<(↑R.length:Int)) (fun _=> ?_) fun _=> ?_
 ·refine yI 9 k hy<| yG 0 encRow R k ?_
  have:=((R.getD k.toNat default)).hw;refine yL 0 ((R.getD k.toNat default)).h<| yL 1 hx ?_
  have hb7:¬((↑(R.getD k.toNat default).R.length:Int)≠(↑C.length:Int)):=by omega
  refine yE 2 36 ((bne_eq_false_iff_eq.2 (Decidable.not_not.1 hb7):((↑(R.getD k.toNat default).R.length:Int) !=(↑C.length:Int))=false)) ob<| yP 8 [] 65 (pT Tryz.f122 [1,1,1,0,1,0,0,1,0,0,1,1,0,0]) (α:=(Int)) (fun j=>0≤j∧j≤w) (fun j=>(w - j).toNat) (fun j=>([(0,o (.p x)),(1,o (.p y)),(6,o (i k)),(7,o (i j))],[])) 0 (by omega) ?_
  rintro j hI ih13 J
  try dsimp only at hI ih13 ⊢
  obtain ⟨_,_⟩:=hI;refine yI 6 k hy<| yG 0 encRow R k<| yL 0 ((R.getD k.toNat default)).h<| yB 2 43 (j<(↑(R.getD k.toNat default).R.length:Int)) (fun _=> ?_) fun _=> ?_
  ·refine yI 9 k hy<| yG 0 encRow R k<| yI 1 j ((R.getD k.toNat default)).h<| yG 1 encC ((R.getD k.toNat default).R) j ?_
   by_cases hb16:(((R.getD k.toNat default).R.getD j.toNat default).k=5)
   ·refine ye 2 54 (((R.getD k.toNat default).R.getD j.toNat default).k) 5<| yF 5 (o (b false)) ?_
    (exfalso;exact Cel.ne5 _ ‹_›)
   exact yu 2 54 (((R.getD k.toNat default).R.getD j.toNat default).k) 5<| yI 6 k hy<| yG 0 encRow R k<| yI 1 j ((R.getD k.toNat default)).h<| yGN 0 encC ((R.getD k.toNat default).R) j 7<| yV 0 (c51 _ _ _ _ _ (((R.getD k.toNat default).R.getD j.toNat default)).ok)<| yJ 16 7 (j+1)<| yK 0 [] (ih13 (j+1) (by omega) (by omega))
  exact yJ 9 6 (k+1)<| yK 0 [] (ih6 (k+1) (by omega) (by omega))
 refine yF 6 (o (b true)) ?_;rfl
theorem c51_5 {w:Nat} (C:List ByteArray) (R:List (Row w)) (x y:PV) (hx:IsS encS C x) (hy:IsS encRow R y) (hN:ValC Tryz.prog GG 260 [o (.p x)] (fun r=>r=o (b true))) (hw:C.length=w) (h8:w≤8) (hR:R.length≤100):ValC Tryz.prog GG 51 [a [i 5,sv ⟨#[]⟩,i 0,i 0,i 0,.p x,.p y]] (fun r=>r=o (b true)):=by
 refine vX (fn:=Tryz.f51)<| yV 79 (c122 _ _ _ _ hx hy (by omega) (by omega) (by omega) (by omega))<| yV 9 (c123_1 _ _ _ _ hx hy (by omega) (by omega) (by omega))<| yF 3 (o (b true)) ?_
 rfl
theorem c26_5 (L:List Int) (x:PV) (K:Int) (h:Nums L x K):RefC Tryz.prog GG 26 [o (.ref 0 0),o (i 5)] [.p x,i K] (fun r cs=>∃(w:Nat) (C:List ByteArray) (R:List (Row w)) (y z:PV) (K':Int),r=a [i 5,sv ⟨#[]⟩,i 0,i 0,i 0,.p y,.p z]∧cs=[.p x,i K']∧IsS encS C y∧C=abcL.take w∧w≤3∧IsS encRow R z∧R.length≤4∧Nums L x K'):=by
 refine vR (fn:=Tryz.f26)<| yR 43 0 (c76 _ _ _ h) ?_
 rintro _ _ ⟨w0,C1,R2,y3,z4,K5,rfl,rfl,_,_,_,_,_,_⟩;exact yFR 2 (a [i 5,.p (.vl (vs [])),i 0,i 0,i 0,.p y3,.p z4]) [.p x,i K5] (r':=a [i 5,.p (.vl (vs [])),i 0,i 0,i 0,.p y3,.p z4]) (ts:=[])<| ⟨_,_,_,_,_,_,rfl,rfl,by assumption,by assumption,by assumption,by assumption,by assumption,by assumption⟩
def TabOk (w:Nat) (C:List ByteArray) (R:List (Row w)) (y z:PV):Prop:=IsS encS C y∧C=abcL.take w∧w≤3∧IsS encRow R z∧R.length≤4
def RightV (k:Int) (s:ByteArray) (dn ds n:Int) (y z:PV):Prop:=(RightC k s dn ds n∧y= .vl vn∧z= .vl vn)∨(k=5∧s=⟨#[]⟩∧dn=0∧ds=0∧n=0∧∃(w:Nat) (C:List ByteArray) (R:List (Row w)),TabOk w C R y z)
theorem c26 (L:List Int) (x:PV) (K k:Int) (h:Nums L x K) (h0:0≤k) (h5:k≤5):RefC Tryz.prog GG 26 [o (.ref 0 0),o (i k)] [.p x,i K] (fun r cs=>∃(k':Int) (s:ByteArray) (dn ds n:Int) (y z:PV) (K':Int),r=a [i k',sv s,i dn,i ds,i n,.p y,.p z]∧cs=[.p x,i K']∧RightV k' s dn ds n y z∧k'=k∧Nums L x K'):=by
 by_cases h4:k≤4
 ·exact (c26_0 L x K k h h0 h4).mono (fun r cs ⟨k',s,dn,ds,n,K',e1,e2,e3,e4,e5⟩=>⟨k',s,dn,ds,n,_,_,K',e1,e2,.inl ⟨e3,rfl,rfl⟩,e4,e5⟩)
 obtain rfl:k=5:=by omega
 exact (c26_5 L x K h).mono (fun r cs ⟨w,C,R,y,z,K',e1,e2,e3,e4,e5,e6,e7,e8⟩=>⟨5,_,0,0,0,y,z,K',e1,e2,.inr ⟨rfl,rfl,rfl,rfl,rfl,w,C,R,e3,e4,e5,e6,e7⟩,rfl,e8⟩)
theorem names_abc (w:Nat) (C:List ByteArray) (y:PV) (hy:IsS encS C y) (hC:C=abcL.take w):ValC Tryz.prog GG 260 [o (.p y)] (fun r=>r=o (b true)):=by
 cases hy with
 | nil h=>exact kv (by kernel_rfl)
 | sl=>
  match w,hC with
  | 0,hC=>subst hC;exact kv (by kernel_rfl)
  | 1,hC=>subst hC;exact kv (by kernel_rfl)
  | 2,hC=>subst hC;exact kv (by kernel_rfl)
  | w+3,hC=>
         have e:abcL.take (w+3)=abcL:=List.take_of_length_le (by simp [abcL]);rw [e] at hC;subst hC;exact kv (by kernel_rfl)
theorem abc_len {w:Nat} (h:w≤3):(abcL.take w).length=w:=by simp [abcL];omega
theorem c51_6 (w:Nat) (C:List ByteArray) (R:List (Row w)) (y z:PV) (h:TabOk w C R y z):ValC Tryz.prog GG 51 [a [i 5,sv ⟨#[]⟩,i 0,i 0,i 0,.p y,.p z]] (fun r=>r=o (b true)):=
 c51_5 C R y z h.1 h.2.2.2.1 (names_abc w C y h.1 h.2.1) (by rw [h.2.1];exact abc_len h.2.2.1) (by have:=h.2.2.1;omega) (by have:=h.2.2.2.2;omega)
theorem c24 {w:Nat} (R:List (Row w)) (nme:ByteArray) (y z:PV) (L:List Int) (x:PV) (K k:Int) (h:Nums L x K) (h0:0≤k) (h5:k≤5) (hz:IsS encRow R z) (hR:R.length≤6) (hw:1≤w):RefC Tryz.prog GG 24 [o (.ref 0 0),o (i k),a [sv nme,.p y,.p z]] [.p x,i K] (fun r cs=>∃(k':Int) (s:ByteArray) (dn ds n:Int) (y' z':PV) (K':Int),r=a [i k',sv s,i dn,i ds,i n,.p y',.p z']∧cs=[.p x,i K']∧RightV k' s dn ds n y' z'∧Nums L x K'):=by
 refine vR (fn:=Tryz.f24) ?_
 by_cases hb0:(k=1)
 ·refine ye 11 9 k 1<| yR 1 0 (c21 _ _ _ 3 h (by decide) (by decide)) ?_
  rintro _ _ ⟨v1,K2,rfl,rfl,_,_,hq5⟩
  by_cases hb6:(v1=0)
  ·refine ye 3 14 v1 0<| yL 2 hz<| yB 3 19 ((↑R.length:Int)>0) (fun _=> ?_) fun _=> ?_
   ·refine yD 2 [[0],[0]] [[],[],[],[],[],[],[0],[],[],[],[],[2]] (List.range 12)<| yL 5 hz<| yR 0 0 (c21 _ _ _ ((↑R.length:Int)) hq5 (by omega) (by omega)) ?_
    rintro _ _ ⟨v8,K9,rfl,rfl,_,_,_⟩;refine yI 0 v8 hz<| yG 0 encRow R v8 ?_
    have:=((R.getD v8.toNat default)).hw;refine yI 0 0 ((R.getD v8.toNat default)).h ?_ (h0:=by decide);exact yO 0 (loadA TT GG 55 (o (.pref (List.flatMap encC (R.getD v8.toNat default).R) 0))) (rule_load0 (n:=7) (L:=((R.getD v8.toNat default).R)) default (by kernel_rfl) (by kernel_rfl) (by exact fun _=>rfl) (by omega))<| yFR 2 (a [i (((R.getD v8.toNat default).R.getD 0 default).k),.p (.vl (.string (((R.getD v8.toNat default).R.getD 0 default).s))),i (((R.getD v8.toNat default).R.getD 0 default).dn),i (((R.getD v8.toNat default).R.getD 0 default).ds),i (((R.getD v8.toNat default).R.getD 0 default).n),nl,nl]) [.p x,i K9] (r':=a [i (((R.getD v8.toNat default).R.getD 0 default).k),.p (.vl (.string (((R.getD v8.toNat default).R.getD 0 default).s))),i (((R.getD v8.toNat default).R.getD 0 default).dn),i (((R.getD v8.toNat default).R.getD 0 default).ds),i (((R.getD v8.toNat default).R.getD 0 default).n),nl,nl]) (ts:=[])<| ⟨_,_,_,_,_,_,_,_,rfl,rfl,.inl ⟨Cel.ok _,rfl,rfl⟩,by assumption⟩
   refine yR 6 0 (c26_0 _ _ _ k hq5 (by omega) (by omega)) ?_;rintro _ _ ⟨k16,s17,dn18,ds19,n20,K21,rfl,rfl,_,_,_⟩;exact yFR 2 (a [i k16,.p (.vl (.string s17)),i dn18,i ds19,i n20,nl,nl]) [.p x,i K21] (r':=a [i k16,.p (.vl (.string s17)),i dn18,i ds19,i n20,nl,nl]) (ts:=[])<| ⟨_,_,_,_,_,_,_,_,rfl,rfl,.inl ⟨by assumption,rfl,rfl⟩,by assumption⟩
  refine yu 3 14 v1 0<| yR 12 0 (c26_0 _ _ _ k hq5 (by omega) (by omega)) ?_
  rintro _ _ ⟨k25,s26,dn27,ds28,n29,K30,rfl,rfl,_,_,_⟩;exact yFR 2 (a [i k25,.p (.vl (.string s26)),i dn27,i ds28,i n29,nl,nl]) [.p x,i K30] (r':=a [i k25,.p (.vl (.string s26)),i dn27,i ds28,i n29,nl,nl]) (ts:=[])<| ⟨_,_,_,_,_,_,_,_,rfl,rfl,.inl ⟨by assumption,rfl,rfl⟩,by assumption⟩
 refine yu 11 9 k 1<| yR 17 0 (c26 _ _ _ k h (by omega) (by omega)) ?_
 rintro _ _ ⟨k34,s35,dn36,ds37,n38,y39,z40,K41,rfl,rfl,_,_,_⟩;exact yFR 2 (a [i k34,.p (.vl (.string s35)),i dn36,i ds37,i n38,.p y39,.p z40]) [.p x,i K41] (r':=a [i k34,.p (.vl (.string s35)),i dn36,i ds37,i n38,.p y39,.p z40]) (ts:=[])<| ⟨_,_,_,_,_,_,_,_,rfl,rfl,by assumption,by assumption⟩
theorem c72 (k n:Int) (h1:1≤k) (h3:k≤3) (h0:0≤n) (h5:n<5):ValC Tryz.prog GG 72 [o (i k),o (i n)] (fun r=>∃(k':Int) (s:ByteArray) (dn ds m:Int),r=a [i k',sv s,i dn,i ds,i m,nl,nl]∧RightC k' s dn ds m∧CelIn k k' s dn ds m):=by
 have hk:k=1∨k=2∨k=3:=by omega
 have hn:n=0∨n=1∨n=2∨n=3∨n=4:=by omega
 rcases hk with rfl | rfl | rfl<;>rcases hn with rfl | rfl | rfl | rfl | rfl
 ·exact (kv (r:=a [i 1,sv ⟨#[82,111,109,101]⟩,i (0),i 0,i 0,nl,nl]) (by kernel_rfl)).mono (fun r h=>⟨1,⟨#[82,111,109,101]⟩,0,0,0,h,.inr (.inl ⟨rfl,textOk_of (by decide),rfl,rfl,rfl⟩),by simp [CelIn]⟩)
 ·exact (kv (r:=a [i 1,sv ⟨#[79,115,108,111]⟩,i (0),i 0,i 0,nl,nl]) (by kernel_rfl)).mono (fun r h=>⟨1,⟨#[79,115,108,111]⟩,0,0,0,h,.inr (.inl ⟨rfl,textOk_of (by decide),rfl,rfl,rfl⟩),by simp [CelIn]⟩)
 ·exact (kv (r:=a [i 1,sv ⟨#[66,101,114,103,101,110]⟩,i (0),i 0,i 0,nl,nl]) (by kernel_rfl)).mono (fun r h=>⟨1,⟨#[66,101,114,103,101,110]⟩,0,0,0,h,.inr (.inl ⟨rfl,textOk_of (by decide),rfl,rfl,rfl⟩),by simp [CelIn]⟩)
 ·exact (kv (r:=a [i 1,sv ⟨#[105,116]⟩,i (0),i 0,i 0,nl,nl]) (by kernel_rfl)).mono (fun r h=>⟨1,⟨#[105,116]⟩,0,0,0,h,.inr (.inl ⟨rfl,textOk_of (by decide),rfl,rfl,rfl⟩),by simp [CelIn]⟩)
 ·exact (kv (r:=a [i 0,sv ⟨#[]⟩,i (0),i 0,i 0,nl,nl]) (by kernel_rfl)).mono (fun r h=>⟨0,⟨#[]⟩,0,0,0,h,.inl ⟨rfl,rfl,rfl,rfl,by decide,by decide⟩,by simp [CelIn]⟩)
 ·exact (kv (r:=a [i 2,sv ⟨#[]⟩,i (1),i 0,i 0,nl,nl]) (by kernel_rfl)).mono (fun r h=>⟨2,⟨#[]⟩,1,0,0,h,.inr (.inr (.inl ⟨rfl,rfl,by decide,rfl⟩)),by simp [CelIn]⟩)
 ·exact (kv (r:=a [i 2,sv ⟨#[]⟩,i (-25),i 1,i 0,nl,nl]) (by kernel_rfl)).mono (fun r h=>⟨2,⟨#[]⟩,-25,1,0,h,.inr (.inr (.inl ⟨rfl,rfl,by decide,rfl⟩)),by simp [CelIn]⟩)
 ·exact (kv (r:=a [i 2,sv ⟨#[]⟩,i (3),i 0,i 0,nl,nl]) (by kernel_rfl)).mono (fun r h=>⟨2,⟨#[]⟩,3,0,0,h,.inr (.inr (.inl ⟨rfl,rfl,by decide,rfl⟩)),by simp [CelIn]⟩)
 ·exact (kv (r:=a [i 2,sv ⟨#[]⟩,i (1000000000000000),i 0,i 0,nl,nl]) (by kernel_rfl)).mono (fun r h=>⟨2,⟨#[]⟩,1000000000000000,0,0,h,.inr (.inr (.inl ⟨rfl,rfl,by decide,rfl⟩)),by simp [CelIn]⟩)
 ·exact (kv (r:=a [i 0,sv ⟨#[]⟩,i (0),i 0,i 0,nl,nl]) (by kernel_rfl)).mono (fun r h=>⟨0,⟨#[]⟩,0,0,0,h,.inl ⟨rfl,rfl,rfl,rfl,by decide,by decide⟩,by simp [CelIn]⟩)
 ·exact (kv (r:=a [i 3,sv ⟨#[]⟩,i (0),i 0,i 738000,nl,nl]) (by kernel_rfl)).mono (fun r h=>⟨3,⟨#[]⟩,0,0,738000,h,.inr (.inr (.inr (.inl ⟨rfl,rfl,rfl,rfl,by decide,by decide⟩))),by simp [CelIn]⟩)
 ·exact (kv (r:=a [i 3,sv ⟨#[]⟩,i (0),i 0,i 738001,nl,nl]) (by kernel_rfl)).mono (fun r h=>⟨3,⟨#[]⟩,0,0,738001,h,.inr (.inr (.inr (.inl ⟨rfl,rfl,rfl,rfl,by decide,by decide⟩))),by simp [CelIn]⟩)
 ·exact (kv (r:=a [i 3,sv ⟨#[]⟩,i (0),i 0,i 738002,nl,nl]) (by kernel_rfl)).mono (fun r h=>⟨3,⟨#[]⟩,0,0,738002,h,.inr (.inr (.inr (.inl ⟨rfl,rfl,rfl,rfl,by decide,by decide⟩))),by simp [CelIn]⟩)
 ·exact (kv (r:=a [i 3,sv ⟨#[]⟩,i (0),i 0,i 738003,nl,nl]) (by kernel_rfl)).mono (fun r h=>⟨3,⟨#[]⟩,0,0,738003,h,.inr (.inr (.inr (.inl ⟨rfl,rfl,rfl,rfl,by decide,by decide⟩))),by simp [CelIn]⟩)
 exact (kv (r:=a [i 0,sv ⟨#[]⟩,i (0),i 0,i 0,nl,nl]) (by kernel_rfl)).mono (fun r h=>⟨0,⟨#[]⟩,0,0,0,h,.inl ⟨rfl,rfl,rfl,rfl,by decide,by decide⟩,by simp [CelIn]⟩)
end Go.Sx.E1
