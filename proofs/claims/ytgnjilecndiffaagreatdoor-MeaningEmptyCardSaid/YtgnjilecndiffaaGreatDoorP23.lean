/- A part of the proof of MeaningEmpty. -/
import Derived.Test.YtgnjilecndiffaaGreatDoorP22
set_option linter.all false
set_option maxRecDepth 1000000
set_option maxHeartbeats 0
namespace Go.Sx.E1
open Go.Proofs
variable [MaxL]
theorem c143_L (L D:List Dp) (C:List ByteArray) (lx y0 y1 y2 y3 y4 y5 y6 y7 y8 y9 y10 y11 y12 y13 y14 x z y17:PV) (hl:IsS encD L lx) (hx:IsS encS C x) (hz:IsS encD D z) (hL:L.length≤1000) (hC:C.length≤100) (hD:D.length≤300):LocC Tryz.prog GG 143 [o (.p lx),a [.p y0,.p y1,.p y2,.p y3,.p y4,.p y5,.p y6,.p y7,.p y8,.p y9,.p y10,.p y11,.p y12,.p y13,.p y14,.p x,.p z,.p y17]] 2 True (fun n cs=>∃M:List Dp,n=M.length∧cs=pc (M.flatMap encD)∧M.length≤L.length):=by
 refine vL (fn:=Tryz.f143)<| yP 16 [0] 68 (pT Tryz.f143 [1,1,0,1,0,0]) (α:=(Int) ⊕ (Int×List Dp)) (fun ix_=>match ix_ with | (.inl ka)=>0≤ka∧ka≤L.length | (.inr (kb,M))=>1≤kb∧kb≤L.length∧(M.length:Int)≤kb∧1≤M.length) (fun ix_=>match ix_ with | (.inl ka)=>(L.length - ka).toNat | (.inr (kb,M))=>(L.length - kb).toNat) (fun ix_=>match ix_ with | (.inl ka)=>([(0,o (.p lx)),(3,o (.ref 0 0)),(5,o (nl)),(6,o (i ka))],[.cells [.p y0,.p y1,.p y2,.p y3,.p y4,.p y5,.p y6,.p y7,.p y8,.p y9,.p y10,.p y11,.p y12,.p y13,.p y14,.p x,.p z,.p y17] false]) | (.inr (kb,M))=>([(0,o (.p lx)),(3,o (.ref 0 0)),(5,o (.lsl 1 0 M.length 2)),(6,o (i kb))],[.cells [.p y0,.p y1,.p y2,.p y3,.p y4,.p y5,.p y6,.p y7,.p y8,.p y9,.p y10,.p y11,.p y12,.p y13,.p y14,.p x,.p z,.p y17] false,.cells (pc (List.flatMap encD M)) false])) (.inl 0) (by exact ⟨by omega,by omega⟩) ?_
 rintro (ka | ⟨kb,M⟩) hI ih5 J
 try dsimp only at hI ih5 ⊢
 ·obtain ⟨_,_⟩:=hI;refine yL 5 hl<| yB 2 14 (ka<(↑L.length:Int)) (fun _=> ?_) fun _=> ?_
  ·refine yD 5 [] [] (List.range 8)<| yI 4 ka hl<| yGN 0 encD L ka 2 ?_
   have:=((L.getD ka.toNat default)).hw;refine yC 0 (c273 _ _ _ _ ((L.getD ka.toNat default).t) hz ((L.getD ka.toNat default)).h (by omega) (by omega)) ?_;rintro _ ⟨v4,rfl⟩;refine yD 3 [] [] (List.range 8)<| yI 3 ka hl<| yG1 1 encD L ka 1<| yC 0 (c274 _ _ y0 y1 y2 y3 y4 y5 y6 y7 y8 y9 y10 y11 y12 y13 y14 _ _ y17 ((L.getD ka.toNat default).t) hx hz (by omega) (by omega)) ?_
   rintro _ ⟨v6,rfl⟩;cases hb7:v4
   ·refine yP 17 [0] 68 (pT Tryz.f143 [1,1,0,1,0,0,1,0,0,1,1,1,0,1,0,0]) (α:=(Int×Bool)) (fun (q,al)=>0≤q∧q≤(L.getD ka.toNat default).F.length) (fun (q,al)=>((L.getD ka.toNat default).F.length - q).toNat) (fun (q,al)=>([(0,o (.p lx)),(3,o (.ref 0 0)),(5,o (nl)),(6,o (i ka)),(7,o (b al)),(9,o (i q))],[.cells [.p y0,.p y1,.p y2,.p y3,.p y4,.p y5,.p y6,.p y7,.p y8,.p y9,.p y10,.p y11,.p y12,.p y13,.p y14,.p x,.p z,.p y17] false])) (0,false) (by exact ⟨by omega,by omega⟩) ?_;rintro ⟨q,al⟩ hI ih15 J
    try dsimp only at hI ih15 ⊢
    obtain ⟨_,_⟩:=hI;refine yI 6 ka hl<| yG 1 encD L ka<| yL 0 ((L.getD ka.toNat default)).h<| yB 2 42 (q<(↑(L.getD ka.toNat default).F.length:Int)) (fun _=> ?_) fun _=> ?_
    ·refine yD 5 [] [] (List.range 11)<| yI 3 ka hl<| yG 1 encD L ka<| yI 1 q ((L.getD ka.toNat default)).h<| yG 0 encS ((L.getD ka.toNat default).F) q<| yC 0 (c274 _ _ y0 y1 y2 y3 y4 y5 y6 y7 y8 y9 y10 y11 y12 y13 y14 _ _ y17 ((L.getD ka.toNat default).F.getD q.toNat default) hx hz (by omega) (by omega)) ?_
     rintro _ ⟨v16,rfl⟩;cases hb17:al
     ·exact yJ 16 9 (q+1)<| yK 0 [0] (ih15 ((q+1),false) (by ((try dsimp only);omega)) (by ((try dsimp only);omega)))
     exact yJ 16 9 (q+1)<| yK 0 [0] (ih15 ((q+1),v16) (by ((try dsimp only);omega)) (by ((try dsimp only);omega)))
    cases hb18:al
    ·exact yJ 15 6 (ka+1)<| yK 0 [0] (ih5 (.inl (ka+1)) (by ((try dsimp only);omega)) (by ((try dsimp only);omega)))
    exact yI 11 ka hl<| yGN 0 encD L ka 2<| yJ 11 6 (ka+1)<| yK 0 [0,2] (ih5 (.inr ((ka+1),([Dp.mk (L.getD ka.toNat default).x (L.getD ka.toNat default).F (L.getD ka.toNat default).t (L.getD ka.toNat default).h (L.getD ka.toNat default).hw]))) (by ((try dsimp only);(repeat' apply And.intro)<;>first | omega | rfl | assumption | (simp only [List.length_append,List.length_cons,List.length_nil,List.length_set];omega))) (by ((try dsimp only);omega)))
   refine yP 17 [0] 68 (pT Tryz.f143 [1,1,0,1,0,0,1,0,0,1,1,1,0,1,0,0]) (α:=(Int×Bool)) (fun (q,al)=>0≤q∧q≤(L.getD ka.toNat default).F.length) (fun (q,al)=>((L.getD ka.toNat default).F.length - q).toNat) (fun (q,al)=>([(0,o (.p lx)),(3,o (.ref 0 0)),(5,o (nl)),(6,o (i ka)),(7,o (b al)),(9,o (i q))],[.cells [.p y0,.p y1,.p y2,.p y3,.p y4,.p y5,.p y6,.p y7,.p y8,.p y9,.p y10,.p y11,.p y12,.p y13,.p y14,.p x,.p z,.p y17] false])) (0,v6) (by exact ⟨by omega,by omega⟩) ?_;rintro ⟨q,al⟩ hI ih15 J
   try dsimp only at hI ih15 ⊢
   obtain ⟨_,_⟩:=hI;refine yI 6 ka hl<| yG 1 encD L ka<| yL 0 ((L.getD ka.toNat default)).h<| yB 2 42 (q<(↑(L.getD ka.toNat default).F.length:Int)) (fun _=> ?_) fun _=> ?_
   ·refine yD 5 [] [] (List.range 11)<| yI 3 ka hl<| yG 1 encD L ka<| yI 1 q ((L.getD ka.toNat default)).h<| yG 0 encS ((L.getD ka.toNat default).F) q<| yC 0 (c274 _ _ y0 y1 y2 y3 y4 y5 y6 y7 y8 y9 y10 y11 y12 y13 y14 _ _ y17 ((L.getD ka.toNat default).F.getD q.toNat default) hx hz (by omega) (by omega)) ?_
    rintro _ ⟨v28,rfl⟩;cases hb29:al
    ·exact yJ 16 9 (q+1)<| yK 0 [0] (ih15 ((q+1),false) (by ((try dsimp only);omega)) (by ((try dsimp only);omega)))
    exact yJ 16 9 (q+1)<| yK 0 [0] (ih15 ((q+1),v28) (by ((try dsimp only);omega)) (by ((try dsimp only);omega)))
   cases hb30:al
   ·exact yJ 15 6 (ka+1)<| yK 0 [0] (ih5 (.inl (ka+1)) (by ((try dsimp only);omega)) (by ((try dsimp only);omega)))
   exact yI 11 ka hl<| yGN 0 encD L ka 2<| yJ 11 6 (ka+1)<| yK 0 [0,2] (ih5 (.inr ((ka+1),([Dp.mk (L.getD ka.toNat default).x (L.getD ka.toNat default).F (L.getD ka.toNat default).t (L.getD ka.toNat default).h (L.getD ka.toNat default).hw]))) (by ((try dsimp only);(repeat' apply And.intro)<;>first | omega | rfl | assumption | (simp only [List.length_append,List.length_cons,List.length_nil,List.length_set];omega))) (by ((try dsimp only);omega)))
  refine yFN 7 ?_;trivial
 obtain ⟨_,_,_,_⟩:=hI;refine yL 5 hl<| yB 2 14 (kb<(↑L.length:Int)) (fun _=> ?_) fun _=> ?_
 ·refine yD 5 [] [] (List.range 8)<| yI 4 kb hl<| yGN 0 encD L kb 2 ?_
  have:=((L.getD kb.toNat default)).hw;refine yC 0 (c273 _ _ _ _ ((L.getD kb.toNat default).t) hz ((L.getD kb.toNat default)).h (by omega) (by omega)) ?_;rintro _ ⟨v38,rfl⟩;refine yD 3 [] [] (List.range 8)<| yI 3 kb hl<| yG1 1 encD L kb 1<| yC 0 (c274 _ _ y0 y1 y2 y3 y4 y5 y6 y7 y8 y9 y10 y11 y12 y13 y14 _ _ y17 ((L.getD kb.toNat default).t) hx hz (by omega) (by omega)) ?_
  rintro _ ⟨v40,rfl⟩;cases hb41:v38
  ·refine yP 17 [0,1] 68 (pT Tryz.f143 [1,1,0,1,0,0,1,0,0,1,1,1,0,1,0,0]) (α:=(Int×Bool)) (fun (qq,al2)=>0≤qq∧qq≤(L.getD kb.toNat default).F.length) (fun (qq,al2)=>((L.getD kb.toNat default).F.length - qq).toNat) (fun (qq,al2)=>([(0,o (.p lx)),(3,o (.ref 0 0)),(5,o (.lsl 1 0 M.length 2)),(6,o (i kb)),(7,o (b al2)),(9,o (i qq))],[.cells [.p y0,.p y1,.p y2,.p y3,.p y4,.p y5,.p y6,.p y7,.p y8,.p y9,.p y10,.p y11,.p y12,.p y13,.p y14,.p x,.p z,.p y17] false,.cells (pc (List.flatMap encD M)) false])) (0,false) (by exact ⟨by omega,by omega⟩) ?_ (hh:=(mo (by kernel_rfl) (mo (renAt_pc (by kernel_rfl)) (mo_nil))));rintro ⟨qq,al2⟩ hI ih15 J
   try dsimp only at hI ih15 ⊢
   obtain ⟨_,_⟩:=hI;refine yI 6 kb hl<| yG 1 encD L kb<| yL 0 ((L.getD kb.toNat default)).h<| yB 2 42 (qq<(↑(L.getD kb.toNat default).F.length:Int)) (fun _=> ?_) fun _=> ?_
   ·refine yD 5 [] [] (List.range 11)<| yI 3 kb hl<| yG 1 encD L kb<| yI 1 qq ((L.getD kb.toNat default)).h<| yG 0 encS ((L.getD kb.toNat default).F) qq<| yC 0 (c274 _ _ y0 y1 y2 y3 y4 y5 y6 y7 y8 y9 y10 y11 y12 y13 y14 _ _ y17 ((L.getD kb.toNat default).F.getD qq.toNat default) hx hz (by omega) (by omega)) ?_
    rintro _ ⟨v50,rfl⟩;cases hb51:al2
    ·exact yJ 16 9 (qq+1)<| yK 0 [0,1] (ih15 ((qq+1),false) (by ((try dsimp only);omega)) (by ((try dsimp only);omega))) (hh:=(mo (by kernel_rfl) (mo (renAt_pc (by kernel_rfl)) (mo_nil))))
    exact yJ 16 9 (qq+1)<| yK 0 [0,1] (ih15 ((qq+1),v50) (by ((try dsimp only);omega)) (by ((try dsimp only);omega))) (hh:=(mo (by kernel_rfl) (mo (renAt_pc (by kernel_rfl)) (mo_nil))))
   cases hb52:al2
   ·exact yJ 15 6 (kb+1)<| yK 0 [0,1] (ih5 (.inr ((kb+1),M)) (by ((try dsimp only);omega)) (by ((try dsimp only);omega))) (hh:=(mo (by kernel_rfl) (mo (renAt_pc (by kernel_rfl)) (mo_nil))))
   exact yI 11 kb hl<| yGN 0 encD L kb 2<| yA 1 encD M (Dp.mk (L.getD kb.toNat default).x (L.getD kb.toNat default).F (L.getD kb.toNat default).t (L.getD kb.toNat default).h (L.getD kb.toNat default).hw) 40<| yJ 9 6 (kb+1)<| yK 0 [0,3] (ih5 (.inr ((kb+1),(M++[Dp.mk (L.getD kb.toNat default).x (L.getD kb.toNat default).F (L.getD kb.toNat default).t (L.getD kb.toNat default).h (L.getD kb.toNat default).hw]))) (by ((try dsimp only);(repeat' apply And.intro)<;>first | omega | rfl | assumption | (simp only [List.length_append,List.length_cons,List.length_nil,List.length_set];omega))) (by ((try dsimp only);omega))) (hh:=(mo (by kernel_rfl) (mo (renAt_pc (by kernel_rfl)) (mo_nil))))
  refine yP 17 [0,1] 68 (pT Tryz.f143 [1,1,0,1,0,0,1,0,0,1,1,1,0,1,0,0]) (α:=(Int×Bool)) (fun (qq,al2)=>0≤qq∧qq≤(L.getD kb.toNat default).F.length) (fun (qq,al2)=>((L.getD kb.toNat default).F.length - qq).toNat) (fun (qq,al2)=>([(0,o (.p lx)),(3,o (.ref 0 0)),(5,o (.lsl 1 0 M.length 2)),(6,o (i kb)),(7,o (b al2)),(9,o (i qq))],[.cells [.p y0,.p y1,.p y2,.p y3,.p y4,.p y5,.p y6,.p y7,.p y8,.p y9,.p y10,.p y11,.p y12,.p y13,.p y14,.p x,.p z,.p y17] false,.cells (pc (List.flatMap encD M)) false])) (0,v40) (by exact ⟨by omega,by omega⟩) ?_ (hh:=(mo (by kernel_rfl) (mo (renAt_pc (by kernel_rfl)) (mo_nil))));rintro ⟨qq,al2⟩ hI ih15 J
  try dsimp only at hI ih15 ⊢
  obtain ⟨_,_⟩:=hI;refine yI 6 kb hl<| yG 1 encD L kb<| yL 0 ((L.getD kb.toNat default)).h<| yB 2 42 (qq<(↑(L.getD kb.toNat default).F.length:Int)) (fun _=> ?_) fun _=> ?_
  ·refine yD 5 [] [] (List.range 11)<| yI 3 kb hl<| yG 1 encD L kb<| yI 1 qq ((L.getD kb.toNat default)).h<| yG 0 encS ((L.getD kb.toNat default).F) qq<| yC 0 (c274 _ _ y0 y1 y2 y3 y4 y5 y6 y7 y8 y9 y10 y11 y12 y13 y14 _ _ y17 ((L.getD kb.toNat default).F.getD qq.toNat default) hx hz (by omega) (by omega)) ?_
   rintro _ ⟨v64,rfl⟩;cases hb65:al2
   ·exact yJ 16 9 (qq+1)<| yK 0 [0,1] (ih15 ((qq+1),false) (by ((try dsimp only);omega)) (by ((try dsimp only);omega))) (hh:=(mo (by kernel_rfl) (mo (renAt_pc (by kernel_rfl)) (mo_nil))))
   exact yJ 16 9 (qq+1)<| yK 0 [0,1] (ih15 ((qq+1),v64) (by ((try dsimp only);omega)) (by ((try dsimp only);omega))) (hh:=(mo (by kernel_rfl) (mo (renAt_pc (by kernel_rfl)) (mo_nil))))
  cases hb66:al2
  ·exact yJ 15 6 (kb+1)<| yK 0 [0,1] (ih5 (.inr ((kb+1),M)) (by ((try dsimp only);omega)) (by ((try dsimp only);omega))) (hh:=(mo (by kernel_rfl) (mo (renAt_pc (by kernel_rfl)) (mo_nil))))
  exact yI 11 kb hl<| yGN 0 encD L kb 2<| yA 1 encD M (Dp.mk (L.getD kb.toNat default).x (L.getD kb.toNat default).F (L.getD kb.toNat default).t (L.getD kb.toNat default).h (L.getD kb.toNat default).hw) 40<| yJ 9 6 (kb+1)<| yK 0 [0,3] (ih5 (.inr ((kb+1),(M++[Dp.mk (L.getD kb.toNat default).x (L.getD kb.toNat default).F (L.getD kb.toNat default).t (L.getD kb.toNat default).h (L.getD kb.toNat default).hw]))) (by ((try dsimp only);(repeat' apply And.intro)<;>first | omega | rfl | assumption | (simp only [List.length_append,List.length_cons,List.length_nil,List.length_set];omega))) (by ((try dsimp only);omega))) (hh:=(mo (by kernel_rfl) (mo (renAt_pc (by kernel_rfl)) (mo_nil))))
 exact yFL 7 M.length 1 (pc (List.flatMap encD M)) (pers_pc _)<| ⟨_,rfl,rfl,by omega⟩
theorem c141_0 (p q:Bool) (M l h m n:Int) (hp:SpP p M l h) (hq:SpP q M m n):ValC Tryz.prog GG 141 [a [i l,i h],a [i m,i n]] (fun r=>∃l' h':Int,r=a [i l',i h']∧SpP (p || q) M l' h'):=by
 refine (c141 l h m n).mono ?_;rintro r ⟨l',h',rfl,h1,h2,h3,h4⟩;refine ⟨l',h',rfl,?_⟩;cases p<;>cases q
 ·obtain ⟨rfl,rfl⟩:=hp;obtain ⟨rfl,rfl⟩:=hq;exact h4 (by decide) (by decide)
 ·obtain ⟨rfl,rfl⟩:=hp;obtain ⟨a1,a2,a3⟩:=hq;obtain ⟨rfl,rfl⟩:=h2 (by decide) a2;exact ⟨a1,a2,a3⟩
 ·obtain ⟨rfl,rfl⟩:=hq;obtain ⟨a1,a2,a3⟩:=hp;obtain ⟨rfl,rfl⟩:=h3 a2 (by decide);exact ⟨a1,a2,a3⟩
 ·obtain ⟨a1,a2,a3⟩:=hp;obtain ⟨b1,b2,b3⟩:=hq;obtain ⟨rfl,rfl⟩:=h1 a2 b2;exact ⟨by omega,by omega,by omega⟩
theorem kn_or {K K':Int} {p1 p2 p3 p4 p5 q1 q2 q3 q4 q5:Bool} (h:K=kndI p1 p2 p3 p4 p5) (h':K'=kndI q1 q2 q3 q4 q5):orI K K'=kndI (p1 || q1) (p2 || q2) (p3 || q3) (p4 || q4) (p5 || q5):=by
 subst h;subst h'
 revert p1 p2 p3 p4 p5 q1 q2 q3 q4 q5
 decide
theorem bo_or {B B':Int} {p q:Bool} (h:BoP p B) (h':BoP q B'):BoP (p || q) (orI B B'):=by
 have h1:=h.le;have h2:=h'.le;have e1:B=0∨B=1∨B=2∨B=3:=by omega
 have e2:B'=0∨B'=1∨B'=2∨B'=3:=by omega
 rcases e1 with rfl | rfl | rfl | rfl<;>rcases e2 with rfl | rfl | rfl | rfl<;>cases p<;>cases q<;>first | (exfalso;simp [BoP] at h;done) | (exfalso;simp [BoP] at h';done) | (simp only [BoP,Bool.or_true,Bool.or_false,Bool.true_or,if_true,Bool.false_eq_true,if_false];decide)
theorem abc_at (w:Nat) (k:Nat) (hk:k<(abcL.take w).length):(abcL.take w).getD k default=abcL.getD k default:=by
 have hl:k<abcL.length:=by simp only [List.length_take] at hk;omega
 simp_all
theorem c142_0 (w1 w2:Nat) (x:PV) (k:Int) (hx:IsS encS (abcL.take w2) x) (h0:0≤k) (h1:k<(abcL.take w1).length) (hw:w2≤3):ValC Tryz.prog GG 142 [o (.p x),o (sv ((abcL.take w1).getD k.toNat default))] (fun r=>r=o (b (decide (k<w2)))):=by
 have h3:(abcL.take w1).length≤3:=by have:abcL.length=3:=rfl;simp;omega
 rw [abc_at w1 k.toNat (by omega)];have hk:k=0∨k=1∨k=2:=by omega
 have hw':w2=0∨w2=1∨w2=2∨w2=3:=by omega
 cases hx with
 | nil h=>
  have:w2=0:=by
   rcases hw' with rfl | rfl | rfl | rfl
   ·rfl
   ·simp [abcL] at h
   ·simp [abcL] at h
   ·simp [abcL] at h
  subst this
  rcases hk with rfl | rfl | rfl<;>exact kv (by kernel_rfl)
 | sl=>rcases hw' with rfl | rfl | rfl | rfl<;>rcases hk with rfl | rfl | rfl<;>exact kv (by kernel_rfl)
theorem abc_snoc {w1 w2:Nat} {k:Int} (h0:0≤k) (h1:k<(abcL.take w1).length) (h2:k<w2):abcL.take (min k w2).toNat++[(abcL.take w1).getD k.toNat default]=abcL.take (min (k+1) w2).toNat:=by
 rw [abc_at w1 k.toNat (by omega)];have h3:(abcL.take w1).length≤3:=by have:abcL.length=3:=rfl;simp;omega
 have e1:(min k w2).toNat=k.toNat:=by omega
 have e2:(min (k+1) w2).toNat=k.toNat+1:=by omega
 have hk:k=0∨k=1∨k=2:=by omega
 rw [e1,e2]
 rcases hk with rfl | rfl | rfl<;>rfl
theorem c13_6 (p1 p2 p3 p4 p5 e:Bool) (K le mx cl:Int) (be en:ByteArray) (n s m t dl dh bo rl rh:Int) (z:PV) (D:List Dp) (hK:K=kndI p1 p2 p3 p4 p5) (h1:ShP p1 le mx cl be en) (h2:NumP p2 n s m t) (h3:SpP p3 3652058 dl dh) (h4:BoP p4 bo) (h5:SpP p5 100 rl rh) (hz:IsS encD D z) (hD:D.length≤1000):ValC Tryz.prog GG 13 [a [i K,i le,i mx,i cl,sv be,sv en,i n,i s,i m,i t,i dl,i dh,i bo,i rl,i rh,nl,.p z,b e]] (fun r=>∃(K' le' mx' cl':Int) (be' en':ByteArray) (n' s' m' t' dl' dh' bo' rl' rh':Int) (x' z':PV) (w':Nat) (D':List Dp),r=a [i K',i le',i mx',i cl',sv be',sv en',i n',i s',i m',i t',i dl',i dh',i bo',i rl',i rh',.p x',.p z',b e]∧K'=kndI p1 p2 p3 p4 p5∧ShP p1 le' mx' cl' be' en'∧NumP p2 n' s' m' t'∧SpP p3 3652058 dl' dh'∧BoP p4 bo'∧SpP p5 100 rl' rh'∧IsS encS (abcL.take w') x'∧w'≤3∧IsS encD D' z'∧D'.length≤D.length):=
 c13 p1 p2 p3 p4 p5 e K le mx cl be en n s m t dl dh bo rl rh (.vl vn) z 0 D hK h1 h2 h3 h4 h5 (.nil rfl) (by decide) hz hD
theorem c13_7 (p1 p2 p3 p4 p5 e:Bool) (K le mx cl:Int) (be en:ByteArray) (n s m t dl dh bo rl rh:Int) (z:PV) (w:Nat) (C:List ByteArray) (D:List Dp) (hK:K=kndI p1 p2 p3 p4 p5) (h1:ShP p1 le mx cl be en) (h2:NumP p2 n s m t) (h3:SpP p3 3652058 dl dh) (h4:BoP p4 bo) (h5:SpP p5 100 rl rh) (hC:C=abcL.take w) (hw:w≤3) (hz:IsS encD D z) (hD:D.length≤1000):ValC Tryz.prog GG 13 [a [i K,i le,i mx,i cl,sv be,sv en,i n,i s,i m,i t,i dl,i dh,i bo,i rl,i rh,.p (.sl C.length (C.flatMap encS)),.p z,b e]] (fun r=>∃(K' le' mx' cl':Int) (be' en':ByteArray) (n' s' m' t' dl' dh' bo' rl' rh':Int) (x' z':PV) (w':Nat) (D':List Dp),r=a [i K',i le',i mx',i cl',sv be',sv en',i n',i s',i m',i t',i dl',i dh',i bo',i rl',i rh',.p x',.p z',b e]∧K'=kndI p1 p2 p3 p4 p5∧ShP p1 le' mx' cl' be' en'∧NumP p2 n' s' m' t'∧SpP p3 3652058 dl' dh'∧BoP p4 bo'∧SpP p5 100 rl' rh'∧IsS encS (abcL.take w') x'∧w'≤3∧IsS encD D' z'∧D'.length≤D.length):=by
 subst hC;exact c13 p1 p2 p3 p4 p5 e K le mx cl be en n s m t dl dh bo rl rh _ z w D hK h1 h2 h3 h4 h5 .sl hw hz hD
theorem fact_abc (w:Nat):0≤(abcL.take w).length∧(abcL.take w).length≤3:=⟨Nat.zero_le _,by have:abcL.length=3:=rfl;simp;omega⟩
theorem abc_len3 (w:Nat):(abcL.take w).length≤3∧(abcL.take w).length≤w:=by have:abcL.length=3:=rfl;simp;omega
theorem abc_one {w1 w2:Nat} {k:Int} (h0:k=0) (h1:k<(abcL.take w1).length) (h2:k<w2):[(abcL.take w1).getD k.toNat default]=abcL.take (min (k+1) w2).toNat:=by
 subst h0;have:=abc_snoc (w1:=w1) (w2:=w2) (k:=0) (by omega) h1 h2;rw [← this,show (min (0:Int) w2).toNat=0 by omega];rfl
theorem abc_next2 {C:List ByteArray} {w1 w2:Nat} {k:Int} (h0:1≤k) (hC:C=abcL.take (min k w2).toNat) (h1:k<(abcL.take w1).length) (h2:k<w2):C++[(abcL.take w1).getD k.toNat default]=abcL.take (min (k+1) w2).toNat:=by
 subst hC;exact abc_snoc (by omega) h1 h2
theorem abc_le {C:List ByteArray} {w1 w2:Nat} {k:Int} {s:ByteArray} (h0:1≤k) (hC:C=abcL.take (min k w2).toNat) (h1:k<(abcL.take w1).length) (h2:k<w2):(C++[s]).length≤3:=by
 have:=abc_len3 w1
 grind
theorem abc_stay {C:List ByteArray} {w2:Nat} {k:Int} (hC:C=abcL.take (min k w2).toNat) (h2:¬k<w2):C=abcL.take (min (k+1) w2).toNat:=by
 grind
theorem c143 (L D:List Dp) (C:List ByteArray) (lx y0 y1 y2 y3 y4 y5 y6 y7 y8 y9 y10 y11 y12 y13 y14 x z y17:PV) (hl:IsS encD L lx) (hx:IsS encS C x) (hz:IsS encD D z) (hL:L.length≤1000) (hC:C.length≤100) (hD:D.length≤300):ValC Tryz.prog GG 143 [o (.p lx),a [.p y0,.p y1,.p y2,.p y3,.p y4,.p y5,.p y6,.p y7,.p y8,.p y9,.p y10,.p y11,.p y12,.p y13,.p y14,.p x,.p z,.p y17]] (fun r=>∃(M:List Dp) (y:PV),r=o (.p y)∧IsS encD M y∧M.length≤L.length):=
 (c143_L L D C lx y0 y1 y2 y3 y4 y5 y6 y7 y8 y9 y10 y11 y12 y13 y14 x z y17 hl hx hz hL hC hD).toVal (fun _=>⟨[],_,rfl,.nil rfl,by simp⟩) (by
  rintro n cs ⟨M,rfl,rfl,hM⟩
  exact ⟨_,rfl,flat_len (enc:=encD) (z:=2) (fun _=>rfl) M,M,_,rfl,.sl,hM⟩)
theorem c332 (F F':List ByteArray) (x y:PV) (hx:IsS encS F x) (hy:IsS encS F' y) (hl:F.length≤100) (hl':F'.length≤100):ValC Tryz.prog GG 332 [o (.p x),o (.p y)] (fun r=>∃v:Bool,r=o (b v)):=by
 refine vX (fn:=Tryz.f332)<| yL 8 hx<| yL 1 hy<| yBn 2 10 ((↑F.length:Int)) ((↑F'.length:Int)) (fun _=> ?_) fun _=> ?_
 ·exact yF 5 (o (b false))<| ⟨_,rfl⟩
 refine yL 6 hx<| yP 4 [] 26 (pT Tryz.f332 [1,1,0,1,0,0]) (α:=(Int)) (fun k=>0≤k∧k≤F.length) (fun k=>(F.length - k).toNat) (fun k=>([(0,o (.p x)),(1,o (.p y)),(12,o (i ((↑F.length:Int)))),(13,o (i k))],[])) 0 (by omega) ?_
 rintro k hI ih5 J
 try dsimp only at hI ih5 ⊢
 obtain ⟨_,_⟩:=hI;refine yB 5 14 (k<(↑F.length:Int)) (fun _=> ?_) fun _=> ?_
 ·refine yD 10 [] [] (List.range 9)<| yI 2 k hx<| yG 0 encS F k<| yI 2 k hy<| yG 0 encS F' k ?_
  rcases bt2 ((F.getD k.toNat default).toList==(F'.getD k.toNat default).toList) with hb4 | hb4
  ·exact yE 2 24 hb4 onb<| yF 5 (o (b false))<| ⟨_,rfl⟩
  exact yE 2 24 hb4 onb<| yJ 8 13 (k+1)<| yK 0 [] (ih5 (k+1) (by omega) (by (try dsimp only);omega))
 exact yF 6 (o (b true))<| ⟨_,rfl⟩
theorem c216 (F F':List ByteArray) (x y:PV) (s t:ByteArray) (hx:IsS encS F x) (hy:IsS encS F' y) (hl:F.length≤100) (hl':F'.length≤100):ValC Tryz.prog GG 216 [a [.p x,sv s],a [.p y,sv t]] (fun r=>∃v:Bool,r=o (b v)):=by
 refine vX (fn:=Tryz.f216) ?_
 rcases bt2 (s.toList==t.toList) with hb0 | hb0
 ·exact yE 14 10 hb0 ob<| yF 8 (o (b false))<| ⟨_,rfl⟩
 refine yE 14 10 hb0 ob<| yC 4 (c332 _ _ _ _ hx hy (by omega) (by omega)) ?_
 rintro _ ⟨v1,rfl⟩;exact yF 3 (o (b v1))<| ⟨_,rfl⟩
theorem c331_C (M:List Dp) (G:List ByteArray) (x:PV) (s:ByteArray) (hx:IsS encS G x) (hG:G.length≤100) (hM:M.length≤1000) (G2:List ByteArray) (x2:PV) (s2:ByteArray) (hx2:IsS encS G2 x2) (hG2:G2.length≤100):CalOk Tryz.prog GG (.fn 331) [a [.p x2,sv s2],o (.ref 0 0),o (.ref 2 0)] [.cells [.p (.vl (vf 216))] false,.cells (pc (M.flatMap encD)) false,.cells [.p x,sv s] false] (fun r L=>∃v:Bool,r=o (b v)∧L=[.cells [.p (.vl (vf 216))] false,.cells (pc (M.flatMap encD)) false,.cells [.p x,sv s] false]):=by
 refine CalOk.of_fin (T:=TT) (c:=Bd Tryz.f331) Tryz.func331 (Bd_ok (by kernel_rfl)) (nm (f:=331) (by kernel_rfl)) ?_;refine Fin.cutX wf 10 [] [5,6,7] (by kernel_rfl) (todo':=(pT Tryz.f331 [1,0,3])) (f:=regsOf 9 [(5,o (.p (.vl (Value.func (Fn.func 216) #[] #[])))),(6,a [.p x,.p (.vl (.string s))]),(7,a [.p x2,.p (.vl (.string s2))])]) (hpx:=[.cells [.p (.vl (Value.func (Fn.func 216) #[] #[]))] false,.cells (pc (List.flatMap encD M)) false,.cells [.p x,.p (.vl (.string s))] false,.cells [.p x2,.p (.vl (.string s2))] false]) (hp':=[.cells [.p (.vl (Value.func (Fn.func 216) #[] #[]))] false,.cells (pc (List.flatMap encD M)) false,.cells [.p x,.p (.vl (.string s))] false]) (fun J=>by kernel_rfl) (mo (by kernel_rfl) (mo (renAt_pc (by rfl)) (mo (by kernel_rfl) (mo_nil)))) fun J=> ?_;refine Fin.callV0 wf (g:=216) (ags:=[a [.p x,.p (.vl (.string s))],a [.p x2,.p (.vl (.string s2))]]) (dst:=(some 8)) (todo':=(pT Tryz.f331 [1,0,4])) (by kernel_rfl) (c216 _ _ _ _ s s2 hx hx2 (by omega) (by omega)) ?_;rintro _ ⟨v0,rfl⟩ -;refine Fin.cutX wf 2 [] [4] (by kernel_rfl) (todo':=(pT Tryz.f331 [1,1])) (f:=regsOf 9 [(4,o (b v0))]) (hpx:=[.cells [.p (.vl (Value.func (Fn.func 216) #[] #[]))] false,.cells (pc (List.flatMap encD M)) false,.cells [.p x,.p (.vl (.string s))] false]) (hp':=[.cells [.p (.vl (Value.func (Fn.func 216) #[] #[]))] false,.cells (pc (List.flatMap encD M)) false,.cells [.p x,.p (.vl (.string s))] false]) (fun J=>by kernel_rfl) (mo (by kernel_rfl) (mo (renAt_pc (by rfl)) (mo (by kernel_rfl) (mo_nil)))) fun J=> ?_;refine Fin.fin (by kernel_rfl) ⟨o (b v0),by kernel_rfl,?_⟩;exact ⟨_,rfl,rfl⟩
theorem c455_C (M:List Dp) (G:List ByteArray) (x:PV) (s:ByteArray) (hx:IsS encS G x) (hG:G.length≤100) (hM:M.length≤1000):CalOk Tryz.prog GG (.fn 455) [o (.lsl 1 0 M.length 2),o (.fn 331 [(0,0),(2,0)])] [.cells [.p (.vl (vf 216))] false,.cells (pc (M.flatMap encD)) false,.cells [.p x,sv s] false] (fun r L=>∃v:Int,r=o (i v)∧L=[.cells [.p (.vl (vf 216))] false,.cells (pc (M.flatMap encD)) false,.cells [.p x,sv s] false]):=by
 refine CalOk.of_fin (T:=TT) (c:=Bd Tryz.f455) Tryz.func455 (Bd_ok (by kernel_rfl)) (nm (f:=455) (by kernel_rfl)) ?_;refine Fin.cutX wf 13 [] [0,1,7,8] (by kernel_rfl) (todo':=(pT Tryz.f455 [1,0,1,0,0])) (f:=regsOf 19 [(0,o (.lsl 1 0 M.length 2)),(1,o (.fn 331 [(0,0),(2,0)])),(7,o (i ((↑M.length:Int)))),(8,o (i 0))]) (hpx:=[.cells [.p (.vl (Value.func (Fn.func 216) #[] #[]))] false,.cells (pc (List.flatMap encD M)) false,.cells [.p x,.p (.vl (.string s))] false]) (hp':=[.cells [.p (.vl (Value.func (Fn.func 216) #[] #[]))] false,.cells (pc (List.flatMap encD M)) false,.cells [.p x,.p (.vl (.string s))] false]) (fun J=>by kernel_rfl) (mo (by kernel_rfl) (mo (renAt_pc (by rfl)) (mo (by kernel_rfl) (mo_nil)))) fun J=> ?_;refine Fin.ind (α:=(Int)) (fun k=>0≤k∧k≤M.length) (fun k=>(M.length - k).toNat) (fun k J=>⟨regsOf 19 [(0,o (.lsl 1 0 M.length 2)),(1,o (.fn 331 [(0,0),(2,0)])),(7,o (i ((↑M.length:Int)))),(8,o (i k))] J,[.cells [.p (.vl (Value.func (Fn.func 216) #[] #[]))] false,.cells (pc (List.flatMap encD M)) false,.cells [.p x,.p (.vl (.string s))] false]⟩) ?_ 0 (by exact ⟨by omega,by omega⟩) J;rintro k hI ih4 J
 try dsimp only at hI ih4 ⊢
 obtain ⟨_,_⟩:=hI;refine Fin.cutX wf 5 [] [0,1,7,8,9] (by kernel_rfl) (todo':=(pT Tryz.f455 [1,0,1,0,0,1,0])) (f:=regsOf 19 [(0,o (.lsl 1 0 M.length 2)),(1,o (.fn 331 [(0,0),(2,0)])),(7,o (i ((↑M.length:Int)))),(8,o (i k)),(9,o (b (decide (k<(↑M.length:Int)))))]) (hpx:=[.cells [.p (.vl (Value.func (Fn.func 216) #[] #[]))] false,.cells (pc (List.flatMap encD M)) false,.cells [.p x,.p (.vl (.string s))] false]) (hp':=[.cells [.p (.vl (Value.func (Fn.func 216) #[] #[]))] false,.cells (pc (List.flatMap encD M)) false,.cells [.p x,.p (.vl (.string s))] false]) (fun J=>by kernel_rfl) (mo (by kernel_rfl) (mo (renAt_pc (by rfl)) (mo (by kernel_rfl) (mo_nil)))) fun J=> ?_
 by_cases hb2:(k<(↑M.length:Int))
 ·rw [decide_eq_true hb2];refine Fin.cutX wf 14 [] [0,1,5,7,8,11,12,13] (by kernel_rfl) (todo':=(pT Tryz.f455 [1,0,1,0,0,1,1,0,0,1,0,3])) (f:=regsOf 19 [(0,o (.lsl 1 0 M.length 2)),(1,o (.fn 331 [(0,0),(2,0)])),(5,o (i k)),(7,o (i ((↑M.length:Int)))),(8,o (i k)),(11,o (.fn 331 [(0,0),(2,0)])),(12,o (.lsl 1 0 M.length 2)),(13,o (i k))]) (hpx:=[.cells [.p (.vl (Value.func (Fn.func 216) #[] #[]))] false,.cells (pc (List.flatMap encD M)) false,.cells [.p x,.p (.vl (.string s))] false]) (hp':=[.cells [.p (.vl (Value.func (Fn.func 216) #[] #[]))] false,.cells (pc (List.flatMap encD M)) false,.cells [.p x,.p (.vl (.string s))] false]) (fun J=>by kernel_rfl) (mo (by kernel_rfl) (mo (renAt_pc (by rfl)) (mo (by kernel_rfl) (mo_nil)))) fun J=> ?_;refine Fin.opH wf (r:=o (.ref 1 (0+k.toNat*2))) (hp':=[.cells [.p (.vl (Value.func (Fn.func 216) #[] #[]))] false,.cells (pc (List.flatMap encD M)) false,.cells [.p x,.p (.vl (.string s))] false]) (o:=opO (opsAt (Bd Tryz.f455) [1,0,1,0,0,1,1,0,0,1,0]) 3) (todo':=(pT Tryz.f455 [1,0,1,0,0,1,1,0,0,1,0,4])) (by kernel_rfl) (Eq.trans (by kernel_rfl) (show indexAddrA TT 43 (o (.lsl 1 0 M.length 2)) (o (i k)) [.cells [.p (.vl (Value.func (Fn.func 216) #[] #[]))] false,.cells (pc (List.flatMap encD M)) false,.cells [.p x,.p (.vl (.string s))] false]=_ from indexAddrA_lsl (e:=103) (by kernel_rfl) (by kernel_rfl) (by omega) (by omega))) ?_;refine Fin.cutX wf 0 [] [0,1,5,7,8,11,14] (by kernel_rfl) (todo':=(pT Tryz.f455 [1,0,1,0,0,1,1,0,0,1,0,4])) (f:=regsOf 19 [(0,o (.lsl 1 0 M.length 2)),(1,o (.fn 331 [(0,0),(2,0)])),(5,o (i k)),(7,o (i ((↑M.length:Int)))),(8,o (i k)),(11,o (.fn 331 [(0,0),(2,0)])),(14,o (.ref 1 (0+k.toNat*2)))]) (hpx:=[.cells [.p (.vl (Value.func (Fn.func 216) #[] #[]))] false,.cells (pc (List.flatMap encD M)) false,.cells [.p x,.p (.vl (.string s))] false]) (hp':=[.cells [.p (.vl (Value.func (Fn.func 216) #[] #[]))] false,.cells (pc (List.flatMap encD M)) false,.cells [.p x,.p (.vl (.string s))] false]) (fun J=>by kernel_rfl) (mo (by kernel_rfl) (mo (renAt_pc (by rfl)) (mo (by kernel_rfl) (mo_nil)))) fun J=> ?_;refine Fin.opH wf (r:=a [.p ((M.getD k.toNat default).x),.p (.vl (.string ((M.getD k.toNat default).t)))]) (hp':=[.cells [.p (.vl (Value.func (Fn.func 216) #[] #[]))] false,.cells (pc (List.flatMap encD M)) false,.cells [.p x,.p (.vl (.string s))] false]) (o:=opO (opsAt (Bd Tryz.f455) [1,0,1,0,0,1,1,0,0,1,0]) 4) (todo':=(pT Tryz.f455 [1,0,1,0,0,1,1,0,0,1,0,5])) (by kernel_rfl) (Eq.trans (by kernel_rfl) (show loadA TT GG 103 (o (.ref 1 (0+k.toNat*2))) [.cells [.p (.vl (Value.func (Fn.func 216) #[] #[]))] false,.cells (pc (List.flatMap encD M)) false,.cells [.p x,.p (.vl (.string s))] false]=_ from loadA_LN0 (α:=Dp) (enc:=encD) (L:=M) (n:=2) (fz:=false) default (by kernel_rfl) (by kernel_rfl) (by kernel_rfl) (by exact fun _=>rfl) (by omega) (by omega) (by decide))) ?_;have:=((M.getD k.toNat default)).hw;refine Fin.cutX wf 0 [] [0,1,5,7,8,11,15] (by kernel_rfl) (todo':=(pT Tryz.f455 [1,0,1,0,0,1,1,0,0,1,0,5])) (f:=regsOf 19 [(0,o (.lsl 1 0 M.length 2)),(1,o (.fn 331 [(0,0),(2,0)])),(5,o (i k)),(7,o (i ((↑M.length:Int)))),(8,o (i k)),(11,o (.fn 331 [(0,0),(2,0)])),(15,a [.p ((M.getD k.toNat default).x),.p (.vl (.string ((M.getD k.toNat default).t)))])]) (hpx:=[.cells [.p (.vl (Value.func (Fn.func 216) #[] #[]))] false,.cells (pc (List.flatMap encD M)) false,.cells [.p x,.p (.vl (.string s))] false]) (hp':=[.cells [.p (.vl (Value.func (Fn.func 216) #[] #[]))] false,.cells (pc (List.flatMap encD M)) false,.cells [.p x,.p (.vl (.string s))] false]) (fun J=>by kernel_rfl) (mo (by kernel_rfl) (mo (renAt_pc (by rfl)) (mo (by kernel_rfl) (mo_nil)))) fun J=> ?_;refine Fin.callC (T:=TT) wf (dst:=(some 16)) (todo':=(pT Tryz.f455 [1,0,1,0,0,1,1,0,0,1,0,6])) (by kernel_rfl) (c331_C M G x s hx (by omega) (by omega) ((M.getD k.toNat default).F) ((M.getD k.toNat default).x) ((M.getD k.toNat default).t) ((M.getD k.toNat default)).h (by omega)) ?_;rintro _ _ ⟨v4,rfl,rfl⟩;refine Fin.cutX wf 1 [] [0,1,5,7,8,16] (by kernel_rfl) (todo':=(pT Tryz.f455 [1,0,1,0,0,1,1,0,0,1,1])) (f:=regsOf 19 [(0,o (.lsl 1 0 M.length 2)),(1,o (.fn 331 [(0,0),(2,0)])),(5,o (i k)),(7,o (i ((↑M.length:Int)))),(8,o (i k)),(16,o (b v4))]) (hpx:=[.cells [.p (.vl (Value.func (Fn.func 216) #[] #[]))] false,.cells (pc (List.flatMap encD M)) false,.cells [.p x,.p (.vl (.string s))] false]) (hp':=[.cells [.p (.vl (Value.func (Fn.func 216) #[] #[]))] false,.cells (pc (List.flatMap encD M)) false,.cells [.p x,.p (.vl (.string s))] false]) (fun J=>by kernel_rfl) (mo (by kernel_rfl) (mo (renAt_pc (by rfl)) (mo (by kernel_rfl) (mo_nil)))) fun J=> ?_;cases hb5:v4
  ·refine Fin.cutX wf 8 [] [0,1,7,8] (by kernel_rfl) (todo':=(pT Tryz.f455 [1,0,1,0,0])) (f:=regsOf 19 [(0,o (.lsl 1 0 M.length 2)),(1,o (.fn 331 [(0,0),(2,0)])),(7,o (i ((↑M.length:Int)))),(8,o (i (IntKind.i64.wrap (k+1))))]) (hpx:=[.cells [.p (.vl (Value.func (Fn.func 216) #[] #[]))] false,.cells (pc (List.flatMap encD M)) false,.cells [.p x,.p (.vl (.string s))] false]) (hp':=[.cells [.p (.vl (Value.func (Fn.func 216) #[] #[]))] false,.cells (pc (List.flatMap encD M)) false,.cells [.p x,.p (.vl (.string s))] false]) (fun J=>by kernel_rfl) (mo (by kernel_rfl) (mo (renAt_pc (by rfl)) (mo (by kernel_rfl) (mo_nil)))) fun J=> ?_;rw [wrap_id (n:=(k+1)) (by omega) (by omega)];exact ih4 (k+1) (by ((try dsimp only);omega)) (by ((try dsimp only);omega)) J
  refine Fin.cutX wf 6 [] [4] (by kernel_rfl) (todo':=(pT Tryz.f455 [1,0,1,0,0,1,1,0,0,1,1,0,1])) (f:=regsOf 19 [(4,o (i k))]) (hpx:=[.cells [.p (.vl (Value.func (Fn.func 216) #[] #[]))] false,.cells (pc (List.flatMap encD M)) false,.cells [.p x,.p (.vl (.string s))] false]) (hp':=[.cells [.p (.vl (Value.func (Fn.func 216) #[] #[]))] false,.cells (pc (List.flatMap encD M)) false,.cells [.p x,.p (.vl (.string s))] false]) (fun J=>by kernel_rfl) (mo (by kernel_rfl) (mo (renAt_pc (by rfl)) (mo (by kernel_rfl) (mo_nil)))) fun J=> ?_;refine Fin.fin (by kernel_rfl) ⟨o (i k),by kernel_rfl,?_⟩;exact ⟨_,rfl,rfl⟩
 rw [decide_eq_false hb2];refine Fin.cutX wf 6 [] [4] (by kernel_rfl) (todo':=(pT Tryz.f455 [1,1,1])) (f:=regsOf 19 [(4,o (i (-1)))]) (hpx:=[.cells [.p (.vl (Value.func (Fn.func 216) #[] #[]))] false,.cells (pc (List.flatMap encD M)) false,.cells [.p x,.p (.vl (.string s))] false]) (hp':=[.cells [.p (.vl (Value.func (Fn.func 216) #[] #[]))] false,.cells (pc (List.flatMap encD M)) false,.cells [.p x,.p (.vl (.string s))] false]) (fun J=>by kernel_rfl) (mo (by kernel_rfl) (mo (renAt_pc (by rfl)) (mo (by kernel_rfl) (mo_nil)))) fun J=> ?_;refine Fin.fin (by kernel_rfl) ⟨o (i (-1)),by kernel_rfl,?_⟩;exact ⟨_,rfl,rfl⟩
theorem c455_D (G:List ByteArray) (x:PV) (s:ByteArray) (hx:IsS encS G x) (hG:G.length≤100):CalOk Tryz.prog GG (.fn 455) [o nl,o (.fn 331 [(0,0),(1,0)])] [.cells [.p (.vl (vf 216))] false,.cells [.p x,sv s] false] (fun r L=>∃v:Int,r=o (i v)∧L=[.cells [.p (.vl (vf 216))] false,.cells [.p x,sv s] false]):=by
 refine CalOk.of_fin (T:=TT) (c:=Bd Tryz.f455) Tryz.func455 (Bd_ok (by kernel_rfl)) (nm (f:=455) (by kernel_rfl)) ?_;refine Fin.cut wf 24 [] [4] (by kernel_rfl) (todo':=(pT Tryz.f455 [1,1,1])) (f:=regsOf 19 [(4,o (i (-1)))]) (hp':=[.cells [.p (.vl (Value.func (Fn.func 216) #[] #[]))] false,.cells [.p x,.p (.vl (.string s))] false]) (fun J=>by kernel_rfl) fun J=> ?_;refine Fin.fin (by kernel_rfl) ⟨o (i (-1)),by kernel_rfl,?_⟩;exact ⟨_,rfl,rfl⟩
theorem c330_C (M:List Dp) (G:List ByteArray) (x:PV) (s:ByteArray) (hx:IsS encS G x) (hG:G.length≤100) (hM:M.length≤1000):CalOk Tryz.prog GG (.fn 330) [o (.lsl 1 0 M.length 2),o (.fn 331 [(0,0),(2,0)])] [.cells [.p (.vl (vf 216))] false,.cells (pc (M.flatMap encD)) false,.cells [.p x,sv s] false] (fun r L=>∃v:Bool,r=o (b v)∧L=[.cells [.p (.vl (vf 216))] false,.cells (pc (M.flatMap encD)) false,.cells [.p x,sv s] false]):=by
 refine CalOk.of_fin (T:=TT) (c:=Bd Tryz.f330) Tryz.func330 (Bd_ok (by kernel_rfl)) (nm (f:=330) (by kernel_rfl)) ?_;refine Fin.cutX wf 8 [] [5,6] (by kernel_rfl) (todo':=(pT Tryz.f330 [1,0,2])) (f:=regsOf 9 [(5,o (.lsl 1 0 M.length 2)),(6,o (.fn 331 [(0,0),(2,0)]))]) (hpx:=[.cells [.p (.vl (Value.func (Fn.func 216) #[] #[]))] false,.cells (pc (List.flatMap encD M)) false,.cells [.p x,.p (.vl (.string s))] false]) (hp':=[.cells [.p (.vl (Value.func (Fn.func 216) #[] #[]))] false,.cells (pc (List.flatMap encD M)) false,.cells [.p x,.p (.vl (.string s))] false]) (fun J=>by kernel_rfl) (mo (by kernel_rfl) (mo (renAt_pc (by rfl)) (mo (by kernel_rfl) (mo_nil)))) fun J=> ?_;refine Fin.callC (T:=TT) wf (dst:=(some 7)) (todo':=(pT Tryz.f330 [1,0,3])) (by kernel_rfl) (c455_C M G x s hx (by omega) (by omega)) ?_;rintro _ _ ⟨v0,rfl,rfl⟩;refine Fin.cutX wf 3 [] [4] (by kernel_rfl) (todo':=(pT Tryz.f330 [1,1])) (f:=regsOf 9 [(4,o (b (decide (v0≥0))))]) (hpx:=[.cells [.p (.vl (Value.func (Fn.func 216) #[] #[]))] false,.cells (pc (List.flatMap encD M)) false,.cells [.p x,.p (.vl (.string s))] false]) (hp':=[.cells [.p (.vl (Value.func (Fn.func 216) #[] #[]))] false,.cells (pc (List.flatMap encD M)) false,.cells [.p x,.p (.vl (.string s))] false]) (fun J=>by kernel_rfl) (mo (by kernel_rfl) (mo (renAt_pc (by rfl)) (mo (by kernel_rfl) (mo_nil)))) fun J=> ?_;refine Fin.fin (by kernel_rfl) ⟨o (b (decide (v0≥0))),by kernel_rfl,?_⟩;exact ⟨_,rfl,rfl⟩
theorem c330_D (G:List ByteArray) (x:PV) (s:ByteArray) (hx:IsS encS G x) (hG:G.length≤100):CalOk Tryz.prog GG (.fn 330) [o nl,o (.fn 331 [(0,0),(1,0)])] [.cells [.p (.vl (vf 216))] false,.cells [.p x,sv s] false] (fun r L=>∃v:Bool,r=o (b v)∧L=[.cells [.p (.vl (vf 216))] false,.cells [.p x,sv s] false]):=by
 refine CalOk.of_fin (T:=TT) (c:=Bd Tryz.f330) Tryz.func330 (Bd_ok (by kernel_rfl)) (nm (f:=330) (by kernel_rfl)) ?_;refine Fin.cut wf 8 [] [5,6] (by kernel_rfl) (todo':=(pT Tryz.f330 [1,0,2])) (f:=regsOf 9 [(5,o (nl)),(6,o (.fn 331 [(0,0),(1,0)]))]) (hp':=[.cells [.p (.vl (Value.func (Fn.func 216) #[] #[]))] false,.cells [.p x,.p (.vl (.string s))] false]) (fun J=>by kernel_rfl) fun J=> ?_;refine Fin.callC (T:=TT) wf (dst:=(some 7)) (todo':=(pT Tryz.f330 [1,0,3])) (by kernel_rfl) (c455_D G x s hx (by omega)) ?_;rintro _ _ ⟨v0,rfl,rfl⟩;refine Fin.cut wf 3 [] [4] (by kernel_rfl) (todo':=(pT Tryz.f330 [1,1])) (f:=regsOf 9 [(4,o (b (decide (v0≥0))))]) (hp':=[.cells [.p (.vl (Value.func (Fn.func 216) #[] #[]))] false,.cells [.p x,.p (.vl (.string s))] false]) (fun J=>by kernel_rfl) fun J=> ?_;refine Fin.fin (by kernel_rfl) ⟨o (b (decide (v0≥0))),by kernel_rfl,?_⟩;exact ⟨_,rfl,rfl⟩
theorem c215_L (D:List Dp) (z:PV) (hz:IsS encD D z) (hD:D.length≤1000):LocC Tryz.prog GG 215 [o (.p z),o (.p (.vl (vf 216)))] 2 True (fun n cs=>∃M:List Dp,n=M.length∧cs=pc (M.flatMap encD)∧M.length≤D.length):=by
 refine vL (fn:=Tryz.f215)<| yL 13 hz<| yP 4 [0] 24 (pT Tryz.f215 [1,1,0,1,0,0]) (α:=(Int) ⊕ (Int×List Dp)) (fun ix_=>match ix_ with | (.inl ka)=>0≤ka∧ka≤D.length | (.inr (kb,M))=>1≤kb∧kb≤D.length∧(M.length:Int)≤kb∧1≤M.length) (fun ix_=>match ix_ with | (.inl ka)=>(D.length - ka).toNat | (.inr (kb,M))=>(D.length - kb).toNat) (fun ix_=>match ix_ with | (.inl ka)=>([(3,o (.ref 0 0)),(5,o (nl)),(8,o (.p z)),(9,o (i ((↑D.length:Int)))),(10,o (i ka))],[.cells [.p (.vl (Value.func (Fn.func 216) #[] #[]))] false]) | (.inr (kb,M))=>([(3,o (.ref 0 0)),(5,o (.lsl 1 0 M.length 2)),(8,o (.p z)),(9,o (i ((↑D.length:Int)))),(10,o (i kb))],[.cells [.p (.vl (Value.func (Fn.func 216) #[] #[]))] false,.cells (pc (List.flatMap encD M)) false])) (.inl 0) (by omega) ?_
 rintro (ka | ⟨kb,M⟩) hI ih5 J
 try dsimp only at hI ih5 ⊢
 ·obtain ⟨_,_⟩:=hI;refine yB 5 11 (ka<(↑D.length:Int)) (fun _=> ?_) fun _=> ?_
  ·refine yI 6 ka hz<| yGN 0 encD D ka 2 ?_
   have:=((D.getD ka.toNat default)).hw;refine yU 7 [0,1] 24 (pT Tryz.f215 [1,1,0,1,0,0,1,1,0,0,1,0,2]) [(3,o (.ref 0 0)),(5,o (nl)),(7,o (.ref 1 0)),(8,o (.p z)),(9,o (i ((↑D.length:Int)))),(10,o (i ka)),(14,o (nl)),(15,o (.fn 331 [(0,0),(1,0)]))] [.cells [.p (.vl (Value.func (Fn.func 216) #[] #[]))] false,.cells [.p ((D.getD ka.toNat default).x),.p (.vl (.string ((D.getD ka.toNat default).t)))] false] fun J=> ?_;refine Fin.callC (T:=TT) wf (dst:=(some 16)) (todo':=(pT Tryz.f215 [1,1,0,1,0,0,1,1,0,0,1,0,3])) (by kernel_rfl) (c330_D ((D.getD ka.toNat default).F) ((D.getD ka.toNat default).x) ((D.getD ka.toNat default).t) ((D.getD ka.toNat default)).h (by omega)) ?_;rintro _ _ ⟨v4,rfl,rfl⟩;refine yX ?_;cases hb5:v4
   ·exact yJ 16 10 (ka+1)<| yK 0 [0,3] (ih5 (.inr ((ka+1),([Dp.mk (D.getD ka.toNat default).x (D.getD ka.toNat default).F (D.getD ka.toNat default).t (D.getD ka.toNat default).h (D.getD ka.toNat default).hw]))) (by ((try dsimp only);(repeat' apply And.intro)<;>first | omega | rfl | assumption | (simp only [List.length_append,List.length_cons,List.length_nil,List.length_set];omega))) (by dsimp only;omega))
   exact yJ 10 10 (ka+1)<| yK 0 [0] (ih5 (.inl (ka+1)) (by omega) (by dsimp only;omega))
  refine yFN 7 ?_;trivial
 obtain ⟨_,_,_,_⟩:=hI;refine yB 5 11 (kb<(↑D.length:Int)) (fun _=> ?_) fun _=> ?_
 ·refine yI 6 kb hz<| yGN 0 encD D kb 2 ?_
  have:=((D.getD kb.toNat default)).hw;refine yU 7 [0,1,2] 24 (pT Tryz.f215 [1,1,0,1,0,0,1,1,0,0,1,0,2]) [(3,o (.ref 0 0)),(5,o (.lsl 1 0 M.length 2)),(7,o (.ref 2 0)),(8,o (.p z)),(9,o (i ((↑D.length:Int)))),(10,o (i kb)),(14,o (.lsl 1 0 M.length 2)),(15,o (.fn 331 [(0,0),(2,0)]))] [.cells [.p (.vl (Value.func (Fn.func 216) #[] #[]))] false,.cells (pc (List.flatMap encD M)) false,.cells [.p ((D.getD kb.toNat default).x),.p (.vl (.string ((D.getD kb.toNat default).t)))] false] (fun J=> ?_) (hh:=(mo (by kernel_rfl) (mo (renAt_pc (by kernel_rfl)) (mo (by kernel_rfl) (mo_nil)))));refine Fin.callC (T:=TT) wf (dst:=(some 16)) (todo':=(pT Tryz.f215 [1,1,0,1,0,0,1,1,0,0,1,0,3])) (by kernel_rfl) (c330_C M ((D.getD kb.toNat default).F) ((D.getD kb.toNat default).x) ((D.getD kb.toNat default).t) ((D.getD kb.toNat default)).h (by omega) (by omega)) ?_;rintro _ _ ⟨v12,rfl,rfl⟩;refine yX ?_;cases hb13:v12
  ·exact yA 7 encD M (Dp.mk (D.getD kb.toNat default).x (D.getD kb.toNat default).F (D.getD kb.toNat default).t (D.getD kb.toNat default).h (D.getD kb.toNat default).hw) 40<| yJ 8 10 (kb+1)<| yK 0 [0,4] (ih5 (.inr ((kb+1),(M++[Dp.mk (D.getD kb.toNat default).x (D.getD kb.toNat default).F (D.getD kb.toNat default).t (D.getD kb.toNat default).h (D.getD kb.toNat default).hw]))) (by ((try dsimp only);(repeat' apply And.intro)<;>first | omega | rfl | assumption | (simp only [List.length_append,List.length_cons,List.length_nil,List.length_set];omega))) (by dsimp only;omega)) (hh:=(mo (by kernel_rfl) (mo (renAt_pc (by kernel_rfl)) (mo_nil))))
  exact yJ 10 10 (kb+1)<| yK 0 [0,1] (ih5 (.inr ((kb+1),M)) (by omega) (by dsimp only;omega)) (hh:=(mo (by kernel_rfl) (mo (renAt_pc (by kernel_rfl)) (mo_nil))))
 exact yFL 7 M.length 1 (pc (List.flatMap encD M)) (pers_pc _)<| ⟨_,rfl,rfl,by omega⟩
theorem c217_n:ValC Tryz.prog GG 217 [o nl] (fun r=>r=o nl):=by
 refine vX (fn:=Tryz.f217)<| yF 15 (o (nl)) ?_
 rfl
theorem c217_s (F:List ByteArray) (hl:F.length≤100):ValC Tryz.prog GG 217 [o (.p (.sl F.length (F.flatMap encS)))] (fun r=>∃y:PV,r=o (.p y)∧IsS encS F y):=by
 exact vX (fn:=Tryz.f217)<| yO 16 (builtinA Tryz.prog TT .append #[42,42] 42 [(o (.lsl 0 0 0 1)),(o (.p (.sl F.length (List.flatMap encS F))))]) (rule_append0S (α:=ByteArray) (enc:=encS) (e:=9) (by':=16) (L2:=F) (i:=Tryz.t9) (zero:=(List.map (fun v=>LV.p (PV.vl v)) (Value.string (ByteArray.mk #[])).cells.toList)) (cs:=([])) (by kernel_rfl) (by kernel_rfl) (by kernel_rfl) (by kernel_rfl) (by kernel_rfl) (by kernel_rfl) (by kernel_rfl) (by kernel_rfl) IsS.sl (by exact fun _=>rfl) (by kernel_rfl) (by decide) (by omega) (by omega))<| yFF 2 (o (.lsl 1 0 F.length 1)) (r':=o (.p (.sl F.length (List.flatMap encS F)))) (ts:=[1]) (fzR_one (fzL_pc (fz:=false) (by kernel_rfl) (by exact flat_len (z:=1) (fun _=>rfl) _)))<| ⟨_,rfl,.sl⟩
theorem c217 (F:List ByteArray) (x:PV) (hx:IsS encS F x) (hl:F.length≤100):ValC Tryz.prog GG 217 [o (.p x)] (fun r=>∃y:PV,r=o (.p y)∧IsS encS F y):=by
 cases hx with
 | nil h=>exact c217_n.mono (by rintro r rfl;exact ⟨_,rfl,.nil h⟩)
 | sl=>exact c217_s F hl
end Go.Sx.E1
namespace Go.Sx.E1
open Go.Proofs
variable [MaxL]
theorem isS_of {α:Type} {enc:α→List PV} {M:List α} {n:Nat} (h:M.length=n):IsS enc M (.sl n (M.flatMap enc)):=by subst h;exact .sl
theorem c211_0 (w:Nat) (x:PV) (hx:IsS encS (abcL.take w) x) (hw:w≤3):ValC Tryz.prog GG 211 [o (.p x),o (.p (.vl (vf 212)))] (fun r=>∃y:PV,r=o (.p y)∧IsS encS (abcL.take w) y):=by
 have hw':w=0∨w=1∨w=2∨w=3:=by omega
 cases hx with
 | nil h=>
  rw [h];exact (kv (r:=o nl) (by kernel_rfl)).mono (by rintro r rfl;exact ⟨_,rfl,.nil rfl⟩)
 | sl=>
  rcases hw' with rfl | rfl | rfl | rfl
  ·exact (kv (r:=o nl) (by kernel_rfl)).mono (by rintro r rfl;exact ⟨_,rfl,.nil rfl⟩)
  ·exact (kv (r:=o (.p (.sl 1 ((abcL.take 1).flatMap encS)))) (by kernel_rfl)).mono (by rintro r rfl;exact ⟨_,rfl,.sl⟩)
  ·exact (kv (r:=o (.p (.sl 2 ((abcL.take 2).flatMap encS)))) (by kernel_rfl)).mono (by rintro r rfl;exact ⟨_,rfl,.sl⟩)
  ·exact (kv (r:=o (.p (.sl 3 ((abcL.take 3).flatMap encS)))) (by kernel_rfl)).mono (by rintro r rfl;exact ⟨_,rfl,.sl⟩)
theorem c213_0 (w:Nat) (x:PV) (hx:IsS encS (abcL.take w) x) (hw:w≤3):ValC Tryz.prog GG 213 [o (.p x)] (fun r=>r=o (b true)):=by
 have hw':w=0∨w=1∨w=2∨w=3:=by omega
 cases hx with
 | nil h=>exact kv (by kernel_rfl)
 | sl=>rcases hw' with rfl | rfl | rfl | rfl<;>exact kv (by kernel_rfl)
theorem c214_0 (w:Nat) (x:PV) (hx:IsS encS (abcL.take w) x) (hw:w≤3):ValC Tryz.prog GG 214 [o (.p x)] (fun r=>r=u):=by
 have hw':w=0∨w=1∨w=2∨w=3:=by omega
 cases hx with
 | nil h=>exact kv (by kernel_rfl)
 | sl=>rcases hw' with rfl | rfl | rfl | rfl<;>exact kv (by kernel_rfl)
theorem setPart_pc {M:List Dp} {k:Nat} {d:Dp} (hk:k<M.length) (ht:d.t=(M.getD k default).t):setPart (pc (M.flatMap encD)) (k*2) [.p d.x]=pc ((M.set k d).flatMap encD):=by
 induction M generalizing k with
 | nil=>simp at hk
 | cons m l ih=>
  cases k with
  | zero=>
   simp only [List.getD_cons_zero] at ht;simp [setPart,pc,encD,ht]
  | succ k=>
   have hk':k<l.length:=by simpa using hk
   simp only [List.getD_cons_succ] at ht;have:=ih hk' ht;simp only [setPart,pc,List.flatMap_cons,encD,List.map_append,List.map_cons,List.map_nil,List.set_cons_succ] at this ⊢
   grind
open Classical in
noncomputable def setD (M:List Dp) (k:Nat) (y:PV) (F:List ByteArray):List Dp:=if h:IsS encS F y∧F.length≤100 then M.set k (Dp.mk y F (M.getD k default).t h.1 h.2) else M
theorem setD_length (M:List Dp) (k:Nat) (y:PV) (F:List ByteArray):(setD M k y F).length=M.length:=by unfold setD;split<;>simp
theorem rule_storeD {hp:List Ob} {t:TypeId} {bb:Nat} {M:List Dp} {k:Int} {y:PV} {F:List ByteArray} (hF:IsS encS F y) (hl:F.length≤100) (hs:szOf TT t=some 1) (hb:hp[bb]? =some (.cells (pc (M.flatMap encD)) false)) (h0:0≤k) (h1:k<M.length):
  storeA TT t (.v (.one (.ref bb (0+k.toNat*2)))) (.v (.one (.p y))) hp=some (undefR,hp.set bb (.cells (pc ((setD M k.toNat y F).flatMap encD)) false)):=by
 rw [show setD M k.toNat y F=M.set k.toNat (Dp.mk y F (M.getD k.toNat default).t hF hl) from dif_pos ⟨hF,hl⟩];have hk:k.toNat<M.length:=by omega
 have e:=setPart_pc (M:=M) (d:=Dp.mk y F (M.getD k.toNat default).t hF hl) hk rfl;have hlen:0+k.toNat*2+1≤(pc (M.flatMap encD)).length:=by
  simp only [pc,List.length_map,flat_len (enc:=encD) (z:=2) (fun _=>rfl)];omega
 simp only [Nat.zero_add] at hlen ⊢
 simp only [storeA,oneR,cellsR,hs,writeC,hb,List.length_cons,List.length_nil,Nat.zero_add,hlen,if_true,e]
end Go.Sx.E1
namespace Go.Sx.E1
open Go.Proofs
variable [MaxL]
def anotI (x y:Int):Int:=IntKind.i64.wrap ((BitVec.ofInt 64 x &&& ~~~ (BitVec.ofInt 64 y)).toNat:Int)
theorem c315 (le mx cl:Int) (be en:ByteArray) (h0:0≤le) (hb:(be.size:Int)≤le) (he:(en.size:Int)≤le):ValC Tryz.prog GG 315 [a [i le,i mx,i cl,sv be,sv en]] (fun r=>∃v:Int,r=o (i v)∧v=le):=by
 exact vX (fn:=Tryz.f315)<| yE 18 2 (show (if (↑be.size:Int)>if le>0 then le else 0 then (↑be.size:Int) else if le>0 then le else 0)=(if le>0 then le else 0) from if_neg (by omega)) (fun z=>o (i (if (↑en.size:Int)>z then (↑en.size:Int) else z)))<| yE 0 2 (show (if (↑en.size:Int)>if le>0 then le else 0 then (↑en.size:Int) else if le>0 then le else 0)=(if le>0 then le else 0) from if_neg (by omega)) oi<| yF 0 (o (i (if le>0 then le else 0)))<| ⟨_,rfl,by (repeat' split)<;>omega⟩
theorem c316 (le mx cl:Int) (be en:ByteArray) (h0:mx≤200):ValC Tryz.prog GG 316 [a [i le,i mx,i cl,sv be,sv en]] (fun r=>∃v:Int,r=o (i v)∧v=mx):=by
 exact vX (fn:=Tryz.f316)<| yE 12 2 (show (if 200<mx then 200 else mx)=mx from if_neg (by omega)) oi<| yF 0 (o (i mx))<| ⟨_,rfl,by (repeat' split)<;>omega⟩
theorem c320 (le mx cl:Int) (be en:ByteArray):ValC Tryz.prog GG 320 [a [i le,i mx,i cl,sv be,sv en]] (fun r=>r=o (i (andI cl 110))):=by
 refine vX (fn:=Tryz.f320)<| yF 12 (o (i (IntKind.i64.wrap (↑(BitVec.ofInt IntKind.i64.bits cl &&& BitVec.ofInt IntKind.i64.bits 110).toNat:Int)))) ?_
 rfl
theorem c318 (x y:Int):ValC Tryz.prog GG 318 [o (i x),o (i y)] (fun r=>r=o (b (anotI x y==0))):=by
 refine vX (fn:=Tryz.f318)<| yF 12 (o (b (IntKind.i64.wrap (↑(BitVec.ofInt IntKind.i64.bits x &&& ~~~BitVec.ofInt IntKind.i64.bits y).toNat:Int)==0))) ?_
 rfl
theorem c319 (s:ByteArray) (h:(s.size:Int)<4611686018427387904):ValC Tryz.prog GG 319 [o (.p (.vl (.string s)))] (fun r=>∃v:Int,r=o (i v)∧v=(bitsN s:Int)):=by
 refine vX (fn:=Tryz.f319)<| yP 17 [] 19 (pT Tryz.f319 [1,1,0,1,0,0]) (α:=(Int×Int)) (fun (k,acc)=>0≤k∧k≤s.size∧acc=(bU s k.toNat:Int)) (fun (k,acc)=>(s.size - k).toNat) (fun (k,acc)=>([(0,o (.p (.vl (.string s)))),(3,o (i acc)),(6,o (i ((↑s.size:Int)))),(7,o (i k))],[])) (0,0) (by exact ⟨by omega,by omega,rfl⟩) ?_
 rintro ⟨k,acc⟩ hI ih5 J
 try dsimp only at hI ih5 ⊢
 obtain ⟨_,_,_⟩:=hI;refine yB 5 8 (k<(↑s.size:Int)) (fun _=> ?_) fun _=> ?_
 ·refine yY 13 s k ?_;have:=byteAt_bounds s k;refine yC 0 (c235 (byteAt s k) (by omega) (by omega)) ?_;rintro _ ⟨v5,rfl,_⟩;exact yO 0 (binA Tryz.prog TT .shl 3 (Operand.const (Value.int IntKind.i64 1)) (.tmp 14) (o (i 1)) (o (i v5))) (binA_shl (by omega))<| yJ 9 7 (k+1)<| yK 0 [] (ih5 ((k+1),(IntKind.i64.wrap (↑(BitVec.ofInt IntKind.i64.bits acc ||| BitVec.ofInt IntKind.i64.bits (IntKind.i64.wrap (1*2^min v5.toNat 64))).toNat:Int))) (by exact ⟨by omega,by omega,bits_next (by assumption) (by omega) (by assumption)⟩) (by dsimp only;omega))
 exact yF 7 (o (i acc))<| ⟨_,rfl,bits_end (by assumption) (by omega) (by omega)⟩
end Go.Sx.E1
namespace Go.Sx.E1
open Go.Proofs
theorem fiL0 {P:Program} {B:Field→(Option Bool×PUnit)→Sem (ForInStep (Option Bool×PUnit))}:
  ∀(l:List (Field×Bool)),(∀fc∈l,∀s,pureOf P (B fc.1 s)=some (if (!fc.2)=true then .done (some false,()) else .yield (none,())))→
  pureOf P (forIn (l.map (·.1)) ((none,()):Option Bool×PUnit) B)=some (if l.all (·.2) then (none,()) else (some false,()))
 | [],_=>rfl
 | (f,c)::l,h=>by
  have hf:=h (f,c) (by simp);simp only [List.map_cons,List.forIn_cons,List.all_cons];refine (pureOf_bind (hf _)).trans ?_;cases c
  ·rfl
  ·simp only [Bool.true_and];exact fiL0 l (fun fc hm=>h fc (by simp [hm]))
theorem fiL {P:Program} {β:Type} {B:Field→(Option Bool×PUnit)→Sem (ForInStep (Option Bool×PUnit))} {K:Option Bool×PUnit→Sem β} {x y:β} (l:List (Field×Bool)) (fs:Array Field) (he:fs=(l.map (·.1)).toArray)
  (h:∀fc∈l,∀s,pureOf P (B fc.1 s)=some (if (!fc.2)=true then .done (some false,()) else .yield (none,()))) (k1:pureOf P (K (some false,()))=some x) (k2:pureOf P (K (none,()))=some y):
  pureOf P ((forIn fs (none,()) B).bind K)=some (if l.all (·.2) then y else x):=by
 subst he;rw [← Array.forIn_toList];refine (pureOf_bind (fiL0 l h)).trans ?_
 grind
theorem beqB (x y:ByteArray):(x==y)=(x.toList==y.toList):=by
 have e:(x==y)=(x.data==y.data):=by cases x;cases y;rfl
 rw [e]
 by_cases h:x=y
 ·subst h;simp
 ·have h1:x.toList≠y.toList:=fun h2=>h (toList_inj.1 h2);have h2:x.data≠y.data:=fun h2=>h (by cases x;simp_all)
  grind
theorem t4s (a1 a2 a3 b1 b2 b3:Int) (s t s' t':ByteArray):pureOf Tryz.prog (Op.equalIn 10000 35 (.agg #[.int .i64 a1,.int .i64 a2,.int .i64 a3,.string s,.string t]) (.agg #[.int .i64 b1,.int .i64 b2,.int .i64 b3,.string s',.string t']))=
  some (a1==b1 && (a2==b2 && (a3==b3 && (s.toList==s'.toList && t.toList==t'.toList)))):=by
 unfold Op.equalIn;refine (pureOf_bind (x:=Option.getD (Tryz.prog.underlying 35) default) (by kernel_rfl)).trans ?_;obtain ⟨f1,f2,f3,f4,f5,hd,g⟩:∃f1 f2 f3 f4 f5:Field,Option.getD (Tryz.prog.underlying 35) default= .struct #[f1,f2,f3,f4,f5]∧(f1.name= "Least" ∧f2.name= "Most" ∧f3.name= "Classes" ∧f4.name= "Begin" ∧f5.name= "End")∧(f1.type=3∧f2.type=3∧f3.type=3∧f4.type=9∧f5.type=9)∧f1.offset=0∧f2.offset=1∧f3.offset=2∧f4.offset=3∧f5.offset=4:=
  ⟨(match Option.getD (Tryz.prog.underlying 35) default with | .struct fs=>fs[0]! | _=>default),(match Option.getD (Tryz.prog.underlying 35) default with | .struct fs=>fs[1]! | _=>default),(match Option.getD (Tryz.prog.underlying 35) default with | .struct fs=>fs[2]! | _=>default),(match Option.getD (Tryz.prog.underlying 35) default with | .struct fs=>fs[3]! | _=>default),(match Option.getD (Tryz.prog.underlying 35) default with | .struct fs=>fs[4]! | _=>default),by kernel_rfl,⟨by kernel_rfl,by kernel_rfl,by kernel_rfl,by kernel_rfl,by kernel_rfl⟩,⟨by kernel_rfl,by kernel_rfl,by kernel_rfl,by kernel_rfl,by kernel_rfl⟩,by kernel_rfl,by kernel_rfl,by kernel_rfl,by kernel_rfl,by kernel_rfl⟩
 obtain ⟨⟨n1,n2,n3,n4,n5⟩,⟨y1,y2,y3,y4,y5⟩,o1,o2,o3,o4,o5⟩:=g;rw [hd];dsimp only;refine (pureOf_bind (x:=Tryz.prog) rfl).trans ?_;have hs:Tryz.prog.stoodInHeld 35=false:=by kernel_rfl
 rw [hs];simp only [Bool.false_eq_true,if_false];refine (fiL [(f1,(a1==b1)),(f2,(a2==b2)),(f3,(a3==b3)),(f4,(s.toList==s'.toList)),(f5,(t.toList==t'.toList))] _ rfl (x:=false) (y:=true) ?_ rfl rfl).trans ?_
 ·intro fc hfc st;simp only [List.mem_cons,List.mem_nil_iff,or_false] at hfc
  rcases hfc with rfl | rfl | rfl | rfl | rfl
  ·simp only [n1,y1,o1];rw [if_pos (by decide)];refine (pureOf_bind (x:= .int .i64 a1) (by kernel_rfl)).trans ?_;refine (pureOf_bind (x:= .int .i64 b1) (by kernel_rfl)).trans ?_;refine (pureOf_bind (x:=(a1==b1)) (by kernel_rfl)).trans ?_;split<;>rfl
  ·simp only [n2,y2,o2];rw [if_pos (by decide)];refine (pureOf_bind (x:= .int .i64 a2) (by kernel_rfl)).trans ?_;refine (pureOf_bind (x:= .int .i64 b2) (by kernel_rfl)).trans ?_;refine (pureOf_bind (x:=(a2==b2)) (by kernel_rfl)).trans ?_;split<;>rfl
  ·simp only [n3,y3,o3];rw [if_pos (by decide)];refine (pureOf_bind (x:= .int .i64 a3) (by kernel_rfl)).trans ?_;refine (pureOf_bind (x:= .int .i64 b3) (by kernel_rfl)).trans ?_;refine (pureOf_bind (x:=(a3==b3)) (by kernel_rfl)).trans ?_;split<;>rfl
  ·simp only [n4,y4,o4];rw [if_pos (by decide)];refine (pureOf_bind (x:= .string s) (by kernel_rfl)).trans ?_;refine (pureOf_bind (x:= .string s') (by kernel_rfl)).trans ?_;refine (pureOf_bind (x:=(s.toList==s'.toList)) (by rw [← beqB];kernel_rfl)).trans ?_;split<;>rfl
  ·simp only [n5,y5,o5];rw [if_pos (by decide)];refine (pureOf_bind (x:= .string t) (by kernel_rfl)).trans ?_;refine (pureOf_bind (x:= .string t') (by kernel_rfl)).trans ?_;refine (pureOf_bind (x:=(t.toList==t'.toList)) (by rw [← beqB];kernel_rfl)).trans ?_;split<;>rfl
 ·cases (a1==b1)<;>cases (a2==b2)<;>cases (a3==b3)<;>cases (s.toList==s'.toList)<;>cases (t.toList==t'.toList)<;>rfl
theorem rule_eqShape {hp:List Ob} {x y:Operand} {a1 a2 a3 b1 b2 b3:Int} {s t s' t':ByteArray}:binA Tryz.prog TT .eql 35 x y (a [i a1,i a2,i a3,sv s,sv t]) (a [i b1,i b2,i b3,sv s',sv t']) hp=some (o (b (a1==b1 && (a2==b2 && (a3==b3 && (s.toList==s'.toList && t.toList==t'.toList))))),hp):=by
 have h:pureOf Tryz.prog (do eqGuard .eql 35 x y (.agg #[.int .i64 a1,.int .i64 a2,.int .i64 a3,.string s,.string t]) (.agg #[.int .i64 b1,.int .i64 b2,.int .i64 b3,.string s',.string t']);binOp .eql 35 (.agg #[.int .i64 a1,.int .i64 a2,.int .i64 a3,.string s,.string t]) (.agg #[.int .i64 b1,.int .i64 b2,.int .i64 b3,.string s',.string t']))=some (.bool (a1==b1 && (a2==b2 && (a3==b3 && (s.toList==s'.toList && t.toList==t'.toList))))):=by
  refine (pureOf_bind (x:=()) (by kernel_rfl)).trans ?_;exact (pureOf_bind (t4s a1 a2 a3 b1 b2 b3 s t s' t')).trans rfl
 have e1:toVal (a [i a1,i a2,i a3,sv s,sv t])=some (.agg #[.int .i64 a1,.int .i64 a2,.int .i64 a3,.string s,.string t]):=by kernel_rfl
 have e2:toVal (a [i b1,i b2,i b3,sv s',sv t'])=some (.agg #[.int .i64 b1,.int .i64 b2,.int .i64 b3,.string s',.string t']):=by kernel_rfl
 simp only [binA,e1,e2,pureR,h];rfl
end Go.Sx.E1
namespace Go.Sx.E1
open Go.Proofs
variable [MaxL]
theorem anot_zero {x y:Nat} (h:∀j,x.testBit j=true→y.testBit j=true):anotI x y=0:=by
 unfold anotI;have e:BitVec.ofInt 64 (x:Int) &&& ~~~ (BitVec.ofInt 64 (y:Int))=0#64:=by
  rw [BitVec.ofInt_natCast,BitVec.ofInt_natCast];apply BitVec.eq_of_getLsbD_eq;intro j hj;rw [BitVec.getLsbD_and,BitVec.getLsbD_not,BitVec.getLsbD_ofNat,BitVec.getLsbD_ofNat];simp only [hj,decide_true,Bool.true_and,BitVec.getLsbD_zero];cases hx:x.testBit j
  ·rfl
  ·simp_all
 rw [e];decide
theorem own_nat {cl:Int} (h0:0≤cl) (h1:cl<128):andI cl 110=((cl.toNat &&& 110:Nat):Int):=by
 have:=andI_nat (x:=cl.toNat) (y:=110) (by omega) (by decide)
 grind
theorem sub_own {le mx cl:Int} {be en s t:ByteArray} (hs:ShW le mx cl be en s) (ht:∀j:Int,0≤j→j<t.size→∃k:Int,0≤k∧k<s.size∧byteAt t j=byteAt s k):anotI (bitsN t) (andI cl 110)=0:=by
 rw [own_nat hs.hc0 hs.hc1];apply anot_zero;intro j hj;obtain ⟨k,hk,rfl⟩:=(bU_test t j t.size).1 hj;obtain ⟨q,q0,q1,e⟩:=ht k (by omega) (by omega);rw [e];have h1:=hs.t.2 q q0 q1;rw [Nat.testBit_and,hs.hc q q0 q1,bits110 (clsI_pos h1).1 (clsI_le _) (clsI_pos h1).2];rfl
theorem c318_0 (le mx cl:Int) (be en s:ByteArray) (x:Int) (hx:x=(bitsN be:Int)) (hs:ShW le mx cl be en s):ValC Tryz.prog GG 318 [o (i x),o (i (andI cl 110))] (fun r=>r=o (b true)):=by
 subst hx;have:=c318 (bitsN be:Int) (andI cl 110);rw [sub_own hs (fun j h0 h1=>⟨j,h0,by have:=hs.hb;omega,hs.hbs j h0 h1⟩)] at this;exact this
theorem c318_1 (le mx cl:Int) (be en s:ByteArray) (x:Int) (hx:x=(bitsN en:Int)) (hs:ShW le mx cl be en s):ValC Tryz.prog GG 318 [o (i x),o (i (andI cl 110))] (fun r=>r=o (b true)):=by
 subst hx;have:=c318 (bitsN en:Int) (andI cl 110);rw [sub_own hs (fun j h0 h1=>⟨s.size - en.size+j,by have:=hs.he;omega,by omega,hs.hes j h0 h1⟩)] at this;exact this
theorem own0 {le mx cl:Int} {be en s:ByteArray} (hs:ShW le mx cl be en s) (h:andI cl 110=0):le≤0:=by
 rw [own_nat hs.hc0 hs.hc1] at h;rw [hs.hle]
 by_cases hz:(s.size:Int)≤0
 ·exact hz
 ·exfalso;have h1:=hs.t.2 0 (by omega) (by omega);have h2:(cl.toNat &&& 110).testBit (clsI (byteAt s 0))=true:=by
   rw [Nat.testBit_and,hs.hc 0 (by omega) (by omega),bits110 (clsI_pos h1).1 (clsI_le _) (clsI_pos h1).2];rfl
  simp_all
theorem cut_over {le mx cl v:Int} {be en s:ByteArray} (hs:ShW le mx cl be en s) (hv:v=be.size+en.size - le) (h0:0≤v):cutB be (be.size - v) be.size=cutB en 0 v:=by
 have hb:=hs.hb;have he:=hs.he;have hl:=hs.hle;have e1:((cutB be (be.size - v) be.size).size:Int)=be.size - (be.size - v):=cutB_size (by omega) (by omega) (by omega);have e2:((cutB en 0 v).size:Int)=v - 0:=cutB_size (by omega) (by omega) (by omega);refine ba_ext (by omega) fun j hj0 hj1=> ?_;rw [byteAt_cutB (by omega) hj0 (by omega) (by omega),byteAt_cutB (by omega) hj0 (by omega) (by omega),hs.hbs _ (by omega) (by omega),hs.hes _ (by omega) (by omega)]
 congr 1;omega
theorem own_or {le mx cl:Int} {be en s:ByteArray} (hs:ShW le mx cl be en s):orI (andI cl 110) (andI cl 110)=andI (orI cl cl) 110:=by
 have h0:=hs.hc0;have h1:=hs.hc1;have e1:=own_nat h0 h1;have h4:(cl.toNat &&& 110)<2^7:=Nat.and_lt_two_pow _ (by omega);have e2:=orI_nat (x:=cl.toNat) (y:=cl.toNat) (by omega) (by omega);rw [show ((cl.toNat:Nat):Int)=cl by omega,Nat.or_self] at e2;rw [e2,e1,orI_nat (by omega) (by omega),Nat.or_self,show ((cl.toNat:Nat):Int)=cl by omega,e1]
theorem cut_overF {le mx cl v:Int} {be en s:ByteArray} (hs:ShW le mx cl be en s) (h:((cutB be (be.size - v) be.size).toList==(cutB en 0 v).toList)=false) (hv:v=be.size+en.size - le) (h0:0≤v):False:=str_ne (cut_over hs hv h0) h
end Go.Sx.E1
