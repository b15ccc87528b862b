/- A part of the proof of MeaningEmpty. -/
import Derived.Test.YtgnjilecndiffaaGreatDoorP20
set_option linter.all false
set_option maxRecDepth 1000000
set_option maxHeartbeats 0
namespace Go.Sx.E1
open Go.Proofs
variable [MaxL]
theorem c62 (L:List Dp) (x:PV) (hx:IsS encD L x) (hl:(L.length:Int)≤1000):ValC Tryz.prog GG 62 [o (.p x)] (fun r=>∃(M:List Dp) (y:PV),r=o (.p y)∧IsS encD M y∧M.length≤L.length):=by
 refine vX (fn:=Tryz.f62)<| yP 15 [] 52 (pT Tryz.f62 [1,1,0,1,0,0]) (α:=(Int) ⊕ (Int×List Dp)) (fun ix_=>match ix_ with | (.inl ka)=>ka=0∧0≤ka | (.inr (kb,M))=>1≤kb∧kb≤L.length∧(M.length:Int)≤kb∧1≤M.length) (fun ix_=>match ix_ with | (.inl ka)=>(L.length - ka).toNat | (.inr (kb,M))=>(L.length - kb).toNat) (fun ix_=>match ix_ with | (.inl ka)=>([(0,o (.p x)),(3,o (nl)),(4,o (i ka))],[]) | (.inr (kb,M))=>([(0,o (.p x)),(3,o (.lsl 0 0 M.length 2)),(4,o (i kb))],[.cells (pc (List.flatMap encD M)) false])) (.inl 0) (by exact ⟨rfl,by omega⟩) ?_
 rintro (ka | ⟨kb,M⟩) hI ih5 J
 try dsimp only at hI ih5 ⊢
 ·obtain ⟨_,_⟩:=hI;refine yL 5 hx<| yB 2 11 (ka<(↑L.length:Int)) (fun _=> ?_) fun _=> ?_
  ·refine yP 15 [] 52 (pT Tryz.f62 [1,1,0,1,0,0,1,0,0,1,0,1,0,0]) (α:=(Int×Bool)) (fun (q,tw)=>q=0∧tw=false∧ka=0) (fun (q,tw)=>(0 - q).toNat) (fun (q,tw)=>([(0,o (.p x)),(3,o (nl)),(4,o (i ka)),(5,o (b tw)),(6,o (i q))],[])) (0,false) (by exact ⟨rfl,rfl,by omega⟩) ?_;rintro ⟨q,tw⟩ hI ih13 J
   try dsimp only at hI ih13 ⊢
   obtain ⟨_,hq4,_⟩:=hI;refine yn 8 17 (q<0)<| yE 7 34 (hq4:tw=false) onb<| yU 1 [] 52 (pT Tryz.f62 [1,1,0,1,0,0,1,0,0,1,1,1,0]) [(0,o (.p x)),(3,o (nl)),(4,o (i ka))] [] fun J=> ?_
   refine Fin.drawU wf mix (ops:=opsAt (Bd Tryz.f62) [1,1,0,1,0,0,1,0,0,1,1,1,0]) (todo':=(pT Tryz.f62 [1,1,0,1,0,0,1,0,0,1,1,1,0]).tail) [[0],[],[],[],[],[],[],[],[0],[0],[0],[0],[0],[],[],[],[]] [[],[],[],[],[],[],[],[0],[],[],[],[],[],[],[],[],[]] [0,2,3,4,5,6,8,9,10,11,12,1,7,13,14,15,16] (by kernel_rfl) (by kernel_rfl) ?_;refine DU.adv 3 (l':=[4,5,6,8,9,10,11,12,1,7,13,14,15,16]) (st':=⟨regsOf 52 [(0,o (.p x)),(3,o (nl)),(4,o (i ka)),(35,o (nl)),(37,o (.p x)),(38,o (i ka))] J,[]⟩) (by kernel_rfl) ?_;refine DU.opE (r:=o (.pref (List.flatMap encD L) (ka.toNat*2))) (hp1:=[]) (hp':=[]) (o:=opO (opsAt (Bd Tryz.f62) [1,1,0,1,0,0,1,0,0,1,1,1,0]) 4) (by kernel_rfl) (by kernel_rfl) (by kernel_rfl) (Eq.trans (by kernel_rfl) (show indexAddrA TT 43 (o (.p x)) (o (i ka)) []=_ from indexAddrA_S (e:=103) (α:=Dp) (enc:=encD) (L:=L) (z:=2) (by kernel_rfl) (by kernel_rfl) hx (by omega) (by omega))) ?_;refine DU.adv 1 (l':=[6,8,9,10,11,12,1,7,13,14,15,16]) (st':=⟨regsOf 52 [(0,o (.p x)),(3,o (nl)),(4,o (i ka)),(35,o (nl)),(37,o (.p x)),(38,o (i ka)),(39,o (.pref (List.flatMap encD L) (ka.toNat*2))),(40,o (.pref (List.flatMap encD L) (ka.toNat*2)))] J,[]⟩) (by kernel_rfl) ?_;refine DU.opE (r:=o (.p ((L.getD ka.toNat default).x))) (hp1:=[]) (hp':=[]) (o:=opO (opsAt (Bd Tryz.f62) [1,1,0,1,0,0,1,0,0,1,1,1,0]) 6) (by kernel_rfl) (by kernel_rfl) (by kernel_rfl) (Eq.trans (by kernel_rfl) (show loadA TT GG 42 (o (.pref (List.flatMap encD L) (ka.toNat*2))) []=_ from loadA_S10 (L:=L) default (by kernel_rfl) (by kernel_rfl) (by exact fun _=>rfl) (by omega) (by omega) (by decide))) ?_;have:=((L.getD ka.toNat default)).hw;refine DU.adv 2 (l':=[10,11,12,1,7,13,14,15,16]) (st':=⟨regsOf 52 [(0,o (.p x)),(3,o (nl)),(4,o (i ka)),(35,o (nl)),(37,o (.p x)),(38,o (i ka)),(39,o (.pref (List.flatMap encD L) (ka.toNat*2))),(40,o (.pref (List.flatMap encD L) (ka.toNat*2))),(41,o (.p ((L.getD ka.toNat default).x))),(43,o (.p x)),(44,o (i ka))] J,[]⟩) (by kernel_rfl) ?_;refine DU.opE (r:=o (.pref (List.flatMap encD L) (ka.toNat*2))) (hp1:=[]) (hp':=[]) (o:=opO (opsAt (Bd Tryz.f62) [1,1,0,1,0,0,1,0,0,1,1,1,0]) 10) (by kernel_rfl) (by kernel_rfl) (by kernel_rfl) (Eq.trans (by kernel_rfl) (show indexAddrA TT 43 (o (.p x)) (o (i ka)) []=_ from indexAddrA_S (e:=103) (α:=Dp) (enc:=encD) (L:=L) (z:=2) (by kernel_rfl) (by kernel_rfl) hx (by omega) (by omega))) ?_;refine DU.adv 1 (l':=[12,1,7,13,14,15,16]) (st':=⟨regsOf 52 [(0,o (.p x)),(3,o (nl)),(4,o (i ka)),(35,o (nl)),(37,o (.p x)),(38,o (i ka)),(39,o (.pref (List.flatMap encD L) (ka.toNat*2))),(40,o (.pref (List.flatMap encD L) (ka.toNat*2))),(41,o (.p ((L.getD ka.toNat default).x))),(43,o (.p x)),(44,o (i ka)),(45,o (.pref (List.flatMap encD L) (ka.toNat*2))),(46,o (.pref (List.flatMap encD L) (ka.toNat*2+1)))] J,[]⟩) (by kernel_rfl) ?_;refine DU.opE (r:=o (.p (.vl (.string ((L.getD ka.toNat default).t))))) (hp1:=[]) (hp':=[]) (o:=opO (opsAt (Bd Tryz.f62) [1,1,0,1,0,0,1,0,0,1,1,1,0]) 12) (by kernel_rfl) (by kernel_rfl) (by kernel_rfl) (Eq.trans (by kernel_rfl) (show loadA TT GG 9 (o (.pref (List.flatMap encD L) (ka.toNat*2+1))) []=_ from loadA_S1 (L:=L) default (by kernel_rfl) (by kernel_rfl) (by exact fun _=>rfl) (by omega) (by omega) (by decide))) ?_;refine DU.adv 1 (l':=[7,13,14,15,16]) (st':=⟨regsOf 52 [(0,o (.p x)),(3,o (nl)),(4,o (i ka)),(35,o (nl)),(36,o (.lsl 0 0 0 1)),(37,o (.p x)),(38,o (i ka)),(39,o (.pref (List.flatMap encD L) (ka.toNat*2))),(40,o (.pref (List.flatMap encD L) (ka.toNat*2))),(41,o (.p ((L.getD ka.toNat default).x))),(43,o (.p x)),(44,o (i ka)),(45,o (.pref (List.flatMap encD L) (ka.toNat*2))),(46,o (.pref (List.flatMap encD L) (ka.toNat*2+1))),(47,o (.p (.vl (.string ((L.getD ka.toNat default).t)))))] J,[.cells [] false]⟩) (by kernel_rfl) ?_;refine DU.opF (r:=o (.lsl 1 0 ((L.getD ka.toNat default).F.length) 1)) (r':=o (.p (.sl ((L.getD ka.toNat default).F.length) (List.flatMap encS (L.getD ka.toNat default).F)))) (ts:=[1]) (hp':=[.gone,.cells (pc (List.flatMap encS (L.getD ka.toNat default).F)) false]) (hp2:=[.gone,.cells (pc (List.flatMap encS (L.getD ka.toNat default).F)) true]) (o:=opO (opsAt (Bd Tryz.f62) [1,1,0,1,0,0,1,0,0,1,1,1,0]) 7) (d:=42) (by kernel_rfl) (by kernel_rfl) (by kernel_rfl) (Eq.trans (by kernel_rfl) (show builtinA Tryz.prog TT .append #[42,42] 42 [(o (.lsl 0 0 0 1)),(o (.p ((L.getD ka.toNat default).x)))] [.cells [] false]=_ from rule_append0S (α:=ByteArray) (enc:=encS) (e:=9) (by':=16) (L2:=((L.getD ka.toNat default).F)) (i:=Tryz.t9) (zero:=(List.map (fun v=>LV.p (PV.vl v)) (Value.string (ByteArray.mk #[])).cells.toList)) (cs:=([])) (by kernel_rfl) (by kernel_rfl) (by kernel_rfl) (by kernel_rfl) (by kernel_rfl) (by kernel_rfl) (by kernel_rfl) (by kernel_rfl) ((L.getD ka.toNat default)).h (by exact fun _=>rfl) (by kernel_rfl) (by decide) (by omega) (by omega))) (by kernel_rfl) (by kernel_rfl) (fzR_one (fzL_pc (fz:=false) (by kernel_rfl) (by exact flat_len (z:=1) (fun _=>rfl) _))) (by kernel_rfl) ?_;refine DU.adv 4 (l':=[]) (st':=⟨regsOf 52 [(0,o (.p x)),(3,o (.lsl 3 0 1 2)),(4,o (i ka)),(35,o (nl)),(36,o (.lsl 0 0 0 1)),(37,o (.p x)),(38,o (i ka)),(39,o (.pref (List.flatMap encD L) (ka.toNat*2))),(40,o (.pref (List.flatMap encD L) (ka.toNat*2))),(41,o (.p ((L.getD ka.toNat default).x))),(42,o (.p (.sl ((L.getD ka.toNat default).F.length) (List.flatMap encS (L.getD ka.toNat default).F)))),(43,o (.p x)),(44,o (i ka)),(45,o (.pref (List.flatMap encD L) (ka.toNat*2))),(46,o (.pref (List.flatMap encD L) (ka.toNat*2+1))),(47,o (.p (.vl (.string ((L.getD ka.toNat default).t))))),(48,a [.p (.sl ((L.getD ka.toNat default).F.length) (List.flatMap encS (L.getD ka.toNat default).F)),.p (.vl (.string ((L.getD ka.toNat default).t)))]),(49,o (.lsl 2 0 1 2)),(50,o (.lsl 3 0 1 2))] J,[.gone,.cells (pc (List.flatMap encS (L.getD ka.toNat default).F)) true,.cells [.p (.sl ((L.getD ka.toNat default).F.length) (List.flatMap encS (L.getD ka.toNat default).F)),.p (.vl (.string ((L.getD ka.toNat default).t)))] false,.cells [.p (.sl ((L.getD ka.toNat default).F.length) (List.flatMap encS (L.getD ka.toNat default).F)),.p (.vl (.string ((L.getD ka.toNat default).t)))] false]⟩) (by kernel_rfl) ?_;refine DU.done ?_;refine yX ?_;have hD1:IsS encS (L.getD ka.toNat default).F (.sl (L.getD ka.toNat default).F.length ((L.getD ka.toNat default).F.flatMap encS)):=by exact .sl
   have hD2:(L.getD ka.toNat default).F.length≤100:=by exact (L.getD ka.toNat default).hw
   exact yJ 7 4 (ka+1)<| yK 0 [3] (ih5 (.inr ((ka+1),([Dp.mk (PV.sl (L.getD ka.toNat default).F.length (List.flatMap encS (L.getD ka.toNat default).F)) (L.getD ka.toNat default).F (L.getD ka.toNat default).3 hD1 hD2]))) (by exact ⟨by omega,by omega,by (simp;omega),by simp⟩) (by ((try dsimp only);omega)))
  exact yF 7 (o (nl))<| ⟨[],_,rfl,.nil rfl,by simp⟩
 obtain ⟨_,_,_,_⟩:=hI;refine yL 5 hx<| yB 2 11 (kb<(↑L.length:Int)) (fun _=> ?_) fun _=> ?_
 ·refine yP 15 [0] 52 (pT Tryz.f62 [1,1,0,1,0,0,1,0,0,1,0,1,0,0]) (α:=(Int×Bool)) (fun (q,tw)=>0≤q∧q≤M.length) (fun (q,tw)=>(M.length - q).toNat) (fun (q,tw)=>([(0,o (.p x)),(3,o (.lsl 0 0 M.length 2)),(4,o (i kb)),(5,o (b tw)),(6,o (i q))],[.cells (pc (List.flatMap encD M)) false])) (0,false) (by exact ⟨by omega,by omega⟩) ?_ (hh:=(mo (renAt_pc (by kernel_rfl)) (mo_nil)));rintro ⟨q,tw⟩ hI ih13 J
  try dsimp only at hI ih13 ⊢
  obtain ⟨_,_⟩:=hI;refine yB 8 17 (q<(↑M.length:Int)) (fun _=> ?_) fun _=> ?_
  ·refine yD 5 [] [] (List.range 10)<| yO 2 (indexAddrA TT 43 (o (.lsl 0 0 M.length 2)) (o (i q))) (indexAddrA_lsl (e:=103) (by kernel_rfl) (by kernel_rfl) (by omega) (by omega))<| yO 0 (loadA TT GG 103 (o (.ref 0 (0+q.toNat*2)))) (loadA_LN0 (α:=Dp) (enc:=encD) (L:=M) (n:=2) (fz:=false) default (by kernel_rfl) (by kernel_rfl) (by kernel_rfl) (by exact fun _=>rfl) (by omega) (by omega) (by decide)) ?_
   have:=((M.getD q.toNat default)).hw;refine yI 2 kb hx<| yGN 0 encD L kb 2<| yC 0 (c50 _ _ _ _ ((M.getD q.toNat default).t) ((L.getD kb.toNat default).t) ((M.getD q.toNat default)).h ((L.getD kb.toNat default)).h (by omega)) ?_
   rintro _ ⟨v20,rfl⟩;cases hb21:tw
   ·exact yJ 16 6 (q+1)<| yK 0 [0] (ih13 ((q+1),v20) (by first | ((try dsimp only);omega)) (by first | ((try dsimp only);omega))) (hh:=(mo (renAt_pc (by kernel_rfl)) (mo_nil)))
   exact yJ 16 6 (q+1)<| yK 0 [0] (ih13 ((q+1),true) (by first | ((try dsimp only);omega)) (by first | ((try dsimp only);omega))) (hh:=(mo (renAt_pc (by kernel_rfl)) (mo_nil)))
  cases hb22:tw
  ·refine yU 8 [0] 52 (pT Tryz.f62 [1,1,0,1,0,0,1,0,0,1,1,1,0]) [(0,o (.p x)),(3,o (.lsl 0 0 M.length 2)),(4,o (i kb))] [.cells (pc (List.flatMap encD M)) false] (fun J=> ?_) (hh:=(mo (renAt_pc (by kernel_rfl)) (mo_nil)));refine Fin.drawU wf mix (ops:=opsAt (Bd Tryz.f62) [1,1,0,1,0,0,1,0,0,1,1,1,0]) (todo':=(pT Tryz.f62 [1,1,0,1,0,0,1,0,0,1,1,1,0]).tail) [[1],[],[],[],[],[],[],[],[1],[1],[1],[1],[1],[],[],[],[]] [[],[],[],[],[],[],[],[1],[],[],[],[],[],[],[],[0],[]] [0,2,3,4,5,6,8,9,10,11,12,1,7,13,14,15,16] (by kernel_rfl) (by kernel_rfl) ?_;refine DU.adv 3 (l':=[4,5,6,8,9,10,11,12,1,7,13,14,15,16]) (st':=⟨regsOf 52 [(0,o (.p x)),(3,o (.lsl 0 0 M.length 2)),(4,o (i kb)),(35,o (.lsl 0 0 M.length 2)),(37,o (.p x)),(38,o (i kb))] J,[.cells (pc (List.flatMap encD M)) false]⟩) (by kernel_rfl) ?_;refine DU.opE (r:=o (.pref (List.flatMap encD L) (kb.toNat*2))) (hp1:=[.cells (pc (List.flatMap encD M)) false]) (hp':=[.cells (pc (List.flatMap encD M)) false]) (o:=opO (opsAt (Bd Tryz.f62) [1,1,0,1,0,0,1,0,0,1,1,1,0]) 4) (by kernel_rfl) (by kernel_rfl) (by kernel_rfl) (Eq.trans (by kernel_rfl) (show indexAddrA TT 43 (o (.p x)) (o (i kb)) [.cells (pc (List.flatMap encD M)) false]=_ from indexAddrA_S (e:=103) (α:=Dp) (enc:=encD) (L:=L) (z:=2) (by kernel_rfl) (by kernel_rfl) hx (by omega) (by omega))) ?_;refine DU.adv 1 (l':=[6,8,9,10,11,12,1,7,13,14,15,16]) (st':=⟨regsOf 52 [(0,o (.p x)),(3,o (.lsl 0 0 M.length 2)),(4,o (i kb)),(35,o (.lsl 0 0 M.length 2)),(37,o (.p x)),(38,o (i kb)),(39,o (.pref (List.flatMap encD L) (kb.toNat*2))),(40,o (.pref (List.flatMap encD L) (kb.toNat*2)))] J,[.cells (pc (List.flatMap encD M)) false]⟩) (by kernel_rfl) ?_;refine DU.opE (r:=o (.p ((L.getD kb.toNat default).x))) (hp1:=[.cells (pc (List.flatMap encD M)) false]) (hp':=[.cells (pc (List.flatMap encD M)) false]) (o:=opO (opsAt (Bd Tryz.f62) [1,1,0,1,0,0,1,0,0,1,1,1,0]) 6) (by kernel_rfl) (by kernel_rfl) (by kernel_rfl) (Eq.trans (by kernel_rfl) (show loadA TT GG 42 (o (.pref (List.flatMap encD L) (kb.toNat*2))) [.cells (pc (List.flatMap encD M)) false]=_ from loadA_S10 (L:=L) default (by kernel_rfl) (by kernel_rfl) (by exact fun _=>rfl) (by omega) (by omega) (by decide))) ?_;have:=((L.getD kb.toNat default)).hw;refine DU.adv 2 (l':=[10,11,12,1,7,13,14,15,16]) (st':=⟨regsOf 52 [(0,o (.p x)),(3,o (.lsl 0 0 M.length 2)),(4,o (i kb)),(35,o (.lsl 0 0 M.length 2)),(37,o (.p x)),(38,o (i kb)),(39,o (.pref (List.flatMap encD L) (kb.toNat*2))),(40,o (.pref (List.flatMap encD L) (kb.toNat*2))),(41,o (.p ((L.getD kb.toNat default).x))),(43,o (.p x)),(44,o (i kb))] J,[.cells (pc (List.flatMap encD M)) false]⟩) (by kernel_rfl) ?_;refine DU.opE (r:=o (.pref (List.flatMap encD L) (kb.toNat*2))) (hp1:=[.cells (pc (List.flatMap encD M)) false]) (hp':=[.cells (pc (List.flatMap encD M)) false]) (o:=opO (opsAt (Bd Tryz.f62) [1,1,0,1,0,0,1,0,0,1,1,1,0]) 10) (by kernel_rfl) (by kernel_rfl) (by kernel_rfl) (Eq.trans (by kernel_rfl) (show indexAddrA TT 43 (o (.p x)) (o (i kb)) [.cells (pc (List.flatMap encD M)) false]=_ from indexAddrA_S (e:=103) (α:=Dp) (enc:=encD) (L:=L) (z:=2) (by kernel_rfl) (by kernel_rfl) hx (by omega) (by omega))) ?_;refine DU.adv 1 (l':=[12,1,7,13,14,15,16]) (st':=⟨regsOf 52 [(0,o (.p x)),(3,o (.lsl 0 0 M.length 2)),(4,o (i kb)),(35,o (.lsl 0 0 M.length 2)),(37,o (.p x)),(38,o (i kb)),(39,o (.pref (List.flatMap encD L) (kb.toNat*2))),(40,o (.pref (List.flatMap encD L) (kb.toNat*2))),(41,o (.p ((L.getD kb.toNat default).x))),(43,o (.p x)),(44,o (i kb)),(45,o (.pref (List.flatMap encD L) (kb.toNat*2))),(46,o (.pref (List.flatMap encD L) (kb.toNat*2+1)))] J,[.cells (pc (List.flatMap encD M)) false]⟩) (by kernel_rfl) ?_;refine DU.opE (r:=o (.p (.vl (.string ((L.getD kb.toNat default).t))))) (hp1:=[.cells (pc (List.flatMap encD M)) false]) (hp':=[.cells (pc (List.flatMap encD M)) false]) (o:=opO (opsAt (Bd Tryz.f62) [1,1,0,1,0,0,1,0,0,1,1,1,0]) 12) (by kernel_rfl) (by kernel_rfl) (by kernel_rfl) (Eq.trans (by kernel_rfl) (show loadA TT GG 9 (o (.pref (List.flatMap encD L) (kb.toNat*2+1))) [.cells (pc (List.flatMap encD M)) false]=_ from loadA_S1 (L:=L) default (by kernel_rfl) (by kernel_rfl) (by exact fun _=>rfl) (by omega) (by omega) (by decide))) ?_;have hf24:=((L.getD kb.toNat default)).hw;refine DU.adv 1 (l':=[7,13,14,15,16]) (st':=⟨regsOf 52 [(0,o (.p x)),(3,o (.lsl 0 0 M.length 2)),(4,o (i kb)),(35,o (.lsl 0 0 M.length 2)),(36,o (.lsl 1 0 0 1)),(37,o (.p x)),(38,o (i kb)),(39,o (.pref (List.flatMap encD L) (kb.toNat*2))),(40,o (.pref (List.flatMap encD L) (kb.toNat*2))),(41,o (.p ((L.getD kb.toNat default).x))),(43,o (.p x)),(44,o (i kb)),(45,o (.pref (List.flatMap encD L) (kb.toNat*2))),(46,o (.pref (List.flatMap encD L) (kb.toNat*2+1))),(47,o (.p (.vl (.string ((L.getD kb.toNat default).t)))))] J,[.cells (pc (List.flatMap encD M)) false,.cells [] false]⟩) (by kernel_rfl) ?_;refine DU.opF (r:=o (.lsl 2 0 ((L.getD kb.toNat default).F.length) 1)) (r':=o (.p (.sl ((L.getD kb.toNat default).F.length) (List.flatMap encS (L.getD kb.toNat default).F)))) (ts:=[2]) (hp':=[.cells (pc (List.flatMap encD M)) false,.gone,.cells (pc (List.flatMap encS (L.getD kb.toNat default).F)) false]) (hp2:=[.cells (pc (List.flatMap encD M)) false,.gone,.cells (pc (List.flatMap encS (L.getD kb.toNat default).F)) true]) (o:=opO (opsAt (Bd Tryz.f62) [1,1,0,1,0,0,1,0,0,1,1,1,0]) 7) (d:=42) (by kernel_rfl) (by kernel_rfl) (by kernel_rfl) (Eq.trans (by kernel_rfl) (show builtinA Tryz.prog TT .append #[42,42] 42 [(o (.lsl 1 0 0 1)),(o (.p ((L.getD kb.toNat default).x)))] [.cells (pc (List.flatMap encD M)) false,.cells [] false]=_ from rule_append0S (α:=ByteArray) (enc:=encS) (e:=9) (by':=16) (L2:=((L.getD kb.toNat default).F)) (i:=Tryz.t9) (zero:=(List.map (fun v=>LV.p (PV.vl v)) (Value.string (ByteArray.mk #[])).cells.toList)) (cs:=([])) (by kernel_rfl) (by kernel_rfl) (by kernel_rfl) (by kernel_rfl) (by kernel_rfl) (by kernel_rfl) (by kernel_rfl) (by kernel_rfl) ((L.getD kb.toNat default)).h (by exact fun _=>rfl) (by kernel_rfl) (by decide) (by omega) (by omega))) (by kernel_rfl) (by kernel_rfl) (fzR_one (fzL_pc (fz:=false) (by kernel_rfl) (by exact flat_len (z:=1) (fun _=>rfl) _))) (by kernel_rfl) ?_;refine DU.adv 2 (l':=[15,16]) (st':=⟨regsOf 52 [(0,o (.p x)),(3,o (.lsl 0 0 M.length 2)),(4,o (i kb)),(35,o (.lsl 0 0 M.length 2)),(36,o (.lsl 1 0 0 1)),(37,o (.p x)),(38,o (i kb)),(39,o (.pref (List.flatMap encD L) (kb.toNat*2))),(40,o (.pref (List.flatMap encD L) (kb.toNat*2))),(41,o (.p ((L.getD kb.toNat default).x))),(42,o (.p (.sl ((L.getD kb.toNat default).F.length) (List.flatMap encS (L.getD kb.toNat default).F)))),(43,o (.p x)),(44,o (i kb)),(45,o (.pref (List.flatMap encD L) (kb.toNat*2))),(46,o (.pref (List.flatMap encD L) (kb.toNat*2+1))),(47,o (.p (.vl (.string ((L.getD kb.toNat default).t))))),(48,a [.p (.sl ((L.getD kb.toNat default).F.length) (List.flatMap encS (L.getD kb.toNat default).F)),.p (.vl (.string ((L.getD kb.toNat default).t)))]),(49,o (.lsl 3 0 1 2))] J,[.cells (pc (List.flatMap encD M)) false,.gone,.cells (pc (List.flatMap encS (L.getD kb.toNat default).F)) true,.cells [.p (.sl ((L.getD kb.toNat default).F.length) (List.flatMap encS (L.getD kb.toNat default).F)),.p (.vl (.string ((L.getD kb.toNat default).t)))] false]⟩) (by kernel_rfl) ?_;refine DU.opH (r:=o (.lsl 4 0 ((M++[Dp.mk (PV.sl (L.getD kb.toNat default).F.length (List.flatMap encS (L.getD kb.toNat default).F)) (L.getD kb.toNat default).F (L.getD kb.toNat default).t IsS.sl hf24]).length) 2)) (hp':=[.gone,.gone,.cells (pc (List.flatMap encS (L.getD kb.toNat default).F)) true,.cells [.p (.sl ((L.getD kb.toNat default).F.length) (List.flatMap encS (L.getD kb.toNat default).F)),.p (.vl (.string ((L.getD kb.toNat default).t)))] false,.cells (pc (List.flatMap encD (M++[Dp.mk (PV.sl (L.getD kb.toNat default).F.length (List.flatMap encS (L.getD kb.toNat default).F)) (L.getD kb.toNat default).F (L.getD kb.toNat default).t IsS.sl hf24]))) false]) (o:=opO (opsAt (Bd Tryz.f62) [1,1,0,1,0,0,1,0,0,1,1,1,0]) 15) (by kernel_rfl) (by kernel_rfl) (by kernel_rfl) (Eq.trans (by kernel_rfl) (show builtinA Tryz.prog TT .append #[43,43] 43 [(o (.lsl 0 0 M.length 2)),(o (.lsl 3 0 1 2))] [.cells (pc (List.flatMap encD M)) false,.gone,.cells (pc (List.flatMap encS (L.getD kb.toNat default).F)) true,.cells [.p (.sl ((L.getD kb.toNat default).F.length) (List.flatMap encS (L.getD kb.toNat default).F)),.p (.vl (.string ((L.getD kb.toNat default).t)))] false]=_ from append_L1 (e:=103) (enc:=encD) (L:=M) (by':=40) (a:=(Dp.mk (PV.sl (L.getD kb.toNat default).F.length (List.flatMap encS (L.getD kb.toNat default).F)) (L.getD kb.toNat default).F (L.getD kb.toNat default).3 IsS.sl hf24)) (i:=Tryz.t103) (zero:=(List.map (fun v=>LV.p (PV.vl v)) (Value.agg #[Value.slice none 0 0,Value.string (ByteArray.mk #[])]).cells.toList)) (new:=([LV.p (PV.sl (L.getD kb.toNat default).F.length (List.flatMap encS (L.getD kb.toNat default).F)),LV.p (PV.vl (Value.string (L.getD kb.toNat default).t))])) (fz:=false) (by kernel_rfl) (by kernel_rfl) (by kernel_rfl) (by kernel_rfl) (by kernel_rfl) (by kernel_rfl) (by kernel_rfl) (by kernel_rfl) (by rfl) (by exact fun _=>rfl) (by kernel_rfl) (by decide) (by omega) (by omega))) ?_;refine DU.adv 1 (l':=[]) (st':=⟨regsOf 52 [(0,o (.p x)),(3,o (.lsl 4 0 ((M++[Dp.mk (PV.sl (L.getD kb.toNat default).F.length (List.flatMap encS (L.getD kb.toNat default).F)) (L.getD kb.toNat default).F (L.getD kb.toNat default).t IsS.sl hf24]).length) 2)),(4,o (i kb)),(35,o (.lsl 0 0 M.length 2)),(36,o (.lsl 1 0 0 1)),(37,o (.p x)),(38,o (i kb)),(39,o (.pref (List.flatMap encD L) (kb.toNat*2))),(40,o (.pref (List.flatMap encD L) (kb.toNat*2))),(41,o (.p ((L.getD kb.toNat default).x))),(42,o (.p (.sl ((L.getD kb.toNat default).F.length) (List.flatMap encS (L.getD kb.toNat default).F)))),(43,o (.p x)),(44,o (i kb)),(45,o (.pref (List.flatMap encD L) (kb.toNat*2))),(46,o (.pref (List.flatMap encD L) (kb.toNat*2+1))),(47,o (.p (.vl (.string ((L.getD kb.toNat default).t))))),(48,a [.p (.sl ((L.getD kb.toNat default).F.length) (List.flatMap encS (L.getD kb.toNat default).F)),.p (.vl (.string ((L.getD kb.toNat default).t)))]),(49,o (.lsl 3 0 1 2)),(50,o (.lsl 4 0 ((M++[Dp.mk (PV.sl (L.getD kb.toNat default).F.length (List.flatMap encS (L.getD kb.toNat default).F)) (L.getD kb.toNat default).F (L.getD kb.toNat default).t IsS.sl hf24]).length) 2))] J,[.gone,.gone,.cells (pc (List.flatMap encS (L.getD kb.toNat default).F)) true,.cells [.p (.sl ((L.getD kb.toNat default).F.length) (List.flatMap encS (L.getD kb.toNat default).F)),.p (.vl (.string ((L.getD kb.toNat default).t)))] false,.cells (pc (List.flatMap encD (M++[Dp.mk (PV.sl (L.getD kb.toNat default).F.length (List.flatMap encS (L.getD kb.toNat default).F)) (L.getD kb.toNat default).F (L.getD kb.toNat default).t IsS.sl hf24]))) false]⟩) (by kernel_rfl) ?_;refine DU.done ?_;refine yX ?_;have hD1:IsS encS (L.getD kb.toNat default).F (.sl (L.getD kb.toNat default).F.length ((L.getD kb.toNat default).F.flatMap encS)):=by exact .sl
   have hD2:(L.getD kb.toNat default).F.length≤100:=by exact (L.getD kb.toNat default).hw
   exact yJ 7 4 (kb+1)<| yK 0 [4] (ih5 (.inr ((kb+1),(M++[Dp.mk (PV.sl (L.getD kb.toNat default).F.length (List.flatMap encS (L.getD kb.toNat default).F)) (L.getD kb.toNat default).F (L.getD kb.toNat default).t IsS.sl hf24]))) (by exact ⟨by omega,by omega,by (simp;omega),by simp⟩) (by ((try dsimp only);omega))) (hh:=(mo (renAt_pc (by kernel_rfl)) (mo_nil)))
  have hD1:IsS encS (L.getD kb.toNat default).F (.sl (L.getD kb.toNat default).F.length ((L.getD kb.toNat default).F.flatMap encS)):=by exact .sl
  have hD2:(L.getD kb.toNat default).F.length≤100:=by exact (L.getD kb.toNat default).hw
  exact yJ 16 4 (kb+1)<| yK 0 [0] (ih5 (.inr ((kb+1),M)) (by ((try dsimp only);omega)) (by ((try dsimp only);omega))) (hh:=(mo (renAt_pc (by kernel_rfl)) (mo_nil)))
 exact yFF 7 (o (.lsl 0 0 M.length 2)) (r':=o (.p (.sl M.length (List.flatMap encD M)))) (ts:=[0]) (fzR_one (fzL_pc (fz:=false) (by kernel_rfl) (by exact flat_len (z:=2) (fun _=>rfl) _)))<| ⟨_,_,rfl,.sl,by omega⟩
theorem c263 (c:Int) (h:0≤c) (h':c<256):ValC Tryz.prog GG 263 [.v (.one (.p (.vl (.int .u8 c))))] (fun r=>∃v:Int,r=o (i v)∧0≤v∧v≤6∧v≠4∧(0<v↔32≤c∧c≤126)):=by
 refine vX (fn:=Tryz.f263)<| yB 11 6 (c<32) (fun _=> ?_) fun _=> ?_
 ·exact yF 10 (o (i 0))<| ⟨_,rfl,by omega,by omega,by omega,by omega⟩
 refine yB 5 3 (c>126) (fun _=> ?_) fun _=> ?_
 ·exact yF 5 (o (i 0))<| ⟨_,rfl,by omega,by omega,by omega,by omega⟩
 refine yB 6 13 (c≥48) (fun _=> ?_) fun _=> ?_
 ·refine yB 5 10 (c≤57) (fun _=> ?_) fun _=> ?_
  ·exact yF 5 (o (i 1))<| ⟨_,rfl,by omega,by omega,by omega,by omega⟩
  refine yB 6 20 (c≥65) (fun _=> ?_) fun _=> ?_
  ·refine yB 5 17 (c≤90) (fun _=> ?_) fun _=> ?_
   ·exact yF 5 (o (i 2))<| ⟨_,rfl,by omega,by omega,by omega,by omega⟩
   refine yB 6 27 (c≥97) (fun _=> ?_) fun _=> ?_
   ·refine yB 5 24 (c≤122) (fun _=> ?_) fun _=> ?_
    ·exact yF 5 (o (i 3))<| ⟨_,rfl,by omega,by omega,by omega,by omega⟩
    have:¬(c=32):=by omega
    exact yu 7 31 c 32<| yF 7 (o (i 6))<| ⟨_,rfl,by omega,by omega,by omega,by omega⟩
   have:¬(c=32):=by omega
   exact yu 12 31 c 32<| yF 7 (o (i 6))<| ⟨_,rfl,by omega,by omega,by omega,by omega⟩
  refine yn 11 27 (c≥97) ?_;have:¬(c=32):=by omega
  exact yu 12 31 c 32<| yF 7 (o (i 6))<| ⟨_,rfl,by omega,by omega,by omega,by omega⟩
 refine yn 11 20 (c≥65)<| yn 11 27 (c≥97)<| yBe 12 31 c 32 (fun _=> ?_) fun _=> ?_
 ·exact yF 5 (o (i 5))<| ⟨_,rfl,by omega,by omega,by omega,by omega⟩
 exact yF 7 (o (i 6))<| ⟨_,rfl,by omega,by omega,by omega,by omega⟩
theorem c487 (x:Int):ValC Tryz.prog GG 487 [o (i x),o (i 7)] (fun r=>r=o (b true)):=by
 refine vX (fn:=Tryz.f487)<| yBe 10 8 x 7 (fun _=> ?_) fun _=> ?_
 ·refine yF 17 (o (b true)) ?_;rfl
 refine yF 17 (o (b true)) ?_;rfl
theorem c379 (c:Int) (h:0≤c) (h':c<256):ValC Tryz.prog GG 379 [.v (.one (.p (.vl (.int .u8 c)))),o (i 7)] (fun r=>∃v:Bool,r=o (b v)∧(v=true↔32≤c∧c≤126)):=by
 refine vX (fn:=Tryz.f379)<| yC 7 (c263 c (by omega) (by omega)) ?_
 rintro _ ⟨v0,rfl,_,_,_,_⟩;refine yB 7 10 (v0>0) (fun _=> ?_) fun _=> ?_
 ·exact yV 2 (c487 v0)<| yF 3 (o (b true))<| ⟨_,rfl,by simp;omega⟩
 exact yF 6 (o (b false))<| ⟨_,rfl,by simp;omega⟩
theorem c262 (s:ByteArray) (h:(s.size:Int)<4611686018427387904):ValC Tryz.prog GG 262 [o (.p (.vl (.string s))),o (i 7)] (fun r=>∃v:Bool,r=o (b v)∧(v=true↔∀j:Int,0≤j→j<s.size→32≤byteAt s j∧byteAt s j≤126)):=by
 refine vX (fn:=Tryz.f262)<| yP 11 [] 18 (pT Tryz.f262 [1,0,1,0,0]) (α:=(Int)) (fun k=>0≤k∧k≤s.size∧(∀j:Int,0≤j→j<k→32≤byteAt s j∧byteAt s j≤126)) (fun k=>(s.size - k).toNat) (fun k=>([(0,o (.p (.vl (.string s)))),(1,o (i 7)),(5,o (i k))],[])) 0 (by (try dsimp only);exact ⟨by omega,by omega,by omega⟩) ?_
 rintro k hI ih4 J
 try dsimp only at hI ih4 ⊢
 obtain ⟨_,_,hq2⟩:=hI;refine yB 8 9 (k<(↑s.size:Int)) (fun _=> ?_) fun _=> ?_
 ·refine yY 8 s k ?_;have:=byteAt_bounds s k;refine yC 1 (c379 (byteAt s k) (by omega) (by omega)) ?_;rintro _ ⟨v5,rfl,_⟩;cases hb7:v5
  ·exact yF 7 (o (b false))<| ⟨_,rfl,by simp;exact ⟨k,by omega,by omega,by simp_all⟩⟩
  exact yJ 11 5 (k+1)<| yK 0 [] (ih4 (k+1) (by (refine ⟨by omega,by omega,fun j h1 h2=> ?_⟩;(rcases Int.lt_or_eq_of_le (Int.le_of_lt_add_one h2) with h3 | h3;(exact hq2 j h1 h3);(subst h3;simp_all)))) (by (try dsimp only);omega))
 exact yF 6 (o (b true))<| ⟨_,rfl,by simp;intro j h1 h2;exact hq2 j h1 (by omega)⟩
theorem c124 (s:ByteArray) (h:(s.size:Int)<4611686018427387904):ValC Tryz.prog GG 124 [o (.p (.vl (.string s)))] (fun r=>∃v:Bool,r=o (b v)∧(v=true↔(s.size:Int)≤200∧∀j:Int,0≤j→j<s.size→32≤byteAt s j∧byteAt s j≤126)):=by
 refine vX (fn:=Tryz.f124)<| yB 10 6 ((↑s.size:Int)≤200) (fun _=> ?_) fun _=> ?_
 ·refine yC 1 (c262 s (by omega)) ?_;rintro _ ⟨v1,rfl,_⟩;exact yF 3 (o (b v1))<| ⟨_,rfl,by (simp_all;done)⟩
 exact yF 5 (o (b false))<| ⟨_,rfl,by (simp_all;omega)⟩
theorem c263_1 (c:Int) (h:0≤c) (h':c<256):ValC Tryz.prog GG 263 [.v (.one (.p (.vl (.int .u8 c))))] (fun r=>∃v:Int,r=o (i v)∧v=(clsI c:Int)):=by
 refine vX (fn:=Tryz.f263)<| yB 11 6 (c<32) (fun _=> ?_) fun _=> ?_
 ·exact yF 10 (o (i 0))<| ⟨_,rfl,by unfold clsI;(repeat' split)<;>omega⟩
 refine yB 5 3 (c>126) (fun _=> ?_) fun _=> ?_
 ·exact yF 5 (o (i 0))<| ⟨_,rfl,by unfold clsI;(repeat' split)<;>omega⟩
 refine yB 6 13 (c≥48) (fun _=> ?_) fun _=> ?_
 ·refine yB 5 10 (c≤57) (fun _=> ?_) fun _=> ?_
  ·exact yF 5 (o (i 1))<| ⟨_,rfl,by unfold clsI;(repeat' split)<;>omega⟩
  refine yB 6 20 (c≥65) (fun _=> ?_) fun _=> ?_
  ·refine yB 5 17 (c≤90) (fun _=> ?_) fun _=> ?_
   ·exact yF 5 (o (i 2))<| ⟨_,rfl,by unfold clsI;(repeat' split)<;>omega⟩
   refine yB 6 27 (c≥97) (fun _=> ?_) fun _=> ?_
   ·refine yB 5 24 (c≤122) (fun _=> ?_) fun _=> ?_
    ·exact yF 5 (o (i 3))<| ⟨_,rfl,by unfold clsI;(repeat' split)<;>omega⟩
    have:¬(c=32):=by omega
    exact yu 7 31 c 32<| yF 7 (o (i 6))<| ⟨_,rfl,by unfold clsI;(repeat' split)<;>omega⟩
   have:¬(c=32):=by omega
   exact yu 12 31 c 32<| yF 7 (o (i 6))<| ⟨_,rfl,by unfold clsI;(repeat' split)<;>omega⟩
  refine yn 11 27 (c≥97) ?_;have:¬(c=32):=by omega
  exact yu 12 31 c 32<| yF 7 (o (i 6))<| ⟨_,rfl,by unfold clsI;(repeat' split)<;>omega⟩
 refine yn 11 20 (c≥65)<| yn 11 27 (c≥97) ?_
 by_cases hb14:(c=32)
 ·exact ye 12 31 c 32<| yF 5 (o (i 5))<| ⟨_,rfl,by unfold clsI;(repeat' split)<;>omega⟩
 exact yu 12 31 c 32<| yF 7 (o (i 6))<| ⟨_,rfl,by unfold clsI;(repeat' split)<;>omega⟩
theorem c235 (c:Int) (h:0≤c) (h':c<256):ValC Tryz.prog GG 235 [.v (.one (.p (.vl (.int .u8 c))))] (fun r=>∃v:Int,r=o (i v)∧v=(clsI c:Int)):=by
 refine vX (fn:=Tryz.f235)<| yB 11 6 (c<32) (fun _=> ?_) fun _=> ?_
 ·exact yF 10 (o (i 0))<| ⟨_,rfl,by unfold clsI;(repeat' split)<;>omega⟩
 refine yB 5 3 (c>126) (fun _=> ?_) fun _=> ?_
 ·exact yF 5 (o (i 0))<| ⟨_,rfl,by unfold clsI;(repeat' split)<;>omega⟩
 refine yB 6 13 (c≥48) (fun _=> ?_) fun _=> ?_
 ·refine yB 5 10 (c≤57) (fun _=> ?_) fun _=> ?_
  ·exact yF 5 (o (i 1))<| ⟨_,rfl,by unfold clsI;(repeat' split)<;>omega⟩
  refine yB 6 20 (c≥65) (fun _=> ?_) fun _=> ?_
  ·refine yB 5 17 (c≤90) (fun _=> ?_) fun _=> ?_
   ·exact yF 5 (o (i 2))<| ⟨_,rfl,by unfold clsI;(repeat' split)<;>omega⟩
   refine yB 6 27 (c≥97) (fun _=> ?_) fun _=> ?_
   ·refine yB 5 24 (c≤122) (fun _=> ?_) fun _=> ?_
    ·exact yF 5 (o (i 3))<| ⟨_,rfl,by unfold clsI;(repeat' split)<;>omega⟩
    have:¬(c=32):=by omega
    exact yu 7 31 c 32<| yF 7 (o (i 6))<| ⟨_,rfl,by unfold clsI;(repeat' split)<;>omega⟩
   have:¬(c=32):=by omega
   exact yu 12 31 c 32<| yF 7 (o (i 6))<| ⟨_,rfl,by unfold clsI;(repeat' split)<;>omega⟩
  refine yn 11 27 (c≥97) ?_;have:¬(c=32):=by omega
  exact yu 12 31 c 32<| yF 7 (o (i 6))<| ⟨_,rfl,by unfold clsI;(repeat' split)<;>omega⟩
 refine yn 11 20 (c≥65)<| yn 11 27 (c≥97) ?_
 by_cases hb14:(c=32)
 ·exact ye 12 31 c 32<| yF 5 (o (i 5))<| ⟨_,rfl,by unfold clsI;(repeat' split)<;>omega⟩
 exact yu 12 31 c 32<| yF 7 (o (i 6))<| ⟨_,rfl,by unfold clsI;(repeat' split)<;>omega⟩
theorem c125_0 (s:ByteArray) (h:(s.size:Int)<4611686018427387904):ValC Tryz.prog GG 125 [o (.p (.vl (.string s)))] (fun r=>∃v:Int,r=o (i v)∧v=(bitsN s:Int)):=by
 refine vX (fn:=Tryz.f125)<| yP 15 [] 19 (pT Tryz.f125 [1,1,0,1,0,0]) (α:=(Int×Int)) (fun (k,acc)=>0≤k∧k≤s.size∧acc=(bU s k.toNat:Int)) (fun (k,acc)=>(s.size - k).toNat) (fun (k,acc)=>([(0,o (.p (.vl (.string s)))),(3,o (i acc)),(4,o (i k))],[])) (0,0) (by exact ⟨by omega,by omega,rfl⟩) ?_
 rintro ⟨k,acc⟩ hI ih5 J
 try dsimp only at hI ih5 ⊢
 obtain ⟨_,_,_⟩:=hI;refine yB 8 8 (k<(↑s.size:Int)) (fun _=> ?_) fun _=> ?_
 ·refine yY 8 s k ?_;have:=byteAt_bounds s k;refine yC 0 (c263_1 (byteAt s k) (by omega) (by omega)) ?_;rintro _ ⟨v5,rfl,_⟩;exact yO 0 (binA Tryz.prog TT .shl 3 (Operand.const (Value.int IntKind.i64 1)) (.tmp 15) (o (i 1)) (o (i v5))) (binA_shl (by omega))<| yJ 10 4 (k+1)<| yK 0 [] (ih5 ((k+1),(IntKind.i64.wrap (↑(BitVec.ofInt IntKind.i64.bits acc ||| BitVec.ofInt IntKind.i64.bits (IntKind.i64.wrap (1*2^min v5.toNat 64))).toNat:Int))) (by exact ⟨by omega,by omega,bits_next (by assumption) (by omega) (by assumption)⟩) (by (dsimp only;omega)))
 exact yF 7 (o (i acc))<| ⟨_,rfl,bits_end (by assumption) (by omega) (by omega)⟩
theorem c130_0 (n le mo cl:Int) (be en s:ByteArray) (hs:ShW le mo cl be en s) (hn:n=s.size) (h1:(be.size:Int)≤n) (h2:(en.size:Int)≤n) (h3:n≤200):ValC Tryz.prog GG 130 [a [i le,i mo,i cl,.p (.vl (.string be)),.p (.vl (.string en))],o (i n)] (fun r=>∃t:ByteArray,r= .tup [.one (sv t),.one (b true)]∧ShW le mo cl be en t):=by
 refine vX (fn:=Tryz.f130)<| yn 15 15 (n<(↑be.size:Int))<| yn 7 21 (n<(↑en.size:Int))<| yP 13 [0] 76 (pT Tryz.f130 [1,1,1,0,1,0,0]) (α:=(ByteArray×Int)) (fun (fill,c)=>31≤c∧c≤126∧FillOk cl fill c) (fun (fill,c)=>(c - 31).toNat) (fun (fill,c)=>([(1,o (i n)),(2,o (.ref 0 0)),(6,o (.p (.vl (.string fill)))),(7,o (i c))],[.cells [i le,i mo,i cl,.p (.vl (.string be)),.p (.vl (.string en))] false])) ((ByteArray.mk (List.map UInt8.ofNat [32]).toArray),126) (by exact ⟨by omega,by omega,fill_first _⟩) ?_
 rintro ⟨fill,c⟩ hI ih6 J
 try dsimp only at hI ih6 ⊢
 obtain ⟨_,_,_⟩:=hI;refine yB 6 23 (c≥32) (fun _=> ?_) fun _=> ?_
 ·refine yD 5 [] [] (List.range 8)<| yE 4 29 (wrap_u8 (n:=c) (by omega) (by omega)) (fun z=>o (.p (.vl (.int .u8 z))))<| yC 0 (c263_1 c (by omega) (by omega)) ?_
  rintro _ ⟨v6,rfl,_⟩;refine yO 0 (binA Tryz.prog TT .shl 3 (Operand.const (Value.int IntKind.i64 1)) (.tmp 30) (o (i 1)) (o (i v6))) (binA_shl (by omega)) ?_
  by_cases hb8:(IntKind.i64.wrap (↑(BitVec.ofInt IntKind.i64.bits cl &&& BitVec.ofInt IntKind.i64.bits (IntKind.i64.wrap (1*2^min v6.toNat 64))).toNat:Int)≠0)
  ·exact yE 3 33 ((bne_iff_ne.2 hb8:(IntKind.i64.wrap (↑(BitVec.ofInt IntKind.i64.bits cl &&& BitVec.ofInt IntKind.i64.bits (IntKind.i64.wrap (1*2^min v6.toNat 64))).toNat:Int) !=0)=true)) ob<| yE 15 6 (wrap_u8 (n:=c) (by omega) (by omega)) (fun z=>o (.p (.vl (.string (ByteArray.mk #[UInt8.ofNat z.toNat])))))<| yJ 0 7 (c - 1)<| yK 0 [0] (ih6 ((ByteArray.mk #[UInt8.ofNat c.toNat]),(c - 1)) (by exact ⟨by omega,by omega,fill_take hs.hc0 hs.hc1 (by omega) (by assumption) (by assumption)⟩) (by (dsimp only;omega)))
  exact yE 3 33 ((bne_eq_false_iff_eq.2 (Decidable.not_not.1 hb8):(IntKind.i64.wrap (↑(BitVec.ofInt IntKind.i64.bits cl &&& BitVec.ofInt IntKind.i64.bits (IntKind.i64.wrap (1*2^min v6.toNat 64))).toNat:Int) !=0)=false)) ob<| yJ 9 7 (c - 1)<| yK 0 [0] (ih6 (fill,(c - 1)) (by exact ⟨by omega,by omega,fill_skip hs.hc0 hs.hc1 (by assumption) (by assumption) (by assumption)⟩) (by (dsimp only;omega)))
 have hfs:fill.size=1:=by exact fill_size (by assumption)
 refine yP 11 [0] 76 (pT Tryz.f130 [1,1,1,1,1,0,0,0]) (α:=(ByteArray)) (fun cur=>(cur.size:Int)≤400∧be.size≤cur.size∧CurP be fill cur∧((cur.size:Int)=be.size∨(cur.size:Int)+en.size≤n)) (fun cur=>(n - cur.size).toNat) (fun cur=>([(1,o (i n)),(2,o (.ref 0 0)),(6,o (.p (.vl (.string fill)))),(8,o (.p (.vl (.string cur))))],[.cells [i le,i mo,i cl,.p (.vl (.string be)),.p (.vl (.string en))] false])) be (by exact ⟨by omega,by omega,cur_first _ _,.inl rfl⟩) ?_;rintro cur hI ih7 J
 try dsimp only at hI ih7 ⊢
 obtain ⟨_,_,_,_⟩:=hI;refine yE 12 47 (yw ((↑cur.size:Int)+(↑en.size:Int))) (fun z=>o (b (decide (z<n))))<| yB 0 47 ((↑cur.size:Int)+(↑en.size:Int)<n) (fun _=> ?_) fun _=> ?_
 ·exact yO 6 (binA Tryz.prog TT .add 9 (.tmp 48) (.tmp 49) (o (.p (.vl (.string cur)))) (o (.p (.vl (.string fill))))) (rule_addStr (by omega))<| yK 4 [0] (ih7 (cur++fill) (by exact ⟨by rw [size_app];omega,by rw [size_app];omega,cur_next (by assumption) hfs (by omega),by rw [size_app];omega⟩) (by ((try dsimp only);rw [size_app];omega)))
 refine yE 16 9 (yw ((↑cur.size:Int)+(↑en.size:Int))) (fun z=>o (i (IntKind.i64.wrap (z - n))))<| yJ 0 9 ((↑cur.size:Int)+(↑en.size:Int) - n)<| yD 0 [] [] (List.range 11)<| yJ 5 63 ((↑cur.size:Int) - ((↑cur.size:Int)+(↑en.size:Int) - n))<| yO 0 (sliceQ Tryz.prog TT 9 (o (.p (.vl (.string cur)))) (some (o (i ((↑cur.size:Int) - ((↑cur.size:Int)+(↑en.size:Int) - n))))) none none) (rule_sliceLo (by kernel_rfl) (by omega) (by omega))<| yO 3 (sliceQ Tryz.prog TT 9 (o (.p (.vl (.string en)))) none (some (o (i ((↑cur.size:Int)+(↑en.size:Int) - n)))) none) (rule_sliceHi (by kernel_rfl) (by omega) (by omega)) ?_
 rcases bt2 ((cutB cur ((↑cur.size:Int) - ((↑cur.size:Int)+(↑en.size:Int) - n)) (↑cur.size:Int)).toList==(cutB en 0 ((↑cur.size:Int)+(↑en.size:Int) - n)).toList) with hb14 | hb14
 ·exact yE 2 69 hb14 onb<| yF 6 (.tup [.one (.p (.vl (vs []))),.one (b false)])<| (str_ne (cut_same (cur:=cur) (fill:=fill) hs hn (by assumption) (by assumption) (by assumption) (by assumption)) (by assumption)).elim
 exact yE 2 69 hb14 onb<| yO 8 (sliceQ Tryz.prog TT 9 (o (.p (.vl (.string en)))) (some (o (i ((↑cur.size:Int)+(↑en.size:Int) - n)))) none none) (rule_sliceLo (by kernel_rfl) (by omega) (by omega))<| yO 0 (binA Tryz.prog TT .add 9 (.tmp 70) (.tmp 74) (o (.p (.vl (.string cur)))) (o (.p (.vl (.string (cutB en ((↑cur.size:Int)+(↑en.size:Int) - n) (↑en.size:Int))))))) (rule_addStr (by have:=(show (0≤(↑(cutB en ((↑cur.size:Int)+(↑en.size:Int) - n) (↑en.size:Int)).size:Int)∧(↑(cutB en ((↑cur.size:Int)+(↑en.size:Int) - n) (↑en.size:Int)).size:Int)≤(↑en.size:Int)) from fact_cutB en ((↑cur.size:Int)+(↑en.size:Int) - n) ((↑en.size:Int)));omega))<| yF 3 (.tup [.one (.p (.vl (.string (cur++cutB en ((↑cur.size:Int)+(↑en.size:Int) - n) (↑en.size:Int))))),.one (b true)])<| ⟨_,rfl,some_ok hs hn (by assumption) (by assumption) (by assumption) (by assumption) (by assumption) (by assumption)⟩
theorem c124_0 (s:ByteArray) (h:TextOk s):ValC Tryz.prog GG 124 [o (sv s)] (fun r=>r=o (b true)):=(c124 s (by have:=h.1;omega)).mono (by rintro r ⟨v,rfl,hv⟩;rw [hv.2 h])
theorem c131_w (le mo cl:Int) (be en s:ByteArray) (hs:ShW le mo cl be en s) (h0:le=s.size) (h1:(be.size:Int)≤s.size) (h2:(en.size:Int)≤s.size) (h3:(s.size:Int)≤200) (h4:le≤mo) (h5:TextOk s):ValC Tryz.prog GG 131 [a [i le,i mo,i cl,.p (.vl (.string be)),.p (.vl (.string en))],o (sv s)] (fun r=>r=o (b true)):=by
 refine vX (fn:=Tryz.f131)<| yV 9 (c124_0 s (by omega))<| yn 9 15 ((↑s.size:Int)<le)<| yn 7 22 ((↑s.size:Int)>mo)<| yn 8 30 ((↑s.size:Int)<(↑be.size:Int))<| yn 8 37 ((↑s.size:Int)<(↑en.size:Int))<| yD 3 [] [] [0,2,3,5,1,4,6,7,8,9,10,11,12,13,14,15,16,17,18,19,20,21,22,23,24,25,26,27,28,29,30,31]<| yC 4 (c125_0 s (by omega)) ?_
 rintro _ ⟨v4,rfl,_⟩;refine yC 1 (c125_0 s (by omega)) ?_;rintro _ ⟨v6,rfl,_⟩
 by_cases hb8:(IntKind.i64.wrap (↑(BitVec.ofInt IntKind.i64.bits v4 &&& BitVec.ofInt IntKind.i64.bits cl).toNat:Int)=v6)
 ·refine ye 2 46 (IntKind.i64.wrap (↑(BitVec.ofInt IntKind.i64.bits v4 &&& BitVec.ofInt IntKind.i64.bits cl).toNat:Int)) v6<| yO 4 (sliceQ Tryz.prog TT 9 (o (.p (.vl (.string s)))) none (some (o (i ((↑be.size:Int))))) none) (rule_sliceHi (by kernel_rfl) (by omega) (by omega)) ?_
  rcases bt2 ((cutB s 0 (↑be.size:Int)).toList==be.toList) with hb9 | hb9
  ·exact yE 5 56 hb9 ob<| yF 14 (o (b false))<| (str_ne (cut_pre hs) (by assumption)).elim
  refine yE 5 56 hb9 ob<| yJ 7 63 ((↑s.size:Int) - (↑en.size:Int))<| yO 0 (sliceQ Tryz.prog TT 9 (o (.p (.vl (.string s)))) (some (o (i ((↑s.size:Int) - (↑en.size:Int))))) none none) (rule_sliceLo (by kernel_rfl) (by omega) (by omega))<| yF 6 (o (b ((cutB s ((↑s.size:Int) - (↑en.size:Int)) (↑s.size:Int)).toList==en.toList))) ?_
  (rw [cut_suf hs];simp;done)
 exact yu 2 46 (IntKind.i64.wrap (↑(BitVec.ofInt IntKind.i64.bits v4 &&& BitVec.ofInt IntKind.i64.bits cl).toNat:Int)) v6<| yF 24 (o (b false))<| (bits_and hs (by assumption) (by assumption) (by assumption)).elim
theorem c131_0 (le mo cl:Int) (be en s:ByteArray) (hs:ShW le mo cl be en s):ValC Tryz.prog GG 131 [a [i le,i mo,i cl,.p (.vl (.string be)),.p (.vl (.string en))],o (sv s)] (fun r=>r=o (b true)):=c131_w le mo cl be en s hs hs.hle (by have:=hs.hb;omega) (by have:=hs.he;omega) hs.t.1 hs.hmo hs.t
theorem c54_w (le mo cl:Int) (be en s:ByteArray) (hs:ShW le mo cl be en s) (h0:le=s.size) (h1:(be.size:Int)≤s.size) (h2:(en.size:Int)≤s.size) (h3:(s.size:Int)≤200) (h4:le≤mo) (h5:TextOk s):ValC Tryz.prog GG 54 [a [i le,i mo,i cl,.p (.vl (.string be)),.p (.vl (.string en))]] (fun r=>r=o (b false)):=by
 refine vX (fn:=Tryz.f54)<| yE 29 3 (show (if 0>le then 0 else le)=le from if_neg (by omega)) oi<| yE 0 4 (show (if 0>le then 0 else le)=le from if_neg (by omega)) oi<| yE 0 16 (show (if 0>le then 0 else le)=le from if_neg (by omega)) (fun z=>o (b (decide (z≤if 200<mo then 200 else mo))))<| yp 0 16 (le≤if 200<mo then 200 else mo)<| yE 14 29 (yw ((↑be.size:Int)+(↑en.size:Int))) (fun z=>o (b (decide (le≤if IntKind.i64.wrap (z+1)>le then IntKind.i64.wrap (z+1) else le))))<| yE 0 29 (yw ((↑be.size:Int)+(↑en.size:Int)+1)) (fun z=>o (b (decide (le≤if z>le then z else le))))<| yp 0 29 (le≤if (↑be.size:Int)+(↑en.size:Int)+1>le then (↑be.size:Int)+(↑en.size:Int)+1 else le)<| yC 8 (c130_0 le _ _ _ _ _ _ hs (by omega) (by omega) (by omega) (by omega)) ?_
 rintro _ ⟨t2,rfl,_⟩;refine yV 12 (c131_0 le mo cl be en t2 (by omega))<| yF 7 (o (b false)) ?_
 first | rfl
theorem c54_1 (le mo cl:Int) (be en s:ByteArray) (hs:ShW le mo cl be en s):ValC Tryz.prog GG 54 [a [i le,i mo,i cl,.p (.vl (.string be)),.p (.vl (.string en))]] (fun r=>r=o (b false)):=c54_w le mo cl be en s hs hs.hle (by have:=hs.hb;omega) (by have:=hs.he;omega) hs.t.1 hs.hmo hs.t
theorem c133 (le mo cl:Int) (be en:ByteArray):ValC Tryz.prog GG 133 [a [i le,i mo,i cl,.p (.vl (.string be)),.p (.vl (.string en))]] (fun r=>r=o (i (min mo 200))):=by
 refine vX (fn:=Tryz.f133)<| yF 12 (o (i (if 200<mo then 200 else mo)))<| congrArg (fun z=>o (i z)) ?_;omega
theorem c132 (le mo cl:Int) (be en:ByteArray):ValC Tryz.prog GG 132 [a [i le,i mo,i cl,.p (.vl (.string be)),.p (.vl (.string en))]] (fun r=>r=o (i (max (max 0 le) (max be.size en.size)))):=by
 refine vX (fn:=Tryz.f132)<| yF 20 (o (i (if (if (↑en.size:Int)>(↑be.size:Int) then (↑en.size:Int) else (↑be.size:Int))>if le>0 then le else 0 then if (↑en.size:Int)>(↑be.size:Int) then (↑en.size:Int) else (↑be.size:Int) else if le>0 then le else 0)))<| congrArg (fun z=>o (i z)) ?_;omega
theorem c134 (x y:ByteArray) (hx:(x.size:Int)≤1000) (hy:(y.size:Int)≤1000):ValC Tryz.prog GG 134 [o (sv x),o (sv y)] (fun r=>∃n:Int,r=o (sv (cutB x 0 n))∧0≤n∧n≤x.size∧n≤y.size∧(∀j:Int,0≤j→j<n→byteAt x j=byteAt y j)):=by
 refine vX (fn:=Tryz.f134)<| yP 11 [] 30 (pT Tryz.f134 [1,1,0,0,0]) (α:=(Int)) (fun k=>0≤k∧k≤x.size∧k≤y.size∧(∀j:Int,0≤j→j<k→byteAt x j=byteAt y j)) (fun k=>(x.size - k).toNat) (fun k=>([(0,o (.p (.vl (.string x)))),(1,o (.p (.vl (.string y)))),(5,o (i k))],[])) 0 (by exact ⟨by omega,by omega,by omega,by omega⟩) ?_
 rintro k hI ih4 J
 try dsimp only at hI ih4 ⊢
 obtain ⟨_,_,_,hq3⟩:=hI;refine yD 2 [] [] (List.range 19)<| yB 5 10 (k<(↑x.size:Int)) (fun _=> ?_) fun _=> ?_
 ·refine yB 6 16 (k<(↑y.size:Int)) (fun _=> ?_) fun _=> ?_
  ·refine yY 2 x k ?_;have:=byteAt_bounds x k;refine yY 2 y k ?_;have:=byteAt_bounds y k;refine yBe 3 24 (byteAt x k) (byteAt y k) (fun _=> ?_) fun _=> ?_
   ·exact yJ 10 5 (k+1)<| yK 0 [] (ih4 (k+1) (by (refine ⟨by omega,by omega,by omega,fun j h1 h2=> ?_⟩;rcases Int.lt_or_eq_of_le (Int.le_of_lt_add_one h2) with h3 | h3;(exact hq3 j h1 h3);(subst h3;omega))) (by (try dsimp only);omega))
   exact yO 6 (sliceQ Tryz.prog TT 9 (o (.p (.vl (.string x)))) none (some (o (i k))) none) (rule_sliceHi (by kernel_rfl) (by omega) (by omega))<| yF 2 (o (.p (.vl (.string (cutB x 0 k)))))<| ⟨_,rfl,by omega,by omega,by omega,by assumption⟩
  exact yO 15 (sliceQ Tryz.prog TT 9 (o (.p (.vl (.string x)))) none (some (o (i k))) none) (rule_sliceHi (by kernel_rfl) (by omega) (by omega))<| yF 2 (o (.p (.vl (.string (cutB x 0 k)))))<| ⟨_,rfl,by omega,by omega,by omega,by assumption⟩
 exact yO 21 (sliceQ Tryz.prog TT 9 (o (.p (.vl (.string x)))) none (some (o (i k))) none) (rule_sliceHi (by kernel_rfl) (by omega) (by omega))<| yF 2 (o (.p (.vl (.string (cutB x 0 k)))))<| ⟨_,rfl,by omega,by omega,by omega,by assumption⟩
theorem c135 (x y:ByteArray) (hx:(x.size:Int)≤1000) (hy:(y.size:Int)≤1000):ValC Tryz.prog GG 135 [o (sv x),o (sv y)] (fun r=>∃n:Int,r=o (sv (cutB x (x.size - n) x.size))∧0≤n∧n≤x.size∧n≤y.size∧(∀j:Int,0≤j→j<n→byteAt x (x.size - 1 - j)=byteAt y (y.size - 1 - j))):=by
 refine vX (fn:=Tryz.f135)<| yP 11 [] 41 (pT Tryz.f135 [1,1,0,0,0]) (α:=(Int)) (fun k=>0≤k∧k≤x.size∧k≤y.size∧(∀j:Int,0≤j→j<k→byteAt x (x.size - 1 - j)=byteAt y (y.size - 1 - j))) (fun k=>(x.size - k).toNat) (fun k=>([(0,o (.p (.vl (.string x)))),(1,o (.p (.vl (.string y)))),(5,o (i k))],[])) 0 (by exact ⟨by omega,by omega,by omega,by omega⟩) ?_
 rintro k hI ih4 J
 try dsimp only at hI ih4 ⊢
 obtain ⟨_,_,_,hq3⟩:=hI;refine yD 2 [] [] (List.range 27)<| yB 5 10 (k<(↑x.size:Int)) (fun _=> ?_) fun _=> ?_
 ·refine yB 6 16 (k<(↑y.size:Int)) (fun _=> ?_) fun _=> ?_
  ·refine yE 6 22 (yw ((↑x.size:Int) - 1)) (fun z=>o (i (IntKind.i64.wrap (z - k))))<| yJ 0 22 ((↑x.size:Int) - 1 - k)<| yY 0 x ((↑x.size:Int) - 1 - k) ?_
   have:=byteAt_bounds x ((↑x.size:Int) - 1 - k);refine yE 6 29 (yw ((↑y.size:Int) - 1)) (fun z=>o (i (IntKind.i64.wrap (z - k))))<| yJ 0 29 ((↑y.size:Int) - 1 - k)<| yY 0 y ((↑y.size:Int) - 1 - k) ?_
   have:=byteAt_bounds y ((↑y.size:Int) - 1 - k);refine yBe 3 32 (byteAt x ((↑x.size:Int) - 1 - k)) (byteAt y ((↑y.size:Int) - 1 - k)) (fun _=> ?_) fun _=> ?_
   ·exact yJ 10 5 (k+1)<| yK 0 [] (ih4 (k+1) (by (refine ⟨by omega,by omega,by omega,fun j h1 h2=> ?_⟩;rcases Int.lt_or_eq_of_le (Int.le_of_lt_add_one h2) with h3 | h3;(exact hq3 j h1 h3);(subst h3;omega))) (by (try dsimp only);omega))
   exact yJ 9 39 ((↑x.size:Int) - k)<| yO 0 (sliceQ Tryz.prog TT 9 (o (.p (.vl (.string x)))) (some (o (i ((↑x.size:Int) - k)))) none none) (rule_sliceLo (by kernel_rfl) (by omega) (by omega))<| yF 2 (o (.p (.vl (.string (cutB x ((↑x.size:Int) - k) (↑x.size:Int))))))<| ⟨_,rfl,by omega,by omega,by omega,by assumption⟩
  exact yJ 26 39 ((↑x.size:Int) - k)<| yO 0 (sliceQ Tryz.prog TT 9 (o (.p (.vl (.string x)))) (some (o (i ((↑x.size:Int) - k)))) none none) (rule_sliceLo (by kernel_rfl) (by omega) (by omega))<| yF 2 (o (.p (.vl (.string (cutB x ((↑x.size:Int) - k) (↑x.size:Int))))))<| ⟨_,rfl,by omega,by omega,by omega,by assumption⟩
 exact yJ 32 39 ((↑x.size:Int) - k)<| yO 0 (sliceQ Tryz.prog TT 9 (o (.p (.vl (.string x)))) (some (o (i ((↑x.size:Int) - k)))) none none) (rule_sliceLo (by kernel_rfl) (by omega) (by omega))<| yF 2 (o (.p (.vl (.string (cutB x ((↑x.size:Int) - k) (↑x.size:Int))))))<| ⟨_,rfl,by omega,by omega,by omega,by assumption⟩
theorem c56_w (le mo cl:Int) (be en s:ByteArray) (le' mo' cl':Int) (be' en' s':ByteArray) (hs:ShW le mo cl be en s) (hs':ShW le' mo' cl' be' en' s') (h0:le=s.size) (h1:(be.size:Int)≤s.size) (h2:(en.size:Int)≤s.size) (h3:(s.size:Int)≤200) (h4:le≤mo) (h5:mo≤200) (h0':le'=s'.size) (h1':(be'.size:Int)≤s'.size) (h2':(en'.size:Int)≤s'.size) (h3':(s'.size:Int)≤200) (h4':le'≤mo') (h5':mo'≤200):ValC Tryz.prog GG 56 [a [i le,i mo,i cl,.p (.vl (.string be)),.p (.vl (.string en))],a [i le',i mo',i cl',.p (.vl (.string be')),.p (.vl (.string en'))]] (fun r=>∃(l m c:Int) (b e:ByteArray),r=a [i l,i m,i c,sv b,sv e]∧ShP true l m c b e):=by
 refine vX (fn:=Tryz.f56)<| yV 9 (c54_1 _ _ _ _ _ _ hs)<| yV 5 (c54_1 _ _ _ _ _ _ hs')<| yD 28 [] [[],[],[],[],[],[],[],[],[],[],[],[],[],[],[],[],[],[],[],[],[],[],[],[],[],[],[],[2]] [0,2,5,7,10,11,12,13,14,15,16,17,18,19,21,22,23,24,1,3,4,6,8,9,20,25,26,27]<| yV 18 (c132 le mo cl be en)<| yV 0 (c132 le' mo' cl' be' en')<| yV 1 (c133 le mo cl be en)<| yV 0 (c133 le' mo' cl' be' en')<| yC 1 (c134 be be' (by omega) (by omega)) ?_
 rintro _ ⟨n0,rfl,_,_,_,_⟩;refine yC 0 (c135 en en' (by omega) (by omega)) ?_;rintro _ ⟨n5,rfl,_,_,_,_⟩;exact yF 3 (a [i (if max (max 0 le') (max (↑be'.size:Int) (↑en'.size:Int))<max (max 0 le) (max (↑be.size:Int) (↑en.size:Int)) then max (max 0 le') (max (↑be'.size:Int) (↑en'.size:Int)) else max (max 0 le) (max (↑be.size:Int) (↑en.size:Int))),i (if min mo' 200>min mo 200 then min mo' 200 else min mo 200),i (IntKind.i64.wrap (↑(BitVec.ofInt IntKind.i64.bits (IntKind.i64.wrap (↑(BitVec.ofInt IntKind.i64.bits cl ||| BitVec.ofInt IntKind.i64.bits cl').toNat:Int)) &&& BitVec.ofInt IntKind.i64.bits 110).toNat:Int)),.p (.vl (.string (cutB be 0 n0))),.p (.vl (.string (cutB en ((↑en.size:Int) - n5) (↑en.size:Int))))])<| ⟨_,_,_,_,_,rfl,join_ok hs hs' (by split<;>omega) (by split<;>omega) rfl (by assumption) (by assumption) (by assumption) (by assumption) (by assumption) (by assumption) (by assumption) (by assumption)⟩
theorem c56_w1 (le mo cl:Int) (be en s:ByteArray) (hs:ShW le mo cl be en s):ValC Tryz.prog GG 56 [a [i le,i mo,i cl,.p (.vl (.string be)),.p (.vl (.string en))],a [i 1,i 0,i 0,sv ⟨#[]⟩,sv ⟨#[]⟩]] (fun r=>r=a [i le,i mo,i cl,sv be,sv en]):=by
 refine vX (fn:=Tryz.f56)<| yV 9 (c54_1 _ _ _ _ _ _ hs)<| yV 5 (kv (f:=54) (args:=[a [i 1,i 0,i 0,.p (.vl (vs [])),.p (.vl (vs []))]]) (r:=o (b true)) (by kernel_rfl))<| yF 30 (a [i le,i mo,i cl,.p (.vl (.string be)),.p (.vl (.string en))]) ?_
 rfl
theorem c56_w2 (le mo cl:Int) (be en s:ByteArray) (hs:ShW le mo cl be en s):ValC Tryz.prog GG 56 [a [i 1,i 0,i 0,sv ⟨#[]⟩,sv ⟨#[]⟩],a [i le,i mo,i cl,.p (.vl (.string be)),.p (.vl (.string en))]] (fun r=>r=a [i le,i mo,i cl,sv be,sv en]):=by
 refine vX (fn:=Tryz.f56)<| yV 9 (kv (f:=54) (args:=[a [i 1,i 0,i 0,.p (.vl (vs [])),.p (.vl (vs []))]]) (r:=o (b true)) (by kernel_rfl))<| yV 5 (c54_1 _ _ _ _ _ _ hs)<| yF 24 (a [i le,i mo,i cl,.p (.vl (.string be)),.p (.vl (.string en))]) ?_
 rfl
theorem c56 (p q:Bool) (le mo cl:Int) (be en:ByteArray) (le' mo' cl':Int) (be' en':ByteArray) (h:ShP p le mo cl be en) (h':ShP q le' mo' cl' be' en'):ValC Tryz.prog GG 56 [a [i le,i mo,i cl,.p (.vl (.string be)),.p (.vl (.string en))],a [i le',i mo',i cl',.p (.vl (.string be')),.p (.vl (.string en'))]] (fun r=>∃(l m c:Int) (b e:ByteArray),r=a [i l,i m,i c,sv b,sv e]∧ShP (p || q) l m c b e):=by
 cases p<;>cases q
 ·obtain ⟨rfl,rfl,rfl,rfl,rfl⟩:=h;obtain ⟨rfl,rfl,rfl,rfl,rfl⟩:=h';exact (kv (r:=a [i 1,i 0,i 0,sv ⟨#[]⟩,sv ⟨#[]⟩]) (by kernel_rfl)).mono (by rintro r rfl;exact ⟨_,_,_,_,_,rfl,rfl,rfl,rfl,rfl,rfl⟩)
 ·obtain ⟨rfl,rfl,rfl,rfl,rfl⟩:=h;obtain ⟨s,h'⟩:=h';exact (c56_w2 _ _ _ _ _ s h').mono (by rintro r rfl;exact ⟨_,_,_,_,_,rfl,s,h'⟩)
 ·obtain ⟨rfl,rfl,rfl,rfl,rfl⟩:=h';obtain ⟨s,h⟩:=h;exact (c56_w1 _ _ _ _ _ s h).mono (by rintro r rfl;exact ⟨_,_,_,_,_,rfl,s,h⟩)
 obtain ⟨s,h⟩:=h;obtain ⟨s',h'⟩:=h';exact c56_w _ _ _ _ _ s _ _ _ _ _ s' h h' h.hle (by have:=h.hb;omega) (by have:=h.he;omega) h.t.1 h.hmo h.hm2 h'.hle (by have:=h'.hb;omega) (by have:=h'.he;omega) h'.t.1 h'.hmo h'.hm2
theorem c138 (l h:Int):ValC Tryz.prog GG 138 [o (i l),o (i h)] (fun r=>∃l' h':Int,r=a [i l',i h']∧(l≤h→l'=l∧h'=h)∧(h<l→l'=1∧h'=0)):=by
 refine vX (fn:=Tryz.f138)<| yB 11 7 (l>h) (fun _=> ?_) fun _=> ?_
 ·exact yF 6 (a [i 1,i 0])<| ⟨_,_,rfl,by omega,by omega⟩
 exact yF 9 (a [i l,i h])<| ⟨_,_,rfl,by omega,by omega⟩
theorem c59 (l h m n:Int):ValC Tryz.prog GG 59 [a [i l,i h],a [i m,i n]] (fun r=>∃l' h':Int,r=a [i l',i h']∧(l≤h→m≤n→max l m≤min h n→l'=max l m∧h'=min h n)∧((h<l∨n<m∨min h n<max l m)→l'=1∧h'=0)):=by
 refine vX (fn:=Tryz.f59)<| yB 15 10 (l>h) (fun _=> ?_) fun _=> ?_
 ·exact yF 13 (a [i 1,i 0])<| ⟨_,_,rfl,by omega,by omega⟩
 refine yB 7 16 (m>n) (fun _=> ?_) fun _=> ?_
 ·exact yF 6 (a [i 1,i 0])<| ⟨_,_,rfl,by omega,by omega⟩
 refine yC 14 (c138 (if m>l then m else l) (if n<h then n else h)) ?_;rintro _ ⟨l2,h3,rfl,_,_⟩;exact yF 2 (a [i l2,i h3])<| ⟨_,_,rfl,by omega,by omega⟩
theorem c141 (l h m n:Int):ValC Tryz.prog GG 141 [a [i l,i h],a [i m,i n]] (fun r=>∃l' h':Int,r=a [i l',i h']∧(l≤h→m≤n→l'=min l m∧h'=max h n)∧(h<l→m≤n→l'=m∧h'=n)∧(l≤h→n<m→l'=l∧h'=h)∧(h<l→n<m→l'=1∧h'=0)):=by
 refine vX (fn:=Tryz.f141)<| yB 15 9 (l>h) (fun _=> ?_) fun _=> ?_
 ·refine yC 7 (c138 m n) ?_;rintro _ ⟨l1,h2,rfl,_,_⟩;exact yF 2 (a [i l1,i h2])<| ⟨_,_,rfl,by omega,by omega,by omega,by omega⟩
 refine yB 11 19 (m>n) (fun _=> ?_) fun _=> ?_
 ·refine yC 7 (c138 l h) ?_;rintro _ ⟨l6,h7,rfl,_,_⟩;exact yF 2 (a [i l6,i h7])<| ⟨_,_,rfl,by omega,by omega,by omega,by omega⟩
 refine yC 14 (c138 (if m<l then m else l) (if n>h then n else h)) ?_;rintro _ ⟨l10,h11,rfl,_,_⟩;exact yF 2 (a [i l10,i h11])<| ⟨_,_,rfl,by omega,by omega,by omega,by omega⟩
def kndI (p1 p2 p3 p4 p5:Bool):Int:=(if p1 then 2 else 0)+(if p2 then 4 else 0)+(if p3 then 8 else 0)+(if p4 then 16 else 0)+(if p5 then 32 else 0)
def ShIn (p:Bool) (le mo cl:Int) (be en:ByteArray):Prop:=if p then ∃s,ShW le mo cl be en s else (le=0∨le=1)∧mo=0∧cl=0∧be=⟨#[]⟩∧en=⟨#[]⟩
def NmIn (p:Bool) (n s m t:Int):Prop:=if p then NumV n s m t else (n=0∨n=1)∧s=0∧m=0∧t=0
def SpP (p:Bool) (M l h:Int):Prop:=if p then 0≤l∧l≤h∧h≤M else l=1∧h=0
def SpIn (p:Bool) (M l h:Int):Prop:=if p then 0≤l∧l≤h∧h≤M else True
def BoP (p:Bool) (n:Int):Prop:=if p then 1≤n∧n≤3 else n=0
theorem shP_f {p:Bool} (h:p=false):ShP p 1 0 0 ⟨#[]⟩ ⟨#[]⟩:=by subst h;exact ⟨rfl,rfl,rfl,rfl,rfl⟩
theorem nmP_f {p:Bool} (h:p=false):NumP p 1 0 0 0:=by subst h;exact .inr ⟨rfl,rfl,rfl,rfl,rfl⟩
theorem spP_f {p:Bool} {M:Int} (h:p=false):SpP p M 1 0:=by subst h;exact ⟨rfl,rfl⟩
theorem boP_f {p:Bool} (h:p=false):BoP p 0:=by subst h;rfl
theorem spP_t {p:Bool} {M l h:Int} (hp:p=true) (h1:0≤l) (h2:l≤h) (h3:h≤M):SpP p M l h:=by subst hp;exact ⟨h1,h2,h3⟩
theorem boP_t {p:Bool} {n:Int} (hp:p=true) (h:BoP p n) {n':Int} (e:n'=n):BoP p n':=by rw [e];exact h
theorem kn1t {p1:Bool} (h:p1=true):2=kndI p1 false false false false:=by subst h;rfl
theorem kn1f {p1:Bool} (h:p1=false):0=kndI p1 false false false false:=by subst h;rfl
theorem kn2t {K:Int} {p1 p2:Bool} (hK:K=kndI p1 false false false false) (h:p2=true):K+4=kndI p1 p2 false false false:=by subst h;subst hK;cases p1<;>rfl
theorem kn2f {K:Int} {p1 p2:Bool} (hK:K=kndI p1 false false false false) (h:p2=false):K=kndI p1 p2 false false false:=by simp_all
theorem kn3t {K:Int} {p1 p2 p3:Bool} (hK:K=kndI p1 p2 false false false) (h:p3=true):K+8=kndI p1 p2 p3 false false:=by subst h;subst hK;cases p1<;>cases p2<;>rfl
theorem kn3f {K:Int} {p1 p2 p3:Bool} (hK:K=kndI p1 p2 false false false) (h:p3=false):K=kndI p1 p2 p3 false false:=by simp_all
theorem kn4t {K:Int} {p1 p2 p3 p4:Bool} (hK:K=kndI p1 p2 p3 false false) (h:p4=true):K+16=kndI p1 p2 p3 p4 false:=by subst h;subst hK;cases p1<;>cases p2<;>cases p3<;>rfl
theorem kn4f {K:Int} {p1 p2 p3 p4:Bool} (hK:K=kndI p1 p2 p3 false false) (h:p4=false):K=kndI p1 p2 p3 p4 false:=by simp_all
theorem kn5t {K:Int} {p1 p2 p3 p4 p5:Bool} (hK:K=kndI p1 p2 p3 p4 false) (h:p5=true):K+32=kndI p1 p2 p3 p4 p5:=by subst h;subst hK;cases p1<;>cases p2<;>cases p3<;>cases p4<;>rfl
theorem kn5f {K:Int} {p1 p2 p3 p4 p5:Bool} (hK:K=kndI p1 p2 p3 p4 false) (h:p5=false):K=kndI p1 p2 p3 p4 p5:=by simp_all
theorem and3 {B:Int} (h0:0≤B) (h3:B≤3):andI B 3=B:=by
 have:B=0∨B=1∨B=2∨B=3:=by omega
 rcases this with rfl | rfl | rfl | rfl<;>decide
theorem BoP.le {p:Bool} {B:Int} (h:BoP p B):0≤B∧B≤3:=by cases p<;>simp [BoP] at h<;>omega
theorem ShP.inn {p:Bool} {le mo cl:Int} {be en:ByteArray} (h:ShP p le mo cl be en):ShIn p le mo cl be en:=by
 cases p
 ·obtain ⟨h1,h2,h3,h4,h5⟩:=h;exact ⟨.inr h1,h2,h3,h4,h5⟩
 ·exact h
theorem c54_2 (p:Bool) (le mo cl:Int) (be en:ByteArray) (h:ShIn p le mo cl be en):ValC Tryz.prog GG 54 [a [i le,i mo,i cl,.p (.vl (.string be)),.p (.vl (.string en))]] (fun r=>∃v:Bool,r=o (b v)∧(p=true→v=false)):=by
 cases p
 ·obtain ⟨h1,rfl,rfl,rfl,rfl⟩:=h
  rcases h1 with rfl | rfl
  ·exact (kv (r:=o (b false)) (by kernel_rfl)).mono (by simp_all)
  ·exact (kv (r:=o (b true)) (by kernel_rfl)).mono (by simp_all)
 ·obtain ⟨s,hs⟩:=h;exact (c54_1 le mo cl be en s hs).mono (by simp_all)
theorem c56_0 (p:Bool) (le mo cl:Int) (be en:ByteArray) (h:ShIn p le mo cl be en) (hp:p=true):ValC Tryz.prog GG 56 [a [i le,i mo,i cl,.p (.vl (.string be)),.p (.vl (.string en))],a [i le,i mo,i cl,.p (.vl (.string be)),.p (.vl (.string en))]] (fun r=>∃(l m c:Int) (b e:ByteArray),r=a [i l,i m,i c,sv b,sv e]∧ShP p l m c b e):=by
 subst hp;exact (c56 true true le mo cl be en le mo cl be en h h).mono (by simp_all)
theorem c57_1 (p:Bool) (n s m t:Int) (h:NmIn p n s m t):ValC Tryz.prog GG 57 [a [i n,i s,i m,i t]] (fun r=>∃v:Bool,r=o (b v)∧(p=true→v=false)):=by
 cases p
 ·obtain ⟨h1,rfl,rfl,rfl⟩:=h
  rcases h1 with rfl | rfl
  ·exact (kv (r:=o (b false)) (by kernel_rfl)).mono (by simp_all)
  ·exact (kv (r:=o (b true)) (by kernel_rfl)).mono (by simp_all)
 ·obtain ⟨h1,h2,h3⟩:=h;exact (c57_0 n s m t h1 h2 h3).mono (by simp_all)
theorem c58_4 (p:Bool) (n s m t:Int) (h:NmIn p n s m t) (hp:p=true):ValC Tryz.prog GG 58 [a [i n,i s,i m,i t],a [i n,i s,i m,i t]] (fun r=>∃x y z w:Int,r=a [i x,i y,i z,i w]∧NumP p x y z w):=by
 subst hp;exact (c58 true true n s m t n s m t (.inl ⟨rfl,h⟩) (.inl ⟨rfl,h⟩)).mono (by simp_all)
theorem c59_0 (p:Bool) (M l h:Int) (hs:SpIn p M l h) (hM:0≤M):ValC Tryz.prog GG 59 [a [i l,i h],a [i 0,i M]] (fun r=>∃l' h':Int,r=a [i l',i h']∧(p=true→0≤l'∧l'≤h'∧h'≤M)):=by
 refine (c59 l h 0 M).mono ?_;rintro r ⟨l',h',rfl,h1,h2⟩;refine ⟨l',h',rfl,fun hp=> ?_⟩;subst hp;obtain ⟨h3,h4,h5⟩:=hs;omega
theorem abc_mem {w:Nat} {k:Int} (h:k<(abcL.take w).length) (h0:0≤k):(abcL.take w).getD k.toNat default∈abcL:=by
 simp_all
theorem c61_0 (s:ByteArray) (h:s∈abcL):ValC Tryz.prog GG 61 [o (sv s)] (fun r=>r=o (b true)):=by
 simp only [abcL,List.mem_cons,List.mem_nil_iff,or_false] at h
 rcases h with rfl | rfl | rfl<;>exact kv (by kernel_rfl)
theorem c60_0 (w:Nat) (x:PV) (hx:IsS encS (abcL.take w) x) (hw:w≤3):ValC Tryz.prog GG 60 [o (.p x)] (fun r=>∃y:PV,r=o (.p y)∧IsS encS (abcL.take w) y):=by
 have hw':w=0∨w=1∨w=2∨w=3:=by omega
 cases hx with
 | nil h=>
  rw [h];exact (kv (r:=o nl) (by kernel_rfl)).mono (by rintro r rfl;exact ⟨_,rfl,.nil rfl⟩)
 | sl=>
  rcases hw' with rfl | rfl | rfl | rfl
  ·exact (kv (r:=o nl) (by kernel_rfl)).mono (by rintro r rfl;exact ⟨_,rfl,.nil rfl⟩)
  ·exact (kv (r:=o (.p (.sl 1 ((abcL.take 1).flatMap encS)))) (by kernel_rfl)).mono (by rintro r rfl;exact ⟨_,rfl,.sl⟩)
  ·exact (kv (r:=o (.p (.sl 2 ((abcL.take 2).flatMap encS)))) (by kernel_rfl)).mono (by rintro r rfl;exact ⟨_,rfl,.sl⟩)
  ·exact (kv (r:=o (.p (.sl 3 ((abcL.take 3).flatMap encS)))) (by kernel_rfl)).mono (by rintro r rfl;exact ⟨_,rfl,.sl⟩)
theorem c60_1 (w:Nat) (hw:w≤3):(abcL.take w).length≤3:=by simp;omega
end Go.Sx.E1
