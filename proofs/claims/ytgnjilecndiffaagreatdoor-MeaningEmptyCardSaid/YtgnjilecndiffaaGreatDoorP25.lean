/- A part of the proof of MeaningEmpty. -/
import Derived.Test.YtgnjilecndiffaaGreatDoorP15
import Derived.Test.YtgnjilecndiffaaGreatDoorP24
set_option linter.all false
set_option maxRecDepth 1000000
set_option maxHeartbeats 0
namespace Go.Sx.E1
open Go.Proofs
variable [MaxL]
theorem c86_w5 (e:Bool) (K le mx cl:Int) (be en:ByteArray) (n s m t dl dh bo rl rh:Int) (x z:PV) (w:Nat) (D:List Dp) (h0:0≤rl) (h1:rl≤rh) (h2:rh≤100) (hx:IsS encS (abcL.take w) x) (hw:w≤3) (hw3:(abcL.take w).length≤3) (hz:IsS encD D z) (hD:D.length≤1000) (Kr ler mxr clr nr sr mr tr dlr dhr bor rlr rhr:Int) (ber enr:ByteArray) (xr zr:PV) (er:Bool):RefC Tryz.prog GG 86 [o (.ref 0 0),a [i K,i le,i mx,i cl,sv be,sv en,i n,i s,i m,i t,i dl,i dh,i bo,i rl,i rh,.p x,.p z,b e],o (i 5)] [i Kr,i ler,i mxr,i clr,sv ber,sv enr,i nr,i sr,i mr,i tr,i dlr,i dhr,i bor,i rlr,i rhr,.p xr,.p zr,b er] (fun r cs=>∃(l' h':Int) (x' z':PV) (D':List Dp),r=o (b true)∧cs=[i Kr,i ler,i mxr,i clr,sv ber,sv enr,i nr,i sr,i mr,i tr,i dlr,i dhr,i bor,i l',i h',.p x',.p z',b er]∧SpP true 100 l' h'∧IsS encS (abcL.take w) x'∧IsS encD D' z'∧D'.length≤D.length):=by
 refine vR (fn:=Tryz.f86)<| yU 42 [1] 128 (pT Tryz.f86 [1,0,1,0,1,1,1,1,1,1,1,1,1,0,0]) [(0,o (.ref 0 0)),(4,o (.ref 1 0))] [.cells [i Kr,i ler,i mxr,i clr,.p (.vl (.string ber)),.p (.vl (.string enr)),i nr,i sr,i mr,i tr,i dlr,i dhr,i bor,i rlr,i rhr,.p xr,.p zr,b er] false,.cells [i K,i le,i mx,i cl,.p (.vl (.string be)),.p (.vl (.string en)),i n,i s,i m,i t,i dl,i dh,i bo,i rl,i rh,.p x,.p z,b e] false] fun J=> ?_
 refine Fin.drawW wf mix (ops:=opsAt (Bd Tryz.f86) [1,0,1,0,1,1,1,1,1,1,1,1,1,0,0]) (todo':=(pT Tryz.f86 [1,0,1,0,1,1,1,1,1,1,1,1,1,0,0]).tail) [[],[],[],[],[2],[2]] (by kernel_rfl) (by kernel_rfl) (by kernel_rfl) ?_;refine DW.adv louW 2 (l':=(List.range' 2 4)) (st':=⟨regsOf 128 [(0,o (.ref 0 0)),(4,o (.ref 1 0)),(69,o (.ref 1 13)),(70,a [i rl,i rh])] J,[.cells [i Kr,i ler,i mxr,i clr,.p (.vl (.string ber)),.p (.vl (.string enr)),i nr,i sr,i mr,i tr,i dlr,i dhr,i bor,i rlr,i rhr,.p xr,.p zr,b er] false,.cells [i K,i le,i mx,i cl,.p (.vl (.string be)),.p (.vl (.string en)),i n,i s,i m,i t,i dl,i dh,i bo,i rl,i rh,.p x,.p z,b e] false,.gone]⟩) (by kernel_rfl) ?_;refine DW.call louW (g:=38) (ags:=[]) (ts:=[]) (dst:=(some 71)) (r:=a [i 0,i 100]) (is:=(List.range' 3 3)) (by kernel_rfl) (kv (f:=38) (args:=[]) (r:=a [i 0,i 100]) (by kernel_rfl)) ?_;refine DW.adv louW 0 (l':=(List.range' 3 3)) (st':=⟨regsOf 128 [(0,o (.ref 0 0)),(4,o (.ref 1 0)),(69,o (.ref 1 13)),(70,a [i rl,i rh]),(71,a [i 0,i 100])] J,[.cells [i Kr,i ler,i mxr,i clr,.p (.vl (.string ber)),.p (.vl (.string enr)),i nr,i sr,i mr,i tr,i dlr,i dhr,i bor,i rlr,i rhr,.p xr,.p zr,b er] false,.cells [i K,i le,i mx,i cl,.p (.vl (.string be)),.p (.vl (.string en)),i n,i s,i m,i t,i dl,i dh,i bo,i rl,i rh,.p x,.p z,b e] false,.gone]⟩) (by kernel_rfl) ?_;refine DW.call louW (g:=210) (ags:=[a [i rl,i rh],a [i 0,i 100]]) (ts:=[]) (dst:=(some 72)) (r:=a [i rl,i rh]) (is:=(List.range' 4 2)) (by kernel_rfl) (c210_0 100 rl rh (by omega) (by omega) (by omega)) ?_;refine DW.adv louW 2 (l':=[]) (st':=⟨regsOf 128 [(0,o (.ref 0 0)),(4,o (.ref 1 0)),(8,o (.ref 2 0)),(69,o (.ref 1 13)),(70,a [i rl,i rh]),(71,a [i 0,i 100]),(72,a [i rl,i rh])] J,[.cells [i Kr,i ler,i mxr,i clr,.p (.vl (.string ber)),.p (.vl (.string enr)),i nr,i sr,i mr,i tr,i dlr,i dhr,i bor,i rlr,i rhr,.p xr,.p zr,b er] false,.cells [i K,i le,i mx,i cl,.p (.vl (.string be)),.p (.vl (.string en)),i n,i s,i m,i t,i dl,i dh,i bo,i rl,i rh,.p x,.p z,b e] false,.cells [i rl,i rh] false]⟩) (by kernel_rfl) (DW.done ?_);refine yX<| yC 4 (c211_0 w _ hx (by omega)) ?_
 rintro _ ⟨y0,rfl,hq1⟩;refine yn 11 81 (rl>rh)<| yL 1 hq1<| yn 3 86 ((↑(List.take w abcL).length:Int)>8)<| yV 1 (c213_0 w _ hq1 (by omega))<| yV 8 (c214_0 w _ hq1 (by omega))<| yW 19 (c215_L D z hz (by omega)) ?_ ?_
 ·intro _;refine yP 15 [] 128 (pT Tryz.f86 [1,0,1,0,1,1,1,1,1,1,1,1,1,0,1,1,1,1,1,1,1,0,0]) (α:=(Int×Nat×List Dp) ⊕ (Int)) (fun ix_=>match ix_ with | (.inl (kb,nn,M2))=>0≤kb∧kb≤nn∧M2.length=nn∧M2.length≤D.length | (.inr ka)=>ka=0∧((0))=0) (fun ix_=>match ix_ with | (.inl (kb,nn,M2))=>(nn - kb).toNat | (.inr ka)=>(0 - ka).toNat) (fun ix_=>match ix_ with | (.inl (kb,nn,M2))=>([(0,o (.ref 0 0)),(110,o (.lsl 1 0 nn 2)),(111,o (i ((↑nn:Int)))),(112,o (i kb))],[.cells [i Kr,i ler,i mxr,i clr,.p (.vl (.string ber)),.p (.vl (.string enr)),i nr,i sr,i mr,i tr,i dlr,i dhr,i bor,i rl,i rh,.p y0,.lsl 1 0 nn 2,b er] false,.cells (pc (List.flatMap encD M2)) false]) | (.inr ka)=>([(0,o (.ref 0 0)),(110,o (nl)),(111,o (i 0)),(112,o (i ka))],[.cells [i Kr,i ler,i mxr,i clr,.p (.vl (.string ber)),.p (.vl (.string enr)),i nr,i sr,i mr,i tr,i dlr,i dhr,i bor,i rl,i rh,.p y0,nl,b er] false])) (.inr 0) (by (try dsimp only);omega) ?_;rintro (⟨kb,nn,M2⟩ | ka) hI ih22 J
  try dsimp only at hI ih22 ⊢
  ·obtain ⟨_,_,_,_⟩:=hI;refine yB 5 113 (kb<(↑nn:Int)) (fun _=> ?_) fun _=> ?_
   ·refine yO 7 (indexAddrA TT 43 (o (.lsl 1 0 nn 2)) (o (i kb))) (indexAddrA_lsl (e:=103) (by kernel_rfl) (by kernel_rfl) (by omega) (by omega))<| yO 0 (loadA TT GG 103 (o (.ref 1 (0+kb.toNat*2)))) (loadA_LN0 (α:=Dp) (enc:=encD) (L:=M2) (n:=2) (fz:=false) default (by kernel_rfl) (by kernel_rfl) (by kernel_rfl) (by exact fun _=>rfl) (by omega) (by omega) (by decide)) ?_
    have:=((M2.getD kb.toNat default)).hw;refine yD 4 [] [[],[],[],[],[],[],[],[],[],[],[0,1,2]] (List.range 11)<| yC 7 (c217 _ _ ((M2.getD kb.toNat default)).h (by omega)) ?_
    rintro _ ⟨y12,rfl,hq13⟩;exact yO 0 (indexAddrA TT 43 (o (.lsl 1 0 nn 2)) (o (i kb))) (indexAddrA_lsl (e:=103) (by kernel_rfl) (by kernel_rfl) (by omega) (by omega))<| yO 1 (storeA TT 42 (o (.ref 1 (0+kb.toNat*2))) (o (.p y12))) (rule_storeD (M:=M2) (F:=((M2.getD kb.toNat default).F)) hq13 (by omega) (by kernel_rfl) (by kernel_rfl) (by omega) (by omega))<| yJ 7 112 (kb+1)<| yK 0 [1] (ih22 (.inl ((kb+1),nn,(setD M2 kb.toNat y12 (M2.getD kb.toNat default).F))) (by exact ⟨by omega,by omega,by rw [setD_length];assumption,by rw [setD_length];omega⟩) (by (try dsimp only);omega)) (hh:=(mo (by kernel_rfl) (mo (renAt_pc (by kernel_rfl)) (mo_nil))))
   refine yZ 3 0 16 (x:= .lsl 1 0 nn 2) (y:=(.sl nn (List.flatMap encD M2))) (ts:=[1]) ?_ (hz:=(fzL_pc (fz:=false) (by kernel_rfl) (by rw [flat_len (z:=2) (fun _=>rfl)];omega)));exact yFR 4 (o (b true)) [i Kr,i ler,i mxr,i clr,.p (.vl (.string ber)),.p (.vl (.string enr)),i nr,i sr,i mr,i tr,i dlr,i dhr,i bor,i rl,i rh,.p y0,.p (.sl nn (List.flatMap encD M2)),b er] (r':=o (b true)) (ts:=[])<| ⟨_,_,_,_,_,rfl,rfl,spP_t rfl (by omega) (by omega) (by omega),by assumption,isS_of (by omega),by omega⟩
  obtain ⟨_,_⟩:=hI;exact yn 5 113 (ka<0)<| yFR 7 (o (b true)) [i Kr,i ler,i mxr,i clr,.p (.vl (.string ber)),.p (.vl (.string enr)),i nr,i sr,i mr,i tr,i dlr,i dhr,i bor,i rl,i rh,.p y0,nl,b er] (r':=o (b true)) (ts:=[])<| ⟨_,_,_,_,[],rfl,rfl,spP_t rfl (by omega) (by omega) (by omega),by assumption,.nil rfl,by simp⟩
 rintro _ _ ⟨M17,rfl,rfl,_⟩;refine yP 15 [3] 128 (pT Tryz.f86 [1,0,1,0,1,1,1,1,1,1,1,1,1,0,1,1,1,1,1,1,1,0,0]) (α:=(Int×Nat×List Dp) ⊕ (Int)) (fun ix_=>match ix_ with | (.inl (kb,nn,M2))=>0≤kb∧kb≤nn∧M2.length=nn∧M2.length≤D.length | (.inr ka)=>ka=0∧((((↑M17.length:Int))))=0) (fun ix_=>match ix_ with | (.inl (kb,nn,M2))=>(nn - kb).toNat | (.inr ka)=>(0 - ka).toNat) (fun ix_=>match ix_ with | (.inl (kb,nn,M2))=>([(0,o (.ref 0 0)),(110,o (.lsl 1 0 nn 2)),(111,o (i ((↑nn:Int)))),(112,o (i kb))],[.cells [i Kr,i ler,i mxr,i clr,.p (.vl (.string ber)),.p (.vl (.string enr)),i nr,i sr,i mr,i tr,i dlr,i dhr,i bor,i rl,i rh,.p y0,.lsl 1 0 nn 2,b er] false,.cells (pc (List.flatMap encD M2)) false]) | (.inr ka)=>([(0,o (.ref 0 0)),(110,o (.lsl 1 0 M17.length 2)),(111,o (i ((↑M17.length:Int)))),(112,o (i ka))],[.cells [i Kr,i ler,i mxr,i clr,.p (.vl (.string ber)),.p (.vl (.string enr)),i nr,i sr,i mr,i tr,i dlr,i dhr,i bor,i rl,i rh,.p y0,.lsl 1 0 M17.length 2,b er] false,.cells (pc (List.flatMap encD M17)) false])) (.inl (0,M17.length,M17)) (by (try dsimp only);omega) ?_ (hh:=(mo (by kernel_rfl) (mo (renAt_pc (by kernel_rfl)) (mo_nil))));rintro (⟨kb,nn,M2⟩ | ka) hI ih22 J
 try dsimp only at hI ih22 ⊢
 ·obtain ⟨_,_,_,_⟩:=hI;refine yB 5 113 (kb<(↑nn:Int)) (fun _=> ?_) fun _=> ?_
  ·refine yO 7 (indexAddrA TT 43 (o (.lsl 1 0 nn 2)) (o (i kb))) (indexAddrA_lsl (e:=103) (by kernel_rfl) (by kernel_rfl) (by omega) (by omega))<| yO 0 (loadA TT GG 103 (o (.ref 1 (0+kb.toNat*2)))) (loadA_LN0 (α:=Dp) (enc:=encD) (L:=M2) (n:=2) (fz:=false) default (by kernel_rfl) (by kernel_rfl) (by kernel_rfl) (by exact fun _=>rfl) (by omega) (by omega) (by decide)) ?_
   have:=((M2.getD kb.toNat default)).hw;refine yD 4 [] [[],[],[],[],[],[],[],[],[],[],[0,1,2]] (List.range 11)<| yC 7 (c217 _ _ ((M2.getD kb.toNat default)).h (by omega)) ?_
   rintro _ ⟨y25,rfl,hq26⟩;exact yO 0 (indexAddrA TT 43 (o (.lsl 1 0 nn 2)) (o (i kb))) (indexAddrA_lsl (e:=103) (by kernel_rfl) (by kernel_rfl) (by omega) (by omega))<| yO 1 (storeA TT 42 (o (.ref 1 (0+kb.toNat*2))) (o (.p y25))) (rule_storeD (M:=M2) (F:=((M2.getD kb.toNat default).F)) hq26 (by omega) (by kernel_rfl) (by kernel_rfl) (by omega) (by omega))<| yJ 7 112 (kb+1)<| yK 0 [1] (ih22 (.inl ((kb+1),nn,(setD M2 kb.toNat y25 (M2.getD kb.toNat default).F))) (by exact ⟨by omega,by omega,by rw [setD_length];assumption,by rw [setD_length];omega⟩) (by (try dsimp only);omega)) (hh:=(mo (by kernel_rfl) (mo (renAt_pc (by kernel_rfl)) (mo_nil))))
  refine yZ 3 0 16 (x:= .lsl 1 0 nn 2) (y:=(.sl nn (List.flatMap encD M2))) (ts:=[1]) ?_ (hz:=(fzL_pc (fz:=false) (by kernel_rfl) (by rw [flat_len (z:=2) (fun _=>rfl)];omega)));exact yFR 4 (o (b true)) [i Kr,i ler,i mxr,i clr,.p (.vl (.string ber)),.p (.vl (.string enr)),i nr,i sr,i mr,i tr,i dlr,i dhr,i bor,i rl,i rh,.p y0,.p (.sl nn (List.flatMap encD M2)),b er] (r':=o (b true)) (ts:=[])<| ⟨_,_,_,_,_,rfl,rfl,spP_t rfl (by omega) (by omega) (by omega),by assumption,isS_of (by omega),by omega⟩
 obtain ⟨_,_⟩:=hI;refine yn 5 113 (ka<(↑M17.length:Int))<| yZ 3 0 16 (x:= .lsl 1 0 M17.length 2) (y:=(.sl M17.length (List.flatMap encD M17))) (ts:=[1]) ?_ (hz:=(fzL_pc (fz:=false) (by kernel_rfl) (by exact flat_len (z:=2) (fun _=>rfl) _)))
 exact yFR 4 (o (b true)) [i Kr,i ler,i mxr,i clr,.p (.vl (.string ber)),.p (.vl (.string enr)),i nr,i sr,i mr,i tr,i dlr,i dhr,i bor,i rl,i rh,.p y0,.p (.sl M17.length (List.flatMap encD M17)),b er] (r':=o (b true)) (ts:=[])<| ⟨_,_,_,_,_,rfl,rfl,spP_t rfl (by omega) (by omega) (by omega),by assumption,isS_of (by omega),by omega⟩
def selK (k:Int) (p1 p2 p3 p4 p5:Bool):Bool:=if k=1 then p1 else if k=2 then p2 else if k=3 then p3 else if k=4 then p4 else if k=5 then p5 else false
def RParts (p1 p2 p3 p4 p5:Bool) (N:Nat) (k:Int) (ler mxr clr nr sr mr tr dlr dhr bor rlr rhr:Int) (ber enr:ByteArray) (xr zr:PV):Prop:=
 ShP (p1 && decide (1<k)) ler mxr clr ber enr∧NumP (p2 && decide (2<k)) nr sr mr tr∧SpP (p3 && decide (3<k)) 3652058 dlr dhr∧BoP (p4 && decide (4<k)) bor∧SpP (p5 && decide (5<k)) 100 rlr rhr∧
 ∃(w:Nat) (D:List Dp),IsS encS (abcL.take w) xr∧w≤3∧IsS encD D zr∧D.length≤N
theorem bk {p:Bool} {j k:Int} (h:p=false∨k≠j):(p && decide (j<k+1))=(p && decide (j<k)):=by
 grind
theorem selF {k:Int} {p1 p2 p3 p4 p5:Bool} (h:selK k p1 p2 p3 p4 p5=false):(p1=false∨k≠1)∧(p2=false∨k≠2)∧(p3=false∨k≠3)∧(p4=false∨k≠4)∧(p5=false∨k≠5):=by
 unfold selK at h
 grind
theorem RParts.skip {p1 p2 p3 p4 p5:Bool} {N:Nat} {k:Int} {ler mxr clr nr sr mr tr dlr dhr bor rlr rhr:Int} {ber enr:ByteArray} {xr zr:PV} (h:RParts p1 p2 p3 p4 p5 N k ler mxr clr nr sr mr tr dlr dhr bor rlr rhr ber enr xr zr) (hs:selK k p1 p2 p3 p4 p5=false):RParts p1 p2 p3 p4 p5 N (k+1) ler mxr clr nr sr mr tr dlr dhr bor rlr rhr ber enr xr zr:=by
 obtain ⟨s1,s2,s3,s4,s5⟩:=selF hs;unfold RParts at*;rw [bk s1,bk s2,bk s3,bk s4,bk s5];exact h
theorem knd_skip {p1 p2 p3 p4 p5:Bool} {k K:Int} (h:K=kndI (p1 && decide (1<k)) (p2 && decide (2<k)) (p3 && decide (3<k)) (p4 && decide (4<k)) (p5 && decide (5<k))) (hs:selK k p1 p2 p3 p4 p5=false):
  K=kndI (p1 && decide (1<k+1)) (p2 && decide (2<k+1)) (p3 && decide (3<k+1)) (p4 && decide (4<k+1)) (p5 && decide (5<k+1)):=by
 obtain ⟨s1,s2,s3,s4,s5⟩:=selF hs;rw [bk s1,bk s2,bk s3,bk s4,bk s5];exact h
def bitI (k:Int):Int:=IntKind.i64.wrap (1*2^min k.toNat 64)
theorem knd_take {p1 p2 p3 p4 p5:Bool} {k K:Int} (h0:0<k) (h5:k<6) (h:K=kndI (p1 && decide (1<k)) (p2 && decide (2<k)) (p3 && decide (3<k)) (p4 && decide (4<k)) (p5 && decide (5<k))) (hs:selK k p1 p2 p3 p4 p5=true):
  orI K (bitI k)=kndI (p1 && decide (1<k+1)) (p2 && decide (2<k+1)) (p3 && decide (3<k+1)) (p4 && decide (4<k+1)) (p5 && decide (5<k+1)):=by
 subst h;have hk:k=1∨k=2∨k=3∨k=4∨k=5:=by omega
 rcases hk with rfl | rfl | rfl | rfl | rfl<;>revert p1 p2 p3 p4 p5<;>decide
theorem knd_sel {p1 p2 p3 p4 p5:Bool} {k K:Int} (h0:0<k) (h5:k<6) (h:K=kndI p1 p2 p3 p4 p5):selK k p1 p2 p3 p4 p5=(andI K (bitI k) !=0):=by
 subst h;have hk:k=1∨k=2∨k=3∨k=4∨k=5:=by omega
 rcases hk with rfl | rfl | rfl | rfl | rfl<;>revert p1 p2 p3 p4 p5<;>decide
theorem c86 (p1 p2 p3 p4 p5 e:Bool) (K le mx cl:Int) (be en:ByteArray) (n s m t dl dh bo rl rh:Int) (x z:PV) (w:Nat) (D:List Dp) (N:Nat) (k:Int) (Kr ler mxr clr nr sr mr tr dlr dhr bor rlr rhr:Int) (ber enr:ByteArray) (xr zr:PV) (er:Bool) (hR:RParts p1 p2 p3 p4 p5 N k ler mxr clr nr sr mr tr dlr dhr bor rlr rhr ber enr xr zr) (h1:ShP p1 le mx cl be en) (h2:NumP p2 n s m t) (h3:SpP p3 3652058 dl dh) (h4:BoP p4 bo) (h5:SpP p5 100 rl rh) (hx:IsS encS (abcL.take w) x) (hw:w≤3) (hz:IsS encD D z) (hN:D.length≤N) (hNN:N≤1000) (hk0:0<k) (hk5:k<6) (hs:selK k p1 p2 p3 p4 p5=true):RefC Tryz.prog GG 86 [o (.ref 0 0),a [i K,i le,i mx,i cl,sv be,sv en,i n,i s,i m,i t,i dl,i dh,i bo,i rl,i rh,.p x,.p z,b e],o (i k)] [i Kr,i ler,i mxr,i clr,sv ber,sv enr,i nr,i sr,i mr,i tr,i dlr,i dhr,i bor,i rlr,i rhr,.p xr,.p zr,b er] (fun r cs=>∃(ler' mxr' clr' nr' sr' mr' tr' dlr' dhr' bor' rlr' rhr':Int) (ber' enr':ByteArray) (xr' zr':PV),r=o (b true)∧cs=[i Kr,i ler',i mxr',i clr',sv ber',sv enr',i nr',i sr',i mr',i tr',i dlr',i dhr',i bor',i rlr',i rhr',.p xr',.p zr',b er]∧RParts p1 p2 p3 p4 p5 N (k+1) ler' mxr' clr' nr' sr' mr' tr' dlr' dhr' bor' rlr' rhr' ber' enr' xr' zr'):=by
 obtain ⟨r1,r2,r3,r4,r5,w',D',rx,rw',rz,rD⟩:=hR;have hk:k=1∨k=2∨k=3∨k=4∨k=5:=by omega
 rcases hk with rfl | rfl | rfl | rfl | rfl
 ·have hp:p1=true:=hs;subst hp;refine (c86_1 e K le mx cl be en n s m t dl dh bo rl rh x z h1 Kr ler mxr clr nr sr mr tr dlr dhr bor rlr rhr ber enr xr zr er).mono ?_;rintro r cs ⟨l',m',c',b',e',rfl,rfl,q⟩;refine ⟨_,_,_,_,_,_,_,_,_,_,_,_,_,_,_,_,rfl,rfl,?_⟩;unfold RParts;rw [bk (j:=2) (k:=1) (.inr (by decide)),bk (j:=3) (k:=1) (.inr (by decide)),bk (j:=4) (k:=1) (.inr (by decide)),bk (j:=5) (k:=1) (.inr (by decide))];exact ⟨q,r2,r3,r4,r5,w',D',rx,rw',rz,rD⟩
 ·have hp:p2=true:=hs;subst hp;refine (c86_2 e K le mx cl be en n s m t dl dh bo rl rh x z h2 Kr ler mxr clr nr sr mr tr dlr dhr bor rlr rhr ber enr xr zr er).mono ?_;rintro r cs ⟨n',s',m',t',rfl,rfl,q⟩;refine ⟨_,_,_,_,_,_,_,_,_,_,_,_,_,_,_,_,rfl,rfl,?_⟩;unfold RParts;rw [bk (j:=1) (k:=2) (.inr (by decide)),bk (j:=3) (k:=2) (.inr (by decide)),bk (j:=4) (k:=2) (.inr (by decide)),bk (j:=5) (k:=2) (.inr (by decide))];exact ⟨r1,q,r3,r4,r5,w',D',rx,rw',rz,rD⟩
 ·have hp:p3=true:=hs;subst hp;obtain ⟨g1,g2,g3⟩:=h3;refine (c86_3 e K le mx cl be en n s m t dl dh bo rl rh x z g1 g2 g3 Kr ler mxr clr nr sr mr tr dlr dhr bor rlr rhr ber enr xr zr er).mono ?_;rintro r cs ⟨d',f',rfl,rfl,q⟩;refine ⟨_,_,_,_,_,_,_,_,_,_,_,_,_,_,_,_,rfl,rfl,?_⟩;unfold RParts;rw [bk (j:=1) (k:=3) (.inr (by decide)),bk (j:=2) (k:=3) (.inr (by decide)),bk (j:=4) (k:=3) (.inr (by decide)),bk (j:=5) (k:=3) (.inr (by decide))];exact ⟨r1,r2,q,r4,r5,w',D',rx,rw',rz,rD⟩
 ·have hp:p4=true:=hs;subst hp;have g:=h4.le;have g':=h4.t rfl;refine (c86_4 e K le mx cl be en n s m t dl dh bo rl rh x z h4 g'.1 g'.2 (and3 g.1 g.2) Kr ler mxr clr nr sr mr tr dlr dhr bor rlr rhr ber enr xr zr er).mono ?_;rintro r cs ⟨B',rfl,rfl,q⟩;refine ⟨_,_,_,_,_,_,_,_,_,_,_,_,_,_,_,_,rfl,rfl,?_⟩;unfold RParts;rw [bk (j:=1) (k:=4) (.inr (by decide)),bk (j:=2) (k:=4) (.inr (by decide)),bk (j:=3) (k:=4) (.inr (by decide)),bk (j:=5) (k:=4) (.inr (by decide))];exact ⟨r1,r2,r3,q,r5,w',D',rx,rw',rz,rD⟩
 ·have hp:p5=true:=hs;subst hp;obtain ⟨g1,g2,g3⟩:=h5;refine (c86_w5 e K le mx cl be en n s m t dl dh bo rl rh x z w D g1 g2 g3 hx hw (abc_len3 w).1 hz (by omega) Kr ler mxr clr nr sr mr tr dlr dhr bor rlr rhr ber enr xr zr er).mono ?_;rintro r cs ⟨l',h',x',z',D2,rfl,rfl,q,qx,qz,qD⟩;refine ⟨_,_,_,_,_,_,_,_,_,_,_,_,_,_,_,_,rfl,rfl,?_⟩;unfold RParts;rw [bk (j:=1) (k:=5) (.inr (by decide)),bk (j:=2) (k:=5) (.inr (by decide)),bk (j:=3) (k:=5) (.inr (by decide)),bk (j:=4) (k:=5) (.inr (by decide))];exact ⟨r1,r2,r3,r4,q,w,D2,qx,hw,qz,by omega⟩
theorem c34 (k:Int) (h0:0≤k):ValC Tryz.prog GG 34 [o (i k)] (fun r=>r=o (i (bitI k))):=by
 refine vX (fn:=Tryz.f34)<| yO 7 (binA Tryz.prog TT .shl 3 (Operand.const (Value.int IntKind.i64 1)) (.tmp 3) (o (i 1)) (o (i k))) (binA_shl (by omega))<| yF 2 (o (i (IntKind.i64.wrap (1*2^min k.toNat 64)))) ?_
 rfl
theorem RParts.zero (p1 p2 p3 p4 p5:Bool) (N:Nat):RParts p1 p2 p3 p4 p5 N 0 1 0 0 1 0 0 0 1 0 0 1 0 ⟨#[]⟩ ⟨#[]⟩ (.vl vn) (.vl vn):=by
 unfold RParts;refine ⟨shP_f (by simp),nmP_f (by simp),spP_f (by simp),boP_f (by simp),spP_f (by simp),0,[],.nil rfl,by decide,.nil rfl,by simp⟩
theorem and6 {p:Bool} {j:Int} (h:j<6):(p && decide (j<6))=p:=by simp [h]
theorem RParts.fin {p1 p2 p3 p4 p5:Bool} {N:Nat} {ler mxr clr nr sr mr tr dlr dhr bor rlr rhr:Int} {ber enr:ByteArray} {xr zr:PV} (h:RParts p1 p2 p3 p4 p5 N 6 ler mxr clr nr sr mr tr dlr dhr bor rlr rhr ber enr xr zr):
  ShP p1 ler mxr clr ber enr∧NumP p2 nr sr mr tr∧SpP p3 3652058 dlr dhr∧BoP p4 bor∧SpP p5 100 rlr rhr∧∃(w:Nat) (D:List Dp),IsS encS (abcL.take w) xr∧w≤3∧IsS encD D zr∧D.length≤N:=by
 unfold RParts at h
 simpa only [and6 (show (1:Int)<6 by decide),and6 (show (2:Int)<6 by decide),and6 (show (3:Int)<6 by decide),and6 (show (4:Int)<6 by decide),and6 (show (5:Int)<6 by decide)] using h
theorem knd6 {p1 p2 p3 p4 p5:Bool} {K:Int} (h:K=kndI (p1 && decide (1<(6:Int))) (p2 && decide (2<(6:Int))) (p3 && decide (3<(6:Int))) (p4 && decide (4<(6:Int))) (p5 && decide (5<(6:Int)))):K=kndI p1 p2 p3 p4 p5:=by
 simpa only [and6 (show (1:Int)<6 by decide),and6 (show (2:Int)<6 by decide),and6 (show (3:Int)<6 by decide),and6 (show (4:Int)<6 by decide),and6 (show (5:Int)<6 by decide)] using h
theorem knd0 (p1 p2 p3 p4 p5:Bool):(0:Int)=kndI (p1 && decide (1<(0:Int))) (p2 && decide (2<(0:Int))) (p3 && decide (3<(0:Int))) (p4 && decide (4<(0:Int))) (p5 && decide (5<(0:Int))):=by simp [kndI]
theorem sel0 {k:Int} {p1 p2 p3 p4 p5:Bool} (h:k≤0):selK k p1 p2 p3 p4 p5=false:=by
 unfold selK;rw [if_neg (by omega),if_neg (by omega),if_neg (by omega),if_neg (by omega),if_neg (by omega)]
theorem selN {k K:Int} {p1 p2 p3 p4 p5:Bool} (hK:K=kndI p1 p2 p3 p4 p5) (h0:0<k) (h5:k<6) (h:¬andI K (bitI k)≠0):selK k p1 p2 p3 p4 p5=false:=by
 rw [knd_sel h0 h5 hK];exact bne_eq_false_iff_eq.2 (Decidable.not_not.1 h)
theorem selT {k K:Int} {p1 p2 p3 p4 p5:Bool} (hK:K=kndI p1 p2 p3 p4 p5) (h0:0<k) (h5:k<6) (h:andI K (bitI k)≠0):selK k p1 p2 p3 p4 p5=true:=by
 rw [knd_sel h0 h5 hK];exact bne_iff_ne.2 h
theorem c39 (p1 p2 p3 p4 p5 e:Bool) (K le mx cl:Int) (be en:ByteArray) (n s m t dl dh bo rl rh:Int) (x z:PV) (w:Nat) (D:List Dp) (hK:K=kndI p1 p2 p3 p4 p5) (h1:ShP p1 le mx cl be en) (h2:NumP p2 n s m t) (h3:SpP p3 3652058 dl dh) (h4:BoP p4 bo) (h5:SpP p5 100 rl rh) (hx:IsS encS (abcL.take w) x) (hw:w≤3) (hz:IsS encD D z) (hD:D.length≤1000):ValC Tryz.prog GG 39 [a [i K,i le,i mx,i cl,sv be,sv en,i n,i s,i m,i t,i dl,i dh,i bo,i rl,i rh,.p x,.p z,b e]] (fun r=>∃(K' le' mx' cl':Int) (be' en':ByteArray) (n' s' m' t' dl' dh' bo' rl' rh':Int) (x' z':PV) (w':Nat) (D':List Dp),r=a [i K',i le',i mx',i cl',sv be',sv en',i n',i s',i m',i t',i dl',i dh',i bo',i rl',i rh',.p x',.p z',b e]∧K'=kndI p1 p2 p3 p4 p5∧ShP p1 le' mx' cl' be' en'∧NumP p2 n' s' m' t'∧SpP p3 3652058 dl' dh'∧BoP p4 bo'∧SpP p5 100 rl' rh'∧IsS encS (abcL.take w') x'∧w'≤3∧IsS encD D' z'∧D'.length≤D.length):=by
 refine vX (fn:=Tryz.f39)<| yV 7 (kv (f:=7) (args:=[]) (r:=a [i 0,i 1,i 0,i 0,.p (.vl (vs [])),.p (.vl (vs [])),i 1,i 0,i 0,i 0,i 1,i 0,i 0,i 1,i 0,nl,nl,b false]) (by kernel_rfl))<| yP 17 [0,1,2] 35 (pT Tryz.f39 [1,1,1,0,1,0,0]) (α:=(Int×Int×Int×Int×Int×Int×Int×Int×Int×Int×Int×Int×Int×Int×ByteArray×ByteArray×PV×PV)) (fun (k,Kr,ler,mxr,clr,nr,sr,mr,tr,dlr,dhr,bor,rlr,rhr,ber,enr,xr,zr)=>0≤k∧k≤6∧Kr=kndI (p1 && decide (1<k)) (p2 && decide (2<k)) (p3 && decide (3<k)) (p4 && decide (4<k)) (p5 && decide (5<k))∧RParts p1 p2 p3 p4 p5 D.length k ler mxr clr nr sr mr tr dlr dhr bor rlr rhr ber enr xr zr) (fun (k,Kr,ler,mxr,clr,nr,sr,mr,tr,dlr,dhr,bor,rlr,rhr,ber,enr,xr,zr)=>(6 - k).toNat) (fun (k,Kr,ler,mxr,clr,nr,sr,mr,tr,dlr,dhr,bor,rlr,rhr,ber,enr,xr,zr)=>([(1,o (.ref 0 0)),(2,o (.ref 1 0)),(3,o (.ref 2 0)),(9,o (i k))],[.cells [i K,i le,i mx,i cl,.p (.vl (.string be)),.p (.vl (.string en)),i n,i s,i m,i t,i dl,i dh,i bo,i rl,i rh,.p x,.p z,b e] false,.cells [i 0,i 0,i 0,i 0,.p (.vl (vs [])),.p (.vl (vs [])),i 0,i 0,i 0,i 0,i 0,i 0,i 0,i 0,i 0,nl,nl,b false] false,.cells [i Kr,i ler,i mxr,i clr,.p (.vl (.string ber)),.p (.vl (.string enr)),i nr,i sr,i mr,i tr,i dlr,i dhr,i bor,i rlr,i rhr,.p xr,.p zr,b e] false])) (0,0,1,0,0,1,0,0,0,1,0,0,1,0,(ByteArray.mk (List.map UInt8.ofNat []).toArray),(ByteArray.mk (List.map UInt8.ofNat []).toArray),(PV.vl vn),(PV.vl vn)) (by exact ⟨by omega,by omega,knd0 _ _ _ _ _,RParts.zero _ _ _ _ _ _⟩) ?_
 rintro ⟨k,Kr,ler,mxr,clr,nr,sr,mr,tr,dlr,dhr,bor,rlr,rhr,ber,enr,xr,zr⟩ hI ih6 J
 try dsimp only at hI ih6 ⊢
 obtain ⟨_,_,_,hq3⟩:=hI;refine yB 5 10 (k<6) (fun _=> ?_) fun _=> ?_
 ·refine yD 10 [] [[],[],[],[],[],[],[],[],[],[],[],[],[],[2]] (List.range 15)<| yBn 3 14 k 0 (fun _=> ?_) fun _=> ?_
  ·refine yV 3 (c34 k (by omega))<| yBn 4 22 (IntKind.i64.wrap (↑(BitVec.ofInt IntKind.i64.bits K &&& BitVec.ofInt IntKind.i64.bits (bitI k)).toNat:Int)) 0 (fun _=> ?_) fun _=> ?_
   ·refine yR 2 2 (c86 _ _ _ _ _ e K le mx cl be en n s m t dl dh bo rl rh _ _ w _ _ _ Kr _ _ _ _ _ _ _ _ _ _ _ _ _ _ _ _ e hq3 (by omega) (by omega) (by omega) (by omega) (by omega) hx (by omega) hz (by omega) (by omega) (by omega) (by omega) (by exact selT hK (by omega) (by omega) (by assumption))) ?_;rintro _ _ ⟨ler7,mxr8,clr9,nr10,sr11,mr12,tr13,dlr14,dhr15,bor16,rlr17,rhr18,ber19,enr20,xr21,zr22,rfl,rfl,_⟩;exact yD 3 [] [[],[],[],[],[],[],[2]] (List.range 7)<| yV 3 (c34 k (by omega))<| yJ 10 9 (k+1)<| yK 0 [0,1,2] (ih6 ((k+1),(IntKind.i64.wrap (↑(BitVec.ofInt IntKind.i64.bits Kr ||| BitVec.ofInt IntKind.i64.bits (bitI k)).toNat:Int)),ler7,mxr8,clr9,nr10,sr11,mr12,tr13,dlr14,dhr15,bor16,rlr17,rhr18,ber19,enr20,xr21,zr22) (by exact ⟨by omega,by omega,knd_take (by omega) (by omega) (by assumption) (selT hK (by omega) (by omega) (by assumption)),by assumption⟩) (by (try dsimp only);omega))
   exact yJ 13 9 (k+1)<| yK 0 [0,1,2] (ih6 ((k+1),Kr,ler,mxr,clr,nr,sr,mr,tr,dlr,dhr,bor,rlr,rhr,ber,enr,xr,zr) (by exact ⟨by omega,by omega,knd_skip (by assumption) (selN hK (by omega) (by omega) (by assumption)),RParts.skip (by assumption) (selN hK (by omega) (by omega) (by assumption))⟩) (by (try dsimp only);omega))
  exact yJ 21 9 (k+1)<| yK 0 [0,1,2] (ih6 ((k+1),Kr,ler,mxr,clr,nr,sr,mr,tr,dlr,dhr,bor,rlr,rhr,ber,enr,xr,zr) (by exact ⟨by omega,by omega,knd_skip (by assumption) (sel0 (by omega)),RParts.skip (by assumption) (sel0 (by omega))⟩) (by (try dsimp only);omega))
 refine yF 7 (a [i Kr,i ler,i mxr,i clr,.p (.vl (.string ber)),.p (.vl (.string enr)),i nr,i sr,i mr,i tr,i dlr,i dhr,i bor,i rlr,i rhr,.p xr,.p zr,b e]) ?_
 (obtain rfl:k=6:=by omega);(obtain ⟨f1,f2,f3,f4,f5,w',D',f6,f7,f8,f9⟩:=RParts.fin (by assumption));exact ⟨_,_,_,_,_,_,_,_,_,_,_,_,_,_,_,_,_,w',D',rfl,knd6 (by assumption),f1,f2,f3,f4,f5,f6,f7,f8,f9⟩
theorem orK {p1 p2 p3 p4 p5:Bool} {K:Int} (h:K=kndI p1 p2 p3 p4 p5):IntKind.i64.wrap (↑(BitVec.ofInt IntKind.i64.bits 0 ||| BitVec.ofInt IntKind.i64.bits K).toNat:Int)=K:=by
 rw [h];cases p1<;>cases p2<;>cases p3<;>cases p4<;>cases p5<;>rfl
theorem orB {p:Bool} {bo:Int} (h:BoP p bo):IntKind.i64.wrap (↑(BitVec.ofInt IntKind.i64.bits 0 ||| BitVec.ofInt IntKind.i64.bits bo).toNat:Int)=bo:=by
 have h':bo=0∨bo=1∨bo=2∨bo=3:=by unfold BoP at h;split at h<;>omega
 rcases h' with rfl | rfl | rfl | rfl<;>rfl
theorem c209_3 (p:Bool) (n s m t:Int) (h:NumP p n s m t):ValC Tryz.prog GG 209 [a [i 1,i 0,i 0,i 0],a [i n,i s,i m,i t]] (fun r=>r=a [i n,i s,i m,i t]):=by
 rcases h with ⟨rfl,h⟩ | ⟨rfl,rfl,rfl,rfl,rfl⟩
 ·exact c209_w2 n s m t h (.inl ⟨rfl,h⟩) (.inr ⟨rfl,rfl,rfl,rfl,rfl⟩)
 exact kv (by kernel_rfl)
theorem c218_3 (p:Bool) (M l h:Int) (hp:SpP p M l h):ValC Tryz.prog GG 218 [a [i 1,i 0],a [i l,i h]] (fun r=>r=a [i l,i h]):=by
 refine (c218 1 0 l h).mono ?_;rintro r ⟨l',h',rfl,-,k1,-,k2⟩;cases p
 ·obtain ⟨rfl,rfl⟩:=hp;obtain ⟨rfl,rfl⟩:=k2 (by omega) (by omega);rfl
 obtain ⟨g0,g1,-⟩:=hp;obtain ⟨rfl,rfl⟩:=k1 (by omega) (by omega);rfl
theorem c39_1 (p1 p2 p3 p4 p5 e:Bool) (K le mx cl:Int) (be en:ByteArray) (n s m t dl dh bo rl rh:Int) (x z:PV) (w:Nat) (D:List Dp) (hK:K=kndI p1 p2 p3 p4 p5) (h1:ShP p1 le mx cl be en) (h2:NumP p2 n s m t) (h3:SpP p3 3652058 dl dh) (h4:BoP p4 bo) (h5:SpP p5 100 rl rh) (hx:IsS encS (abcL.take w) x) (hw:w≤3) (hz:IsS encD D z) (hD:D.length≤1000):ValC Tryz.prog GG 39 [a [i (IntKind.i64.wrap (↑(BitVec.ofInt IntKind.i64.bits 0 ||| BitVec.ofInt IntKind.i64.bits K).toNat:Int)),i le,i mx,i cl,sv be,sv en,i n,i s,i m,i t,i dl,i dh,i (IntKind.i64.wrap (↑(BitVec.ofInt IntKind.i64.bits 0 ||| BitVec.ofInt IntKind.i64.bits bo).toNat:Int)),i rl,i rh,.p x,.p z,b e]] (fun r=>∃(K' le' mx' cl':Int) (be' en':ByteArray) (n' s' m' t' dl' dh' bo' rl' rh':Int) (x' z':PV) (w':Nat) (D':List Dp),r=a [i K',i le',i mx',i cl',sv be',sv en',i n',i s',i m',i t',i dl',i dh',i bo',i rl',i rh',.p x',.p z',b e]∧K'=kndI p1 p2 p3 p4 p5∧ShP p1 le' mx' cl' be' en'∧NumP p2 n' s' m' t'∧SpP p3 3652058 dl' dh'∧BoP p4 bo'∧SpP p5 100 rl' rh'∧IsS encS (abcL.take w') x'∧w'≤3∧IsS encD D' z'∧D'.length≤D.length):=by
 rw [orK hK,orB h4];exact c39 p1 p2 p3 p4 p5 e K le mx cl be en n s m t dl dh bo rl rh x z w D hK h1 h2 h3 h4 h5 hx hw hz hD
theorem c39_2:ValC Tryz.prog GG 39 [a [i 0,i 1,i 0,i 0,sv ⟨#[]⟩,sv ⟨#[]⟩,i 1,i 0,i 0,i 0,i 1,i 0,i 0,i 1,i 0,nl,nl,b false]] (fun r=>r=a [i 0,i 1,i 0,i 0,sv ⟨#[]⟩,sv ⟨#[]⟩,i 1,i 0,i 0,i 0,i 1,i 0,i 0,i 1,i 0,nl,nl,b false]):=kv (by kernel_rfl)
theorem c87 (p1 p2 p3 p4 p5 e:Bool) (K le mx cl:Int) (be en:ByteArray) (n s m t dl dh bo rl rh:Int) (x z:PV) (w:Nat) (D:List Dp) (hK:K=kndI p1 p2 p3 p4 p5) (h1:ShP p1 le mx cl be en) (h2:NumP p2 n s m t) (h3:SpP p3 3652058 dl dh) (h4:BoP p4 bo) (h5:SpP p5 100 rl rh) (hx:IsS encS (abcL.take w) x) (hw:w≤3) (hz:IsS encD D z) (hD:D.length≤1000):ValC Tryz.prog GG 87 [a [i 0,i 1,i 0,i 0,sv ⟨#[]⟩,sv ⟨#[]⟩,i 1,i 0,i 0,i 0,i 1,i 0,i 0,i 1,i 0,nl,nl,b false],a [i K,i le,i mx,i cl,sv be,sv en,i n,i s,i m,i t,i dl,i dh,i bo,i rl,i rh,.p x,.p z,b e]] (fun r=>∃(K' le' mx' cl':Int) (be' en':ByteArray) (n' s' m' t' dl' dh' bo' rl' rh':Int) (x' z':PV) (w':Nat) (D':List Dp),r=a [i K',i le',i mx',i cl',sv be',sv en',i n',i s',i m',i t',i dl',i dh',i bo',i rl',i rh',.p x',.p z',b e]∧K'=kndI p1 p2 p3 p4 p5∧ShP p1 le' mx' cl' be' en'∧NumP p2 n' s' m' t'∧SpP p3 3652058 dl' dh'∧BoP p4 bo'∧SpP p5 100 rl' rh'∧IsS encS (abcL.take w') x'∧w'≤3∧IsS encD D' z'∧D'.length≤D.length):=by
 refine vX (fn:=Tryz.f87)<| yD 7 [] [[],[],[],[],[0],[1]] [0,2,1,3,4,5]<| yV 2 c39_2<| yC 0 (c39 p1 p2 p3 p4 p5 e _ le mx cl be en n s m t dl dh bo rl rh _ _ w _ hK (by omega) (by omega) (by omega) (by omega) (by omega) hx (by omega) hz (by omega)) ?_
 rintro _ ⟨K0,le1,mx2,cl3,be4,en5,n6,s7,m8,t9,dl10,dh11,bo12,rl13,rh14,x15,z16,w17,D18,rfl,hq19,hq20,hq21,hq22,_,hq24,hq25,_,hq27,_⟩;refine yU 4 [0,1,2] 99 (pT Tryz.f87 [1,1,0]) [(2,o (.ref 0 0)),(3,o (.ref 1 0)),(4,o (.ref 2 0))] [.cells [i 0,i 1,i 0,i 0,.p (.vl (vs [])),.p (.vl (vs [])),i 1,i 0,i 0,i 0,i 1,i 0,i 0,i 1,i 0,nl,nl,b false] false,.cells [i K0,i le1,i mx2,i cl3,.p (.vl (.string be4)),.p (.vl (.string en5)),i n6,i s7,i m8,i t9,i dl10,i dh11,i bo12,i rl13,i rh14,.p x15,.p z16,b e] false,.cells [i 0,i 0,i 0,i 0,.p (.vl (vs [])),.p (.vl (vs [])),i 0,i 0,i 0,i 0,i 0,i 0,i 0,i 0,i 0,nl,nl,b false] false] fun J=> ?_;refine Fin.drawW wf mix (ops:=opsAt (Bd Tryz.f87) [1,1,0]) (todo':=(pT Tryz.f87 [1,1,0]).tail) [[],[],[],[],[],[],[],[],[],[],[],[],[],[],[],[],[],[],[],[],[],[],[],[],[],[],[],[],[],[],[],[],[],[],[],[],[],[3],[3]] (by kernel_rfl) (by kernel_rfl) (by kernel_rfl) ?_;refine DW.adv louW 9 (l':=(List.range' 9 30)) (st':=⟨regsOf 99 [(2,o (.ref 0 0)),(3,o (.ref 1 0)),(4,o (.ref 2 0)),(12,o (.ref 0 0)),(13,o (i 0)),(14,o (.ref 1 0)),(15,o (i K0)),(16,o (i (IntKind.i64.wrap (↑(BitVec.ofInt IntKind.i64.bits 0 ||| BitVec.ofInt IntKind.i64.bits K0).toNat:Int)))),(17,o (.ref 0 1)),(18,a [i 1,i 0,i 0,.p (.vl (vs [])),.p (.vl (vs []))]),(19,o (.ref 1 1)),(20,a [i le1,i mx2,i cl3,.p (.vl (.string be4)),.p (.vl (.string en5))])] J,[.cells [i 0,i 1,i 0,i 0,.p (.vl (vs [])),.p (.vl (vs [])),i 1,i 0,i 0,i 0,i 1,i 0,i 0,i 1,i 0,nl,nl,b false] false,.cells [i K0,i le1,i mx2,i cl3,.p (.vl (.string be4)),.p (.vl (.string en5)),i n6,i s7,i m8,i t9,i dl10,i dh11,i bo12,i rl13,i rh14,.p x15,.p z16,b e] false,.cells [i 0,i 0,i 0,i 0,.p (.vl (vs [])),.p (.vl (vs [])),i 0,i 0,i 0,i 0,i 0,i 0,i 0,i 0,i 0,nl,nl,b false] false,.gone]⟩) (by kernel_rfl) ?_;refine DW.call louW (g:=207) (ags:=[a [i 1,i 0,i 0,.p (.vl (vs [])),.p (.vl (vs []))],a [i le1,i mx2,i cl3,.p (.vl (.string be4)),.p (.vl (.string en5))]]) (ts:=[]) (dst:=(some 21)) (r:=a [i le1,i mx2,i cl3,.p (.vl (.string be4)),.p (.vl (.string en5))]) (is:=(List.range' 10 29)) (by kernel_rfl) (c207 _ _ _ _ _ _ hq20) ?_;refine DW.adv louW 4 (l':=(List.range' 14 25)) (st':=⟨regsOf 99 [(2,o (.ref 0 0)),(3,o (.ref 1 0)),(4,o (.ref 2 0)),(12,o (.ref 0 0)),(13,o (i 0)),(14,o (.ref 1 0)),(15,o (i K0)),(16,o (i (IntKind.i64.wrap (↑(BitVec.ofInt IntKind.i64.bits 0 ||| BitVec.ofInt IntKind.i64.bits K0).toNat:Int)))),(17,o (.ref 0 1)),(18,a [i 1,i 0,i 0,.p (.vl (vs [])),.p (.vl (vs []))]),(19,o (.ref 1 1)),(20,a [i le1,i mx2,i cl3,.p (.vl (.string be4)),.p (.vl (.string en5))]),(21,a [i le1,i mx2,i cl3,.p (.vl (.string be4)),.p (.vl (.string en5))]),(22,o (.ref 0 6)),(23,a [i 1,i 0,i 0,i 0]),(24,o (.ref 1 6)),(25,a [i n6,i s7,i m8,i t9])] J,[.cells [i 0,i 1,i 0,i 0,.p (.vl (vs [])),.p (.vl (vs [])),i 1,i 0,i 0,i 0,i 1,i 0,i 0,i 1,i 0,nl,nl,b false] false,.cells [i K0,i le1,i mx2,i cl3,.p (.vl (.string be4)),.p (.vl (.string en5)),i n6,i s7,i m8,i t9,i dl10,i dh11,i bo12,i rl13,i rh14,.p x15,.p z16,b e] false,.cells [i 0,i 0,i 0,i 0,.p (.vl (vs [])),.p (.vl (vs [])),i 0,i 0,i 0,i 0,i 0,i 0,i 0,i 0,i 0,nl,nl,b false] false,.gone]⟩) (by kernel_rfl) ?_;refine DW.call louW (g:=209) (ags:=[a [i 1,i 0,i 0,i 0],a [i n6,i s7,i m8,i t9]]) (ts:=[]) (dst:=(some 26)) (r:=a [i n6,i s7,i m8,i t9]) (is:=(List.range' 15 24)) (by kernel_rfl) (c209_3 _ _ _ _ _ hq21) ?_;refine DW.adv louW 4 (l':=(List.range' 19 20)) (st':=⟨regsOf 99 [(2,o (.ref 0 0)),(3,o (.ref 1 0)),(4,o (.ref 2 0)),(12,o (.ref 0 0)),(13,o (i 0)),(14,o (.ref 1 0)),(15,o (i K0)),(16,o (i (IntKind.i64.wrap (↑(BitVec.ofInt IntKind.i64.bits 0 ||| BitVec.ofInt IntKind.i64.bits K0).toNat:Int)))),(17,o (.ref 0 1)),(18,a [i 1,i 0,i 0,.p (.vl (vs [])),.p (.vl (vs []))]),(19,o (.ref 1 1)),(20,a [i le1,i mx2,i cl3,.p (.vl (.string be4)),.p (.vl (.string en5))]),(21,a [i le1,i mx2,i cl3,.p (.vl (.string be4)),.p (.vl (.string en5))]),(22,o (.ref 0 6)),(23,a [i 1,i 0,i 0,i 0]),(24,o (.ref 1 6)),(25,a [i n6,i s7,i m8,i t9]),(26,a [i n6,i s7,i m8,i t9]),(27,o (.ref 0 10)),(28,a [i 1,i 0]),(29,o (.ref 1 10)),(30,a [i dl10,i dh11])] J,[.cells [i 0,i 1,i 0,i 0,.p (.vl (vs [])),.p (.vl (vs [])),i 1,i 0,i 0,i 0,i 1,i 0,i 0,i 1,i 0,nl,nl,b false] false,.cells [i K0,i le1,i mx2,i cl3,.p (.vl (.string be4)),.p (.vl (.string en5)),i n6,i s7,i m8,i t9,i dl10,i dh11,i bo12,i rl13,i rh14,.p x15,.p z16,b e] false,.cells [i 0,i 0,i 0,i 0,.p (.vl (vs [])),.p (.vl (vs [])),i 0,i 0,i 0,i 0,i 0,i 0,i 0,i 0,i 0,nl,nl,b false] false,.gone]⟩) (by kernel_rfl) ?_;refine DW.call louW (g:=218) (ags:=[a [i 1,i 0],a [i dl10,i dh11]]) (ts:=[]) (dst:=(some 31)) (r:=a [i dl10,i dh11]) (is:=(List.range' 20 19)) (by kernel_rfl) (c218_3 _ _ _ _ hq22) ?_;refine DW.adv louW 9 (l':=(List.range' 29 10)) (st':=⟨regsOf 99 [(2,o (.ref 0 0)),(3,o (.ref 1 0)),(4,o (.ref 2 0)),(12,o (.ref 0 0)),(13,o (i 0)),(14,o (.ref 1 0)),(15,o (i K0)),(16,o (i (IntKind.i64.wrap (↑(BitVec.ofInt IntKind.i64.bits 0 ||| BitVec.ofInt IntKind.i64.bits K0).toNat:Int)))),(17,o (.ref 0 1)),(18,a [i 1,i 0,i 0,.p (.vl (vs [])),.p (.vl (vs []))]),(19,o (.ref 1 1)),(20,a [i le1,i mx2,i cl3,.p (.vl (.string be4)),.p (.vl (.string en5))]),(21,a [i le1,i mx2,i cl3,.p (.vl (.string be4)),.p (.vl (.string en5))]),(22,o (.ref 0 6)),(23,a [i 1,i 0,i 0,i 0]),(24,o (.ref 1 6)),(25,a [i n6,i s7,i m8,i t9]),(26,a [i n6,i s7,i m8,i t9]),(27,o (.ref 0 10)),(28,a [i 1,i 0]),(29,o (.ref 1 10)),(30,a [i dl10,i dh11]),(31,a [i dl10,i dh11]),(32,o (.ref 0 12)),(33,o (i 0)),(34,o (.ref 1 12)),(35,o (i bo12)),(36,o (i (IntKind.i64.wrap (↑(BitVec.ofInt IntKind.i64.bits 0 ||| BitVec.ofInt IntKind.i64.bits bo12).toNat:Int)))),(37,o (.ref 0 13)),(38,a [i 1,i 0]),(39,o (.ref 1 13)),(40,a [i rl13,i rh14])] J,[.cells [i 0,i 1,i 0,i 0,.p (.vl (vs [])),.p (.vl (vs [])),i 1,i 0,i 0,i 0,i 1,i 0,i 0,i 1,i 0,nl,nl,b false] false,.cells [i K0,i le1,i mx2,i cl3,.p (.vl (.string be4)),.p (.vl (.string en5)),i n6,i s7,i m8,i t9,i dl10,i dh11,i bo12,i rl13,i rh14,.p x15,.p z16,b e] false,.cells [i 0,i 0,i 0,i 0,.p (.vl (vs [])),.p (.vl (vs [])),i 0,i 0,i 0,i 0,i 0,i 0,i 0,i 0,i 0,nl,nl,b false] false,.gone]⟩) (by kernel_rfl) ?_;refine DW.call louW (g:=218) (ags:=[a [i 1,i 0],a [i rl13,i rh14]]) (ts:=[]) (dst:=(some 41)) (r:=a [i rl13,i rh14]) (is:=(List.range' 30 9)) (by kernel_rfl) (c218_3 _ _ _ _ hq24) ?_;refine DW.adv louW 9 (l':=[]) (st':=⟨regsOf 99 [(2,o (.ref 0 0)),(3,o (.ref 1 0)),(4,o (.ref 2 0)),(5,o (.ref 3 0)),(12,o (.ref 0 0)),(13,o (i 0)),(14,o (.ref 1 0)),(15,o (i K0)),(16,o (i (IntKind.i64.wrap (↑(BitVec.ofInt IntKind.i64.bits 0 ||| BitVec.ofInt IntKind.i64.bits K0).toNat:Int)))),(17,o (.ref 0 1)),(18,a [i 1,i 0,i 0,.p (.vl (vs [])),.p (.vl (vs []))]),(19,o (.ref 1 1)),(20,a [i le1,i mx2,i cl3,.p (.vl (.string be4)),.p (.vl (.string en5))]),(21,a [i le1,i mx2,i cl3,.p (.vl (.string be4)),.p (.vl (.string en5))]),(22,o (.ref 0 6)),(23,a [i 1,i 0,i 0,i 0]),(24,o (.ref 1 6)),(25,a [i n6,i s7,i m8,i t9]),(26,a [i n6,i s7,i m8,i t9]),(27,o (.ref 0 10)),(28,a [i 1,i 0]),(29,o (.ref 1 10)),(30,a [i dl10,i dh11]),(31,a [i dl10,i dh11]),(32,o (.ref 0 12)),(33,o (i 0)),(34,o (.ref 1 12)),(35,o (i bo12)),(36,o (i (IntKind.i64.wrap (↑(BitVec.ofInt IntKind.i64.bits 0 ||| BitVec.ofInt IntKind.i64.bits bo12).toNat:Int)))),(37,o (.ref 0 13)),(38,a [i 1,i 0]),(39,o (.ref 1 13)),(40,a [i rl13,i rh14]),(41,a [i rl13,i rh14]),(42,o (.ref 0 17)),(43,o (b false)),(44,o (b false)),(45,o (.ref 1 17)),(46,o (b e)),(47,o (b e)),(48,a [i (IntKind.i64.wrap (↑(BitVec.ofInt IntKind.i64.bits 0 ||| BitVec.ofInt IntKind.i64.bits K0).toNat:Int)),i le1,i mx2,i cl3,.p (.vl (.string be4)),.p (.vl (.string en5)),i n6,i s7,i m8,i t9,i dl10,i dh11,i (IntKind.i64.wrap (↑(BitVec.ofInt IntKind.i64.bits 0 ||| BitVec.ofInt IntKind.i64.bits bo12).toNat:Int)),i rl13,i rh14,nl,nl,b e])] J,[.cells [i 0,i 1,i 0,i 0,.p (.vl (vs [])),.p (.vl (vs [])),i 1,i 0,i 0,i 0,i 1,i 0,i 0,i 1,i 0,nl,nl,b false] false,.cells [i K0,i le1,i mx2,i cl3,.p (.vl (.string be4)),.p (.vl (.string en5)),i n6,i s7,i m8,i t9,i dl10,i dh11,i bo12,i rl13,i rh14,.p x15,.p z16,b e] false,.cells [i 0,i 0,i 0,i 0,.p (.vl (vs [])),.p (.vl (vs [])),i 0,i 0,i 0,i 0,i 0,i 0,i 0,i 0,i 0,nl,nl,b false] false,.cells [i (IntKind.i64.wrap (↑(BitVec.ofInt IntKind.i64.bits 0 ||| BitVec.ofInt IntKind.i64.bits K0).toNat:Int)),i le1,i mx2,i cl3,.p (.vl (.string be4)),.p (.vl (.string en5)),i n6,i s7,i m8,i t9,i dl10,i dh11,i (IntKind.i64.wrap (↑(BitVec.ofInt IntKind.i64.bits 0 ||| BitVec.ofInt IntKind.i64.bits bo12).toNat:Int)),i rl13,i rh14,nl,nl,b e] false]⟩) (by kernel_rfl) (DW.done ?_);refine yX<| yV 5 (kv (f:=219) (args:=[a [i 0,i 1,i 0,i 0,.p (.vl (vs [])),.p (.vl (vs [])),i 1,i 0,i 0,i 0,i 1,i 0,i 0,i 1,i 0,nl,nl,b false],o (i 5)]) (r:=o (b false)) (by kernel_rfl))<| yD 4 [[],[],[3],[3]] [[],[],[],[],[],[3],[],[3]] (List.range 8)<| yC 13 (c39_1 p1 p2 p3 p4 p5 e _ le1 mx2 cl3 be4 en5 n6 s7 m8 t9 dl10 dh11 bo12 rl13 rh14 _ _ w17 _ hq19 (by omega) (by omega) (by omega) (by omega) (by omega) hq25 (by omega) hq27 (by omega)) ?_
 rintro _ ⟨K29,le30,mx31,cl32,be33,en34,n35,s36,m37,t38,dl39,dh40,bo41,rl42,rh43,x44,z45,w46,D47,rfl,_,_,_,_,_,_,_,_,_,_⟩;exact yF 2 (a [i K29,i le30,i mx31,i cl32,.p (.vl (.string be33)),.p (.vl (.string en34)),i n35,i s36,i m37,i t38,i dl39,i dh40,i bo41,i rl42,i rh43,.p x44,.p z45,b e])<| ⟨_,_,_,_,_,_,_,_,_,_,_,_,_,_,_,_,_,_,_,rfl,by assumption,by assumption,by assumption,by assumption,by assumption,by assumption,by assumption,by omega,by assumption,by omega⟩
theorem c48 (p1 p2 p3 p4 p5 e:Bool) (K le mx cl:Int) (be en:ByteArray) (n s m t dl dh bo rl rh:Int) (x z:PV) (w:Nat) (D:List Dp) (hK:K=kndI p1 p2 p3 p4 p5) (h1:ShP p1 le mx cl be en) (h2:NumP p2 n s m t) (h3:SpP p3 3652058 dl dh) (h4:BoP p4 bo) (h5:SpP p5 100 rl rh) (hx:IsS encS (abcL.take w) x) (hw:w≤3) (hz:IsS encD D z) (hD:D.length≤1000):ValC Tryz.prog GG 48 [a [i K,i le,i mx,i cl,sv be,sv en,i n,i s,i m,i t,i dl,i dh,i bo,i rl,i rh,.p x,.p z,b e]] (fun r=>∃(K' le' mx' cl':Int) (be' en':ByteArray) (n' s' m' t' dl' dh' bo' rl' rh':Int) (x' z':PV) (w':Nat) (D':List Dp),r=a [i K',i le',i mx',i cl',sv be',sv en',i n',i s',i m',i t',i dl',i dh',i bo',i rl',i rh',.p x',.p z',b e]∧K'=kndI p1 p2 p3 p4 p5∧ShP p1 le' mx' cl' be' en'∧NumP p2 n' s' m' t'∧SpP p3 3652058 dl' dh'∧BoP p4 bo'∧SpP p5 100 rl' rh'∧IsS encS (abcL.take w') x'∧w'≤3∧IsS encD D' z'∧D'.length≤D.length):=by
 refine vX (fn:=Tryz.f48)<| yD 6 [] [[],[],[],[1]] [1,0,2,3]<| yV 1 (kv (f:=7) (args:=[]) (r:=a [i 0,i 1,i 0,i 0,.p (.vl (vs [])),.p (.vl (vs [])),i 1,i 0,i 0,i 0,i 1,i 0,i 0,i 1,i 0,nl,nl,b false]) (by kernel_rfl))<| yC 0 (c87 p1 p2 p3 p4 p5 e _ le mx cl be en n s m t dl dh bo rl rh _ _ w _ hK (by omega) (by omega) (by omega) (by omega) (by omega) hx (by omega) hz (by omega)) ?_
 rintro _ ⟨K0,le1,mx2,cl3,be4,en5,n6,s7,m8,t9,dl10,dh11,bo12,rl13,rh14,x15,z16,w17,D18,rfl,_,_,_,_,_,_,_,_,_,_⟩;exact yF 2 (a [i K0,i le1,i mx2,i cl3,.p (.vl (.string be4)),.p (.vl (.string en5)),i n6,i s7,i m8,i t9,i dl10,i dh11,i bo12,i rl13,i rh14,.p x15,.p z16,b e])<| ⟨_,_,_,_,_,_,_,_,_,_,_,_,_,_,_,_,_,_,_,rfl,by assumption,by assumption,by assumption,by assumption,by assumption,by assumption,by assumption,by omega,by assumption,by omega⟩
theorem and_kz {p1 p2 p3 p4 p5:Bool} {K:Int} (h:K=kndI p1 p2 p3 p4 p5) (k:Int):(p1 || p2 || p3 || p4 || p5)=false→IntKind.i64.wrap (↑(BitVec.ofInt IntKind.i64.bits K &&& BitVec.ofInt IntKind.i64.bits k).toNat:Int)=0:=by
 intro hf;rw [h]
 revert hf
 cases p1<;>cases p2<;>cases p3<;>cases p4<;>cases p5<;>simp [kndI]<;>rfl
theorem c43 (p1 p2 p3 p4 p5 e:Bool) (K le mx cl:Int) (be en:ByteArray) (n s m t dl dh bo rl rh:Int) (x z:PV) (w:Nat) (D:List Dp) (q:Int) (hK:K=kndI p1 p2 p3 p4 p5) (h1:ShP p1 le mx cl be en) (h2:NumP p2 n s m t) (h3:SpP p3 3652058 dl dh) (h4:BoP p4 bo) (h5:SpP p5 100 rl rh) (hx:IsS encS (abcL.take w) x) (hw:w≤3) (hz:IsS encD D z) (hD:D.length≤1000) (hq0:1≤q) (hq5:q≤5):ValC Tryz.prog GG 43 [a [i K,i le,i mx,i cl,sv be,sv en,i n,i s,i m,i t,i dl,i dh,i bo,i rl,i rh,.p x,.p z,b e],o (i q)] (fun r=>∃(K' le' mx' cl':Int) (be' en':ByteArray) (n' s' m' t' dl' dh' bo' rl' rh':Int) (x' z':PV) (e' oth:Bool),r= .tup [.agg [i K',i le',i mx',i cl',sv be',sv en',i n',i s',i m',i t',i dl',i dh',i bo',i rl',i rh',.p x',.p z',b e'],.one (b oth)]∧((p1 || p2 || p3 || p4 || p5)=false→K'=0)):=by
 refine vX (fn:=Tryz.f43)<| yC 9 (c48 p1 p2 p3 p4 p5 e _ le mx cl be en n s m t dl dh bo rl rh _ _ w _ hK (by omega) (by omega) (by omega) (by omega) (by omega) hx (by omega) hz (by omega)) ?_
 rintro _ ⟨K0,le1,mx2,cl3,be4,en5,n6,s7,m8,t9,dl10,dh11,bo12,rl13,rh14,x15,z16,w17,D18,rfl,_,_,_,_,_,_,_,_,_,_⟩;refine yV 5 (kv (f:=7) (args:=[]) (r:=a [i 0,i 1,i 0,i 0,.p (.vl (vs [])),.p (.vl (vs [])),i 1,i 0,i 0,i 0,i 1,i 0,i 0,i 1,i 0,nl,nl,b false]) (by kernel_rfl))<| yp 13 14 (q≥1)<| yp 4 17 (q≤5)<| yO 3 (binA Tryz.prog TT .shl 3 (Operand.const (Value.int IntKind.i64 1)) (.tmp 18) (o (i 1)) (o (i q))) (binA_shl (by omega)) ?_
 by_cases hb31:(IntKind.i64.wrap (↑(BitVec.ofInt IntKind.i64.bits K0 &&& BitVec.ofInt IntKind.i64.bits (IntKind.i64.wrap (1*2^min q.toNat 64))).toNat:Int)≠0)
 ·refine yE 18 27 ((bne_iff_ne.2 hb31:(IntKind.i64.wrap (↑(BitVec.ofInt IntKind.i64.bits K0 &&& BitVec.ofInt IntKind.i64.bits (IntKind.i64.wrap (1*2^min q.toNat 64))).toNat:Int) !=0)=true)) ob ?_
  by_cases hb32:(q=1)
  ·exact ye 11 29 q 1<| yD 9 [[],[1],[1],[1],[1],[1]] [[],[],[],[],[],[],[1]] (List.range 8)<| yF 9 (.tup [.agg [i (IntKind.i64.wrap (↑(BitVec.ofInt IntKind.i64.bits K0 &&& BitVec.ofInt IntKind.i64.bits (IntKind.i64.wrap (1*2^min q.toNat 64))).toNat:Int)),i le1,i mx2,i cl3,.p (.vl (.string be4)),.p (.vl (.string en5)),i 1,i 0,i 0,i 0,i 1,i 0,i 0,i 1,i 0,nl,nl,b false],.one (b (IntKind.i64.wrap (↑(BitVec.ofInt IntKind.i64.bits K0 &&& ~~~BitVec.ofInt IntKind.i64.bits (IntKind.i64.wrap (1*2^min q.toNat 64))).toNat:Int) !=0))])<| ⟨_,_,_,_,_,_,_,_,_,_,_,_,_,_,_,_,_,_,_,rfl,and_kz (by assumption) _⟩
  refine yu 11 29 q 1 ?_
  by_cases hb33:(q=2)
  ·exact ye 6 34 q 2<| yD 9 [[],[1],[1],[1],[1],[1]] [[],[],[],[],[],[],[1]] (List.range 8)<| yF 9 (.tup [.agg [i (IntKind.i64.wrap (↑(BitVec.ofInt IntKind.i64.bits K0 &&& BitVec.ofInt IntKind.i64.bits (IntKind.i64.wrap (1*2^min q.toNat 64))).toNat:Int)),i 1,i 0,i 0,.p (.vl (vs [])),.p (.vl (vs [])),i n6,i s7,i m8,i t9,i 1,i 0,i 0,i 1,i 0,nl,nl,b false],.one (b (IntKind.i64.wrap (↑(BitVec.ofInt IntKind.i64.bits K0 &&& ~~~BitVec.ofInt IntKind.i64.bits (IntKind.i64.wrap (1*2^min q.toNat 64))).toNat:Int) !=0))])<| ⟨_,_,_,_,_,_,_,_,_,_,_,_,_,_,_,_,_,_,_,rfl,and_kz (by assumption) _⟩
  refine yu 6 34 q 2 ?_
  by_cases hb34:(q=3)
  ·exact ye 6 39 q 3<| yD 9 [[],[1],[1],[1],[1],[1]] [[],[],[],[],[],[],[1]] (List.range 8)<| yF 9 (.tup [.agg [i (IntKind.i64.wrap (↑(BitVec.ofInt IntKind.i64.bits K0 &&& BitVec.ofInt IntKind.i64.bits (IntKind.i64.wrap (1*2^min q.toNat 64))).toNat:Int)),i 1,i 0,i 0,.p (.vl (vs [])),.p (.vl (vs [])),i 1,i 0,i 0,i 0,i dl10,i dh11,i 0,i 1,i 0,nl,nl,b false],.one (b (IntKind.i64.wrap (↑(BitVec.ofInt IntKind.i64.bits K0 &&& ~~~BitVec.ofInt IntKind.i64.bits (IntKind.i64.wrap (1*2^min q.toNat 64))).toNat:Int) !=0))])<| ⟨_,_,_,_,_,_,_,_,_,_,_,_,_,_,_,_,_,_,_,rfl,and_kz (by assumption) _⟩
  refine yu 6 39 q 3 ?_
  by_cases hb35:(q=4)
  ·exact ye 6 44 q 4<| yD 9 [[],[1],[1],[1],[1],[1]] [[],[],[],[],[],[],[1]] (List.range 8)<| yF 9 (.tup [.agg [i (IntKind.i64.wrap (↑(BitVec.ofInt IntKind.i64.bits K0 &&& BitVec.ofInt IntKind.i64.bits (IntKind.i64.wrap (1*2^min q.toNat 64))).toNat:Int)),i 1,i 0,i 0,.p (.vl (vs [])),.p (.vl (vs [])),i 1,i 0,i 0,i 0,i 1,i 0,i bo12,i 1,i 0,nl,nl,b false],.one (b (IntKind.i64.wrap (↑(BitVec.ofInt IntKind.i64.bits K0 &&& ~~~BitVec.ofInt IntKind.i64.bits (IntKind.i64.wrap (1*2^min q.toNat 64))).toNat:Int) !=0))])<| ⟨_,_,_,_,_,_,_,_,_,_,_,_,_,_,_,_,_,_,_,rfl,and_kz (by assumption) _⟩
  refine yu 6 44 q 4 ?_;have:(q=5):=by omega
  exact ye 6 49 q 5<| yD 1 [[],[],[3],[3],[3],[3]] [[],[],[],[],[],[],[],[3],[],[3],[],[3]] (List.range 12)<| yD 15 [[],[1],[1],[1],[1],[1]] [[],[],[],[],[],[],[1]] (List.range 8)<| yF 9 (.tup [.agg [i (IntKind.i64.wrap (↑(BitVec.ofInt IntKind.i64.bits K0 &&& BitVec.ofInt IntKind.i64.bits (IntKind.i64.wrap (1*2^min q.toNat 64))).toNat:Int)),i 1,i 0,i 0,.p (.vl (vs [])),.p (.vl (vs [])),i 1,i 0,i 0,i 0,i 1,i 0,i 0,i rl13,i rh14,.p x15,.p z16,b false],.one (b (IntKind.i64.wrap (↑(BitVec.ofInt IntKind.i64.bits K0 &&& ~~~BitVec.ofInt IntKind.i64.bits (IntKind.i64.wrap (1*2^min q.toNat 64))).toNat:Int) !=0))])<| ⟨_,_,_,_,_,_,_,_,_,_,_,_,_,_,_,_,_,_,_,rfl,and_kz (by assumption) _⟩
 exact yE 18 27 ((bne_eq_false_iff_eq.2 (Decidable.not_not.1 hb31):(IntKind.i64.wrap (↑(BitVec.ofInt IntKind.i64.bits K0 &&& BitVec.ofInt IntKind.i64.bits (IntKind.i64.wrap (1*2^min q.toNat 64))).toNat:Int) !=0)=false)) ob<| yD 3 [[],[1],[1],[1],[1],[1]] [[],[],[],[],[],[],[1]] (List.range 8)<| yF 9 (.tup [.agg [i (IntKind.i64.wrap (↑(BitVec.ofInt IntKind.i64.bits K0 &&& BitVec.ofInt IntKind.i64.bits (IntKind.i64.wrap (1*2^min q.toNat 64))).toNat:Int)),i 1,i 0,i 0,.p (.vl (vs [])),.p (.vl (vs [])),i 1,i 0,i 0,i 0,i 1,i 0,i 0,i 1,i 0,nl,nl,b false],.one (b (IntKind.i64.wrap (↑(BitVec.ofInt IntKind.i64.bits K0 &&& ~~~BitVec.ofInt IntKind.i64.bits (IntKind.i64.wrap (1*2^min q.toNat 64))).toNat:Int) !=0))])<| ⟨_,_,_,_,_,_,_,_,_,_,_,_,_,_,_,_,_,_,_,rfl,and_kz (by assumption) _⟩
theorem knd_zero {p1 p2 p3 p4 p5:Bool} {K:Int} (h:K=kndI p1 p2 p3 p4 p5) (h0:K=0) (e:Bool):(!(p1 || p2 || p3 || p4 || p5 || e))= !e:=by
 rw [h0] at h
 revert h
 cases p1<;>cases p2<;>cases p3<;>cases p4<;>cases p5<;>simp [kndI]
theorem knd_nz {p1 p2 p3 p4 p5:Bool} {K:Int} (h:K=kndI p1 p2 p3 p4 p5) (h0:¬K=0) (e:Bool):(!(p1 || p2 || p3 || p4 || p5 || e))=false:=by
 revert h0;rw [h]
 cases p1<;>cases p2<;>cases p3<;>cases p4<;>cases p5<;>simp [kndI]
theorem c10 (p1 p2 p3 p4 p5 e:Bool) (K le mx cl:Int) (be en:ByteArray) (n s m t dl dh bo rl rh:Int) (x z:PV) (w:Nat) (D:List Dp) (hK:K=kndI p1 p2 p3 p4 p5) (h1:ShP p1 le mx cl be en) (h2:NumP p2 n s m t) (h3:SpP p3 3652058 dl dh) (h4:BoP p4 bo) (h5:SpP p5 100 rl rh) (hx:IsS encS (abcL.take w) x) (hw:w≤3) (hz:IsS encD D z) (hD:D.length≤1000):ValC Tryz.prog GG 10 [a [i K,i le,i mx,i cl,sv be,sv en,i n,i s,i m,i t,i dl,i dh,i bo,i rl,i rh,.p x,.p z,b e]] (fun r=>r=o (b (!(p1 || p2 || p3 || p4 || p5 || e)))):=by
 refine vX (fn:=Tryz.f10)<| yC 8 (c39 p1 p2 p3 p4 p5 e _ le mx cl be en n s m t dl dh bo rl rh _ _ w _ hK (by omega) (by omega) (by omega) (by omega) (by omega) hx (by omega) hz (by omega)) ?_
 rintro _ ⟨K0,le1,mx2,cl3,be4,en5,n6,s7,m8,t9,dl10,dh11,bo12,rl13,rh14,x15,z16,w17,D18,rfl,_,_,_,_,_,_,_,_,_,_⟩
 by_cases hb29:(K0=0)
 ·refine ye 9 9 K0 0<| yF 6 (o (b (!e))) ?_
  rw [knd_zero (by assumption) (by assumption)];done
 refine yu 9 9 K0 0<| yF 6 (o (b false)) ?_
 rw [knd_nz (by assumption) (by assumption)]
structure Ab where
 p1:Bool
 p2:Bool
 p3:Bool
 p4:Bool
 p5:Bool
 e:Bool
 K:Int
 le:Int
 mx:Int
 cl:Int
 n:Int
 s:Int
 m:Int
 t:Int
 dl:Int
 dh:Int
 bo:Int
 rl:Int
 rh:Int
 be:ByteArray
 en:ByteArray
 x:PV
 z:PV
 w:Nat
 D:List Dp
 hK:K=kndI p1 p2 p3 p4 p5
 h1:ShP p1 le mx cl be en
 h2:NumP p2 n s m t
 h3:SpP p3 3652058 dl dh
 h4:BoP p4 bo
 h5:SpP p5 100 rl rh
 hx:IsS encS (abcL.take w) x
 hw:w≤3
 hz:IsS encD D z
 hD:D.length≤300
def Ab.ne (v:Ab):Bool:=v.p1 || v.p2 || v.p3 || v.p4 || v.p5 || v.e
def Ab.vals (v:Ab):Bool:=v.p1 || v.p2 || v.p3 || v.p4 || v.p5
def Ab.none (f:Bool):Ab where
 p1:=false
 p2:=false
 p3:=false
 p4:=false
 p5:=false
 e:=f
 K:=0
 le:=1
 mx:=0
 cl:=0
 n:=1
 s:=0
 m:=0
 t:=0
 dl:=1
 dh:=0
 bo:=0
 rl:=1
 rh:=0
 be:=⟨#[]⟩
 en:=⟨#[]⟩
 x:=nlP
 z:=nlP
 w:=0
 D:=[]
 hK:=rfl
 h1:=shP_f rfl
 h2:=nmP_f rfl
 h3:=spP_f rfl
 h4:=boP_f rfl
 h5:=spP_f rfl
 hx:= .nil rfl
 hw:=by decide
 hz:= .nil rfl
 hD:=by decide
instance:Inhabited Ab:=⟨Ab.none false⟩
def encA (v:Ab):List PV:=[.vl (.int .i64 v.K),.vl (.int .i64 v.le),.vl (.int .i64 v.mx),.vl (.int .i64 v.cl),.vl (.string v.be),.vl (.string v.en),.vl (.int .i64 v.n),.vl (.int .i64 v.s),.vl (.int .i64 v.m),.vl (.int .i64 v.t),.vl (.int .i64 v.dl),.vl (.int .i64 v.dh),.vl (.int .i64 v.bo),.vl (.int .i64 v.rl),.vl (.int .i64 v.rh),v.x,v.z,.vl (.bool v.e)]
theorem c10_1 (v:Ab):ValC Tryz.prog GG 10 [a [i v.K,i v.le,i v.mx,i v.cl,sv v.be,sv v.en,i v.n,i v.s,i v.m,i v.t,i v.dl,i v.dh,i v.bo,i v.rl,i v.rh,.p v.x,.p v.z,b v.e]] (fun r=>r=o (b (!v.ne))):=c10 v.p1 v.p2 v.p3 v.p4 v.p5 v.e v.K v.le v.mx v.cl v.be v.en v.n v.s v.m v.t v.dl v.dh v.bo v.rl v.rh v.x v.z v.w v.D v.hK v.h1 v.h2 v.h3 v.h4 v.h5 v.hx v.hw v.hz (by have:=v.hD;omega)
theorem c43_1 (v:Ab) (q:Int) (hq0:1≤q) (hq5:q≤5):ValC Tryz.prog GG 43 [a [i v.K,i v.le,i v.mx,i v.cl,sv v.be,sv v.en,i v.n,i v.s,i v.m,i v.t,i v.dl,i v.dh,i v.bo,i v.rl,i v.rh,.p v.x,.p v.z,b v.e],o (i q)] (fun r=>∃(K' le' mx' cl':Int) (be' en':ByteArray) (n' s' m' t' dl' dh' bo' rl' rh':Int) (x' z':PV) (e' oth:Bool),r= .tup [.agg [i K',i le',i mx',i cl',sv be',sv en',i n',i s',i m',i t',i dl',i dh',i bo',i rl',i rh',.p x',.p z',b e'],.one (b oth)]∧(v.vals=false→K'=0)):=c43 v.p1 v.p2 v.p3 v.p4 v.p5 v.e v.K v.le v.mx v.cl v.be v.en v.n v.s v.m v.t v.dl v.dh v.bo v.rl v.rh v.x v.z v.w v.D q v.hK v.h1 v.h2 v.h3 v.h4 v.h5 v.hx v.hw v.hz (by have:=v.hD;omega) hq0 hq5
instance:Wid encA 18:=⟨fun _=>rfl⟩
end Go.Sx.E1
namespace Go.Sx.E1
open Go.Proofs
structure CRow where
 x:PV
 R:List ByteArray
 h:IsS encS R x
instance:Inhabited CRow:=⟨⟨nlP,[],.nil rfl⟩⟩
def encCR (r:CRow):List PV:=[r.x]
def crow (l:List ByteArray):CRow:=⟨.sl l.length (l.flatMap encS),l,.sl⟩
def callsL:List CRow:=[crow [⟨#[99,111,108]⟩,⟨#[110,97,109,101]⟩],crow [⟨#[99,111,108]⟩,⟨#[97,109,111,117,110,116]⟩],crow [⟨#[99,111,108]⟩,⟨#[100,97,121]⟩],crow [⟨#[99,111,108]⟩,⟨#[111,116,104,101,114]⟩],crow [⟨#[116,101,120,116]⟩,⟨#[97,98]⟩],crow [⟨#[110,117,109,98,101,114]⟩,⟨#[45,51,46,53]⟩],crow [⟨#[100,97,116,101]⟩,⟨#[50,48,50,52,45,48,49,45,51,49]⟩],crow [⟨#[98,111,111,108]⟩,⟨#[49]⟩],crow [⟨#[99,111,110,99,97,116]⟩,⟨#[]⟩,⟨#[49]⟩,⟨#[49]⟩],crow [⟨#[117,112,112,101,114]⟩,⟨#[]⟩,⟨#[49]⟩],crow [⟨#[108,111,119,101,114]⟩,⟨#[]⟩,⟨#[49]⟩],crow [⟨#[116,114,105,109]⟩,⟨#[]⟩,⟨#[49]⟩],crow [⟨#[101,120,116,114,97,99,116]⟩,⟨#[92,100,43,35,49]⟩,⟨#[49]⟩],crow [⟨#[101,120,116,114,97,99,116]⟩,⟨#[92,97,43,35,50]⟩,⟨#[49]⟩],crow [⟨#[101,120,116,114,97,99,116]⟩,⟨#[97,92,111,42,35,49]⟩,⟨#[49]⟩],crow [⟨#[108,101,110,103,116,104]⟩,⟨#[]⟩,⟨#[49]⟩],crow [⟨#[112,97,114,115,101]⟩,⟨#[]⟩,⟨#[49]⟩],crow [⟨#[112,114,105,110,116]⟩,⟨#[]⟩,⟨#[50]⟩],crow [⟨#[97,100,100]⟩,⟨#[]⟩,⟨#[50]⟩,⟨#[50]⟩],crow [⟨#[115,117,98]⟩,⟨#[]⟩,⟨#[50]⟩,⟨#[50]⟩],crow [⟨#[109,117,108]⟩,⟨#[]⟩,⟨#[50]⟩,⟨#[50]⟩],crow [⟨#[114,111,117,110,100]⟩,⟨#[48]⟩,⟨#[50]⟩],crow [⟨#[114,111,117,110,100]⟩,⟨#[50]⟩,⟨#[50]⟩],crow [⟨#[114,101,97,100]⟩,⟨#[89,89,89,89,45,77,77,45,68,68]⟩,⟨#[49]⟩],crow [⟨#[115,104,111,119]⟩,⟨#[68,46,77,46,89,89,89,89]⟩,⟨#[51]⟩],crow [⟨#[115,104,111,119]⟩,⟨#[89,89,89,89,45,77,77,45,68,68]⟩,⟨#[51]⟩],crow [⟨#[100,97,121,115]⟩,⟨#[]⟩,⟨#[51]⟩,⟨#[50]⟩],crow [⟨#[98,101,116,119,101,101,110]⟩,⟨#[]⟩,⟨#[51]⟩,⟨#[51]⟩],crow [⟨#[101,113,117,97,108]⟩,⟨#[116,101,120,116]⟩,⟨#[49]⟩,⟨#[49]⟩],crow [⟨#[101,113,117,97,108]⟩,⟨#[110,117,109,98,101,114]⟩,⟨#[50]⟩,⟨#[50]⟩],crow [⟨#[101,113,117,97,108]⟩,⟨#[100,97,116,101]⟩,⟨#[51]⟩,⟨#[51]⟩],crow [⟨#[98,101,102,111,114,101]⟩,⟨#[]⟩,⟨#[51]⟩,⟨#[51]⟩],crow [⟨#[108,101,115,115]⟩,⟨#[]⟩,⟨#[50]⟩,⟨#[50]⟩],crow [⟨#[109,97,116,99,104]⟩,⟨#[92,100,123,52,125,45,92,100,43,45,92,100,43]⟩,⟨#[49]⟩],crow [⟨#[109,97,116,99,104]⟩,⟨#[92,108,42]⟩,⟨#[49]⟩],crow [⟨#[110,111,116]⟩,⟨#[]⟩,⟨#[52]⟩],crow [⟨#[97,110,100]⟩,⟨#[]⟩,⟨#[52]⟩,⟨#[52]⟩],crow [⟨#[105,102]⟩,⟨#[110,117,109,98,101,114]⟩,⟨#[52]⟩,⟨#[50]⟩,⟨#[50]⟩],crow [⟨#[105,102]⟩,⟨#[116,101,120,116]⟩,⟨#[52]⟩,⟨#[49]⟩,⟨#[49]⟩],crow [⟨#[108,111,111,107,117,112]⟩,⟨#[116,46,99,105,116,121,46,122,105,112,58,110,117,109,98,101,114]⟩,⟨#[49]⟩],crow [⟨#[108,111,111,107,117,112]⟩,⟨#[116,46,99,105,116,121,46,99,105,116,121,58,116,101,120,116]⟩,⟨#[49]⟩],crow [⟨#[116,97,98,108,101]⟩,⟨#[116]⟩],crow [⟨#[119,104,101,114,101]⟩,⟨#[97]⟩,⟨#[53]⟩,⟨#[49]⟩],crow [⟨#[119,104,101,114,101]⟩,⟨#[99,105,116,121]⟩,⟨#[53]⟩,⟨#[49]⟩],crow [⟨#[106,111,105,110]⟩,⟨#[97]⟩,⟨#[53]⟩,⟨#[53]⟩],crow [⟨#[112,105,99,107]⟩,⟨#[97]⟩,⟨#[53]⟩],crow [⟨#[112,105,99,107]⟩,⟨#[98,44,97]⟩,⟨#[53]⟩],crow [⟨#[115,117,109]⟩,⟨#[97,62,61,45,49,48,48,48]⟩,⟨#[53]⟩],crow [⟨#[115,117,109]⟩,⟨#[98,62,61,53]⟩,⟨#[53]⟩],crow [⟨#[99,111,117,110,116]⟩,⟨#[]⟩,⟨#[53]⟩],crow [⟨#[102,105,114,115,116]⟩,⟨#[97,58,116,101,120,116]⟩,⟨#[53]⟩],crow [⟨#[102,105,114,115,116]⟩,⟨#[98,58,110,117,109,98,101,114]⟩,⟨#[53]⟩],crow [⟨#[116,119,105,99,101]⟩,⟨#[]⟩,⟨#[49]⟩],crow [⟨#[114,111,117,110,100]⟩,⟨#[55]⟩,⟨#[50]⟩],crow [⟨#[99,111,108]⟩,⟨#[110,111,110,101]⟩]]
theorem calls_len:(callsL.length:Int)=55:=rfl
structure ACol where
 s:ByteArray
 k:Int
instance:Inhabited ACol:=⟨⟨⟨#[]⟩,0⟩⟩
def encCol (c:ACol):List PV:=[.vl (.string c.s),.vl (.int .i64 c.k)]
def colsL:List ACol:=[⟨⟨#[110,97,109,101]⟩,1⟩,⟨⟨#[97,109,111,117,110,116]⟩,2⟩,⟨⟨#[100,97,121]⟩,3⟩,⟨⟨#[111,116,104,101,114]⟩,5⟩]
theorem cols_len:(colsL.length:Int)=4:=rfl
structure Va where
 k:Int
 s:ByteArray
 dn:Int
 ds:Int
 n:Int
 y:PV
 z:PV
def encVa (c:Va):List PV:=[.vl (.int .i64 c.k),.vl (.string c.s),.vl (.int .i64 c.dn),.vl (.int .i64 c.ds),.vl (.int .i64 c.n),c.y,c.z]
theorem all_getD {α:Type} [Inhabited α] {p:α→Prop}:∀{l:List α},(∀x∈l,p x)→∀{n:Nat},n<l.length→p (l.getD n default):=by
 simp_all
def crowOk (r:CRow):Bool:=decide (2≤r.R.length) && decide (r.R.length≤5) && (r.R.drop 2).all fun s=>decide (1≤s.size) && decide (49≤byteAt s 0) && decide (byteAt s 0≤53)
theorem callsOk:callsL.all crowOk=true:=by decide
theorem crow_len {v:Int} (h0:0≤v) (h1:v<55):2≤(callsL.getD v.toNat default).R.length∧(callsL.getD v.toNat default).R.length≤5:=by
 have:=all_getD (p:=fun r=>crowOk r=true) (List.all_eq_true.1 callsOk) (n:=v.toNat) (by have:=calls_len;omega);unfold crowOk at this
 simp_all
theorem crow_kind {v k:Int} (h0:0≤v) (h1:v<55) (h2:2≤k) (h3:k<(callsL.getD v.toNat default).R.length):1≤((callsL.getD v.toNat default).R.getD k.toNat default).size∧49≤byteAt ((callsL.getD v.toNat default).R.getD k.toNat default) 0∧byteAt ((callsL.getD v.toNat default).R.getD k.toNat default) 0≤53:=by
 have:=all_getD (p:=fun r=>crowOk r=true) (List.all_eq_true.1 callsOk) (n:=v.toNat) (by have:=calls_len;omega);unfold crowOk at this;simp only [Bool.and_eq_true,decide_eq_true_eq] at this;have h4:=this.2;have hl:k.toNat - 2<((callsL.getD v.toNat default).R.drop 2).length:=by rw [List.length_drop];omega
 have:=all_getD (List.all_eq_true.1 h4) hl
 grind
theorem col_kind {j:Int} (h0:0≤j) (h1:j<4):1≤(colsL.getD j.toNat default).k∧(colsL.getD j.toNat default).k≤5:=by
 have hj:j=0∨j=1∨j=2∨j=3:=by omega
 rcases hj with rfl | rfl | rfl | rfl<;>decide
theorem fact_rightV {k:Int} {s:ByteArray} {dn ds n:Int} {y z:PV} (h:RightV k s dn ds n y z):0≤k∧k≤5:=by
 rcases h with ⟨h,_⟩ | ⟨h,_⟩
 ·unfold RightC at h;omega
 ·omega
def CallsEq (CL:List CRow):Prop:=CL=callsL
def ColsEq (QL:List ACol):Prop:=QL=colsL
theorem fact_crow {CL:List CRow} (n:Nat) (h:CallsEq CL) (hn:n<CL.length):2≤((CL.getD n default).R.length:Int)∧((CL.getD n default).R.length:Int)≤5:=by
 subst h;have:=calls_len;have:=crow_len (v:=n) (by omega) (by omega)
 grind
theorem fact_csize {CL:List CRow} (n k:Nat) (h:CallsEq CL) (hn:n<CL.length) (h2:2≤k) (hk:k<(CL.getD n default).R.length):1≤(((CL.getD n default).R.getD k default).size:Int)∧(((CL.getD n default).R.getD k default).size:Int)≤(((CL.getD n default).R.getD k default).size:Int):=by
 subst h;have:=calls_len;have:=crow_kind (v:=n) (k:=k) (by omega) (by omega) (by omega) (by simp_all)
 grind
theorem fact_ckind {CL:List CRow} (n k:Nat) (h:CallsEq CL) (hn:n<CL.length) (h2:2≤k) (hk:k<(CL.getD n default).R.length):49≤byteAt ((CL.getD n default).R.getD k default) 0∧byteAt ((CL.getD n default).R.getD k default) 0≤53:=by
 subst h;have:=calls_len;have:=crow_kind (v:=n) (k:=k) (by omega) (by omega) (by omega) (by simp_all)
 simp_all
theorem fact_colk {QL:List ACol} (n:Nat) (h:ColsEq QL) (hn:n<QL.length):1≤(QL.getD n default).k∧(QL.getD n default).k≤5:=by
 subst h;have:=cols_len;have:=col_kind (j:=n) (by omega) (by omega)
 simp_all
section
variable [MaxL]
theorem c20_0:ValC Tryz.prog GG 20 [] (fun r=>∃(CL:List CRow) (x:PV),r=o (.p x)∧IsS encCR CL x∧CallsEq CL∧(CL.length:Int)=55):=(kvF (r:=o (.p (.sl callsL.length (callsL.flatMap encCR)))) (by kernel_rfl)).mono (fun r h=>⟨callsL,_,h,.sl,rfl,rfl⟩)
theorem c22_0:ValC Tryz.prog GG 22 [] (fun r=>∃(QL:List ACol) (x:PV),r=o (.p x)∧IsS encCol QL x∧ColsEq QL∧(QL.length:Int)=4):=(kvF (r:=o (.p (.sl colsL.length (colsL.flatMap encCol)))) (by kernel_rfl)).mono (fun r h=>⟨colsL,_,h,.sl,rfl,rfl⟩)
theorem c24_1 {w:Nat} (R:List (Row w)) (nme:ByteArray) (y z:PV) (L:List Int) (x:PV) (K k:Int) (h:Nums L x K) (h0:0≤k) (h5:k≤5) (hz:IsS encRow R z) (hR:R.length≤6) (hw:1≤w):RefC Tryz.prog GG 24 [o (.ref 0 0),o (i k),a [sv nme,.p y,.p z]] [.p x,i K] (fun r cs=>∃(k':Int) (s:ByteArray) (dn ds n:Int) (y' z':PV) (K':Int),r=a [i k',sv s,i dn,i ds,i n,.p y',.p z']∧cs=[.p x,i K']∧RightV k' s dn ds n y' z'∧Nums L x K'∧0≤k'∧k'≤5):=
 (c24 R nme y z L x K k h h0 h5 hz hR hw).mono (fun r cs ⟨k',s,dn,ds,n,y',z',K',e1,e2,e3,e4⟩=>⟨k',s,dn,ds,n,y',z',K',e1,e2,e3,e4,fact_rightV e3⟩)
def AllNe (As:List Ab):Prop:=∀v∈As,v.ne=true
theorem ne_snoc {As:List Ab} {v:Ab} (h:AllNe As) (hv:v.ne=true):AllNe (As++[v]):=by
 intro q hq
 rcases List.mem_append.1 hq with h1 | h1
 ·exact h q h1
 simp_all
theorem ne_nil:AllNe []:=fun _ h=>by simp at h
def MadeT (y z:PV):Prop:=∃(w:Nat) (R:List (Row w)) (Kd:List Int),IsS encS (citL.take w) y∧1≤w∧w≤4∧IsS encRow R z∧R.length≤6∧Kd.length=w∧KdOk3 Kd∧Kd.getD 0 0=1∧RowsOk Kd R
def MadeA (m:Int) (ya:PV):Prop:=∃As:List Ab,IsS encA As ya∧(As.length:Int)+2=m∧AllNe As
theorem c27_0:ValC Tryz.prog GG 27 [o (i 18)] (fun r=>r=a [i 0,sv ⟨#[]⟩,i 0,i 0,i 18,nl,nl]):=kvF (by kernel_rfl)
end
instance:Wid encCR 1:=⟨fun _=>rfl⟩
instance:Wid encCol 2:=⟨fun _=>rfl⟩
instance:Wid encVa 7:=⟨fun _=>rfl⟩
end Go.Sx.E1
