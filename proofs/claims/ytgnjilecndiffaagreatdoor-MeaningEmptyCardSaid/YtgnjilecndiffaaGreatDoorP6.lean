/- A part of the proof of MeaningEmpty. -/
import Derived.Test.YtgnjilecndiffaaGreatDoorP5
set_option linter.all false
set_option maxRecDepth 1000000
set_option maxHeartbeats 0
namespace Go.Sx
section
variable {P:Program} {T:Tab} {G:Globs} {ρ:Operand→RV} {hp hp2:List Ob}
theorem readC_up (hu:Up hp hp2) {a:LV} {n:Nat} {cs:List LV} (h:readC G hp a n=some cs):readC G hp2 a n=some cs:=by
 unfold readC at*;split at h
 ·rename_i b o;split at h
  ·rename_i cs' f hb;obtain ⟨f',hb'⟩:=hu.cells hb
   simp_all
  ·rename_i t0 cs' f hb;simp only [hu.tc hb];exact h
  ·simp at h
 all_goals omega
theorem loadA_up (hu:Up hp hp2) {t:TypeId} {a r:RV} {hp':List Ob} (h:loadA T G t a hp=some (r,hp')):hp'=hp∧loadA T G t a hp2=some (r,hp2):=by
 unfold loadA at*;split at h
 ·rename_i x n g h1 h2 h3;split at h
  ·rename_i hg;split at h
   ·rename_i cs hc;split at h
    ·rename_i r' hr;simp at h;obtain ⟨rfl,rfl⟩:=h;refine ⟨rfl,?_⟩;simp only [hg,if_true,readC_up hu hc,hr]
    ·simp at h
   ·simp at h
  ·simp at h
 ·simp at h
theorem elems_up (hu:Up hp hp2) {z:Nat} {x:RV} {r:Nat×List LV} (h:elems hp z x=some r):elems hp2 z x=some r:=by
 unfold elems at*;split at h
 ·exact h
 ·exact h
 ·exact h
 ·rename_i b o n z';split at h
  ·rename_i hz;split at h
   ·rename_i cs f hb;obtain ⟨f',hb'⟩:=hu.cells hb
    simp_all
   ·rename_i t0 cs f hb;simp only [hz,if_true,hu.tc hb];exact h
   ·simp at h
  ·simp at h
 ·simp at h
theorem sliceA_up (hu:Up hp hp2) {t:TypeId} {x r:RV} {lo hi mx:Option RV} {hp':List Ob} (h:sliceA P T t x lo hi mx hp=some (r,hp')):hp'=hp∧sliceA P T t x lo hi mx hp2=some (r,hp2):=by
 unfold sliceA at*;split at h
 ·split at h
  ·obtain ⟨h1,h2⟩:=mapSnd_inv h
   grind
  ·simp at h
 ·split at h
  ·split at h
   ·split at h
    ·split at h
     all_goals simp_all
    ·simp at h
   ·split at h
    all_goals simp_all
   ·split at h
    ·rename_i hsz hbd hb;split at h
     ·rename_i hle;obtain ⟨f',hb'⟩:=hu.cells hb
      simp_all
     ·simp at h
    ·simp at h
   ·simp at h
  ·simp at h
theorem sliceQ_up (hu:Up hp hp2) {t:TypeId} {x r:RV} {lo hi mx:Option RV} {hp':List Ob} (h:sliceQ P T t x lo hi mx hp=some (r,hp')):hp'=hp∧sliceQ P T t x lo hi mx hp2=some (r,hp2):=by
 unfold sliceQ at*;split at h
 ·split at h
  ·split at h
   all_goals simp_all
  ·simp at h
 ·exact sliceA_up hu h
theorem convertA_up (hu:Up hp hp2) {s d:TypeId} {x r:RV} {hp':List Ob} (hd:(∃k,T.und d=some (.int k))∨T.und d=some .string) (h:convertA P T s d x hp=some (r,hp')):hp'=hp∧convertA P T s d x hp2=some (r,hp2):=by
 unfold convertA at*;split at h
 ·grind
 ·obtain ⟨h1,h2⟩:=mapSnd_inv h
  grind
 ·split at h
  ·rename_i e1 e2;split at h
   ·rename_i e3;split at h
    ·rename_i n cs hel;split at h
     ·rename_i l hl;simp at h;obtain ⟨rfl,rfl⟩:=h;refine ⟨rfl,?_⟩;simp [e1,e2,e3,elems_up hu hel,hl]
     ·simp at h
    ·simp at h
   ·simp at h
  ·simp at h
theorem convQ_up (hu:Up hp hp2) {s d:TypeId} {x r:RV} {hp':List Ob} (hd:(∃k,T.und d=some (.int k))∨T.und d=some .string) (h:convQ P T s d x hp=some (r,hp')):hp'=hp∧convQ P T s d x hp2=some (r,hp2):=by
 unfold convQ at*;split at h
 ·simp_all
 ·exact convertA_up hu hd h
theorem len_up (hu:Up hp hp2) {ats:Array TypeId} {ty:TypeId} {args:List RV} {r:RV} {hp':List Ob} (h:builtinA P T .len ats ty args hp=some (r,hp')):hp'=hp∧builtinA P T .len ats ty args hp2=some (r,hp2):=by
 match args with
 | []=>simp [builtinA] at h
 | _::_::_=>simp [builtinA] at h
 | [a]=>
  simp only [builtinA] at h ⊢
  split at h
  ·simp_all
  ·simp_all
  ·simp_all
  ·split at h
   ·rename_i es hb;simp at h;obtain ⟨rfl,rfl⟩:=h;exact ⟨rfl,by simp [hu.map hb]⟩
   ·simp at h
  ·split at h
   ·simp only [Option.map_eq_some_iff] at h
    grind
   ·simp at h
theorem read_inv {o:Oper} (hk:kindOp T o.op= .read) {r:RV} {hp':List Ob} (h:opA P T G ρ o hp=some (r,hp')):hp'=hp∧∀hp2,Up hp hp2→opA P T G ρ o hp2=some (r,hp2):=by
 have key:∀hp2,Up hp hp2→hp'=hp∧opA P T G ρ o hp2=some (r,hp2):=by
  intro hp2 hu;obtain ⟨dst,op,type,pos,after,guard⟩:=o;cases op with
  | load t a=>exact loadA_up hu h
  | slice t x lo hi mx=>exact sliceQ_up hu h
  | convert s d x=>
   have hd:(∃k,T.und d=some (.int k))∨T.und d=some .string:=by
    simp only [kindOp] at hk;split at hk
    ·simp_all
    ·simp_all
    ·simp at hk
   simp only [opA] at h ⊢
   split at h
   ·rename_i b o hr;exfalso;unfold convRef at h
    grind
   ·exact convQ_up hu hd h
  | call c=>
   obtain ⟨callee,args,ats⟩:=c;cases callee with
   | builtin b=>
    cases b with
    | len=>exact len_up hu h
    | _=>simp [kindOp] at hk
   | _=>simp [kindOp] at hk
  | _=>simp [kindOp] at hk
 exact ⟨(key hp (Up.refl _)).1,fun hp2 hu=>(key hp2 hu).2⟩
theorem mapOpt_imp {α β:Type} {f g:α→Option β} (hfg:∀x y,f x=some y→g x=some y):∀{l:List α} {r:List β},mapOpt f l=some r→mapOpt g l=some r
 | [],r,h=>h
 | x::l,r,h=>by
  simp only [mapOpt] at h ⊢
  split at h
  ·rename_i y ys h1 h2;rw [hfg x y h1,mapOpt_imp hfg h2];exact h
  ·simp at h
theorem fzL_up (hu:Up hp hp2):∀(n:Nat) (x:LV) (y:PV×List Nat),fzL hp n x=some y→fzL hp2 n x=some y
 | 0,x,y,h=>by
  cases x<;>simp [fzL] at h ⊢
  exact h
 | n+1,x,y,h=>by
  cases x with
  | lsl b o k z=>
   simp only [fzL] at h ⊢
   split at h
   ·rename_i cs f hb;obtain ⟨f',hb'⟩:=hu.cells hb;simp only [hb'];split at h
    ·rename_i l hl;split at h
     ·rename_i ps hps;simp only [hl,mapOpt_imp (fun x y=>fzL_up hu n x y) hps];exact h
     ·simp at h
    ·simp at h
   ·simp at h
  | p x=>simpa [fzL] using h
  | _=>simp [fzL] at h
theorem fzW_up (hu:Up hp hp2) (x:RW) (y:RW×List Nat) (h:fzW hp x=some y):fzW hp2 x=some y:=by
 cases x with
 | one x=>
  simp only [fzW] at h ⊢
  split at h
  ·rename_i p ts hf;rw [fzL_up hu _ _ _ hf];exact h
  ·simp at h
 | agg xs=>
  simp only [fzW,fzLs] at h ⊢
  cases hm:mapOpt (fzL hp 12) xs with
  | none=>simp_all
  | some ps=>
   rw [hm] at h;rw [mapOpt_imp (fun x y=>fzL_up hu 12 x y) hm];exact h
theorem fzR_up (hu:Up hp hp2) (x:RV) (y:RV×List Nat) (h:fzR hp x=some y):fzR hp2 x=some y:=by
 cases x with
 | v x=>
  simp only [fzR] at h ⊢
  split at h
  ·rename_i p ts hf;rw [fzW_up hu _ _ hf];exact h
  ·simp at h
 | tup xs=>
  simp only [fzR] at h ⊢
  split at h
  ·rename_i ys hm;rw [mapOpt_imp (fun x y=>fzW_up hu x y) hm];exact h
  ·simp at h
theorem fzRs_up (hu:Up hp hp2) {xs:List RV} {y:List RV×List Nat} (h:fzRs hp xs=some y):fzRs hp2 xs=some y:=by
 unfold fzRs at*;split at h
 ·rename_i ys hm;rw [mapOpt_imp (fun x y=>fzR_up hu x y) hm];exact h
 ·simp at h
end
end Go.Sx
namespace Go.Sx
section
variable {P:Program} {T:Tab} {G:Globs} {ρ:Operand→RV} {M:List Nat} {hp:List Ob}
theorem Up.msk (M:List Nat) (hp:List Ob):Up (msk M hp) hp:=fun b x h hx=>⟨x,(msk_some h hx).2,.inl rfl⟩
theorem over_id (hM:∀b∈M,b<hp.length):over M hp (msk M hp)=hp:=by
 apply List.ext_getElem?;intro k
 by_cases hk:k∈M
 ·exact over_in hk (hM k hk) (by rw [msk_length];exact hM k hk)
 ·rw [over_out hk,msk_out hk]
theorem over_push (hM:∀b∈M,b<hp.length) (x:Ob):over M hp (msk M hp++[x])=hp++[x]:=by
 apply List.ext_getElem?;intro k
 by_cases hk:k∈M
 ·have:=hM k hk;rw [over_in hk this (by simp [msk_length];omega),List.getElem?_append_left this]
 ·rw [over_out hk]
  rcases Nat.lt_or_ge k hp.length with hl | hl
  ·rw [List.getElem?_append_left (by rw [msk_length];exact hl),List.getElem?_append_left hl,msk_out hk]
  ·rw [List.getElem?_append_right (by rw [msk_length];exact hl),List.getElem?_append_right hl,msk_length]
theorem over_set (hM:∀b∈M,b<hp.length) {b:Nat} (hb:b∉M) (x:Ob):over M hp ((msk M hp).set b x)=hp.set b x:=by
 apply List.ext_getElem?;intro k
 by_cases hk:k∈M
 ·have:=hM k hk;rw [over_in hk this (by simp [msk_length];omega),List.getElem?_set_ne (by grind)]
 ·rw [over_out hk,List.getElem?_set,List.getElem?_set,msk_length,msk_out hk]
theorem over_regrow (hM:∀b∈M,b<hp.length) {b:Nat} (hb:b∉M) (x y:Ob):over M hp ((msk M hp).set b x++[y])=hp.set b x++[y]:=by
 apply List.ext_getElem?;intro k
 by_cases hk:k∈M
 ·have:=hM k hk;rw [over_in hk this (by simp [msk_length];omega),List.getElem?_append_left (by simp_all),List.getElem?_set_ne (by grind)]
 ·rw [over_out hk]
  rcases Nat.lt_or_ge k hp.length with hl | hl
  ·rw [List.getElem?_append_left (by simp [msk_length];exact hl),List.getElem?_append_left (by simpa using hl),List.getElem?_set,List.getElem?_set,msk_length,msk_out hk]
  ·rw [List.getElem?_append_right (by simp [msk_length];exact hl),List.getElem?_append_right (by simpa using hl)];simp [msk_length]
theorem writeC_frame (hM:∀b∈M,b<hp.length) {a:LV} {vs:List LV} {L1:List Ob} (h:writeC (msk M hp) a vs=some L1):writeC hp a vs=some (over M hp L1):=by
 unfold writeC at*;split at h
 ·rename_i b o;split at h
  ·rename_i cs hb;obtain ⟨k1,k2⟩:=msk_some hb (by simp);simp only [k2];split at h
   ·rename_i hle;simp at h;subst h;simp only [hle,if_true,over_set hM k1]
   ·simp at h
  ·rename_i t cs hb;obtain ⟨k1,k2⟩:=msk_some hb (by simp);simp only [k2];split at h
   ·rename_i hle;simp at h;subst h;simp only [hle,if_true,over_set hM k1]
   ·simp at h
  ·rename_i t cs hb;obtain ⟨k1,k2⟩:=msk_some hb (by simp);simp only [k2];split at h
   ·simp at h;subst h;simp only [over_id hM]
   ·simp at h
  ·simp at h
 ·simp at h
theorem mapOf_frame {x:RV} {es:List (Value×RW)} (h:mapOf x (msk M hp)=some es):mapOf x hp=some es:=by
 unfold mapOf at*;split at h
 ·split at h
  ·rename_i es' hb;obtain ⟨k1,k2⟩:=msk_some hb (by simp)
   simp_all
  ·simp at h
 all_goals omega
theorem append_frame (hM:∀b∈M,b<hp.length) {ats:Array TypeId} {ty:TypeId} {args:List RV} {r:RV} {L1:List Ob} (h:builtinA P T .append ats ty args (msk M hp)=some (r,L1)):builtinA P T .append ats ty args hp=some (r,over M hp L1):=by
 match args with
 | []=>simp [builtinA] at h
 | [_]=>simp [builtinA] at h
 | _::_::_::_=>simp [builtinA] at h
 | [s,x]=>
  simp only [builtinA] at h ⊢
  cases h1:(ats[0]?).bind T.und with
  | none=>simp [h1] at h
  | some d1=>
   cases d1 with
   | slice e=>
    cases h2:(ats[1]?).bind T.und with
    | none=>simp_all
    | some xd=>
     simp only [h1,h2] at h ⊢
     have rest:∀{r L1},(match T.info e,zeroOf T e with
       | some i,some zero=>match elems (msk M hp) i.size x with
        | some (m,new)=>
         if zero.length=i.size then
         match (generalizing:=false) s with
         | .v (.one (.p (.vl (.slice none 0 0))))=>
          if m=0 then some (s,msk M hp)
          else if roomy m i.bytes && decide (0<i.size) then some (.v (.one (.lsl (msk M hp).length 0 m i.size)),msk M hp++[.cells new false]) else none
         | .v (.one (.lsl b o n z'))=>
          match (msk M hp)[b]? with
          | some (.cells cs false)=>
           match part cs o (n*i.size) with
           | some old=>
            if z'=i.size && roomy (n+m) i.bytes && decide (0<i.size) then some (.v (.one (.lsl (msk M hp).length 0 (n+m) i.size)),(msk M hp).set b .gone++[.cells (old++new) false]) else none
           | none=>none
          | _=>none
         | .v (.one (.p (.sl _ _)))=>if m=0 then some (s,msk M hp) else none
         | _=>none
         else none
        | none=>none
       | _,_=>none)=some (r,L1)→(match T.info e,zeroOf T e with
       | some i,some zero=>match elems hp i.size x with
        | some (m,new)=>
         if zero.length=i.size then
         match (generalizing:=false) s with
         | .v (.one (.p (.vl (.slice none 0 0))))=>
          if m=0 then some (s,hp)
          else if roomy m i.bytes && decide (0<i.size) then some (.v (.one (.lsl hp.length 0 m i.size)),hp++[.cells new false]) else none
         | .v (.one (.lsl b o n z'))=>
          match hp[b]? with
          | some (.cells cs false)=>
           match part cs o (n*i.size) with
           | some old=>
            if z'=i.size && roomy (n+m) i.bytes && decide (0<i.size) then some (.v (.one (.lsl hp.length 0 (n+m) i.size)),hp.set b .gone++[.cells (old++new) false]) else none
           | none=>none
          | _=>none
         | .v (.one (.p (.sl _ _)))=>if m=0 then some (s,hp) else none
         | _=>none
         else none
        | none=>none
       | _,_=>none)=some (r,over M hp L1):=by
      intro r L1 h;split at h
      ·rename_i i zero hi hz;split at h
       ·rename_i m new hel;simp only [elems_up (Up.msk M hp) hel];split at h
        ·rename_i hzl;simp only [hzl,if_true];split at h
         ·split at h
          ·rename_i hm0;simp at h;obtain ⟨rfl,rfl⟩:=h;simp [hm0,over_id hM]
          ·rename_i hm0;split at h
           ·rename_i hro;simp at h;obtain ⟨rfl,rfl⟩:=h;simp only [hm0,if_false,hro,if_true,over_push hM,msk_length]
           ·simp at h
         ·split at h
          ·rename_i cs hb;obtain ⟨k1,k2⟩:=msk_some hb (by simp);simp only [k2];split at h
           ·split at h
            ·rename_i hro;simp at h;obtain ⟨rfl,rfl⟩:=h;simp only [hro,if_true,over_regrow hM k1,msk_length]
            ·simp at h
           ·simp at h
          ·simp at h
         ·split at h
          ·rename_i hm0;simp at h;obtain ⟨rfl,rfl⟩:=h;simp [hm0,over_id hM]
          ·simp at h
         ·simp at h
        ·simp at h
       ·simp at h
      ·simp at h
     cases xd with
     | int k=>simp at h
     | _=>exact rest h
   | _=>simp [h1] at h
theorem appendB_frame (hM:∀b∈M,b<hp.length) {ats:Array TypeId} {args:List RV} {r:RV} {L1:List Ob} (h:appendB T ats args (msk M hp)=some (r,L1)):appendB T ats args hp=some (r,over M hp L1):=by
 match args with
 | []=>simp [appendB] at h
 | [_]=>simp [appendB] at h
 | _::_::_::_=>simp [appendB] at h
 | [s,x]=>
  simp only [appendB] at h ⊢
  split at h
  ·rename_i e xd h1 h2;split at h
   ·simp at h
   ·rename_i hne;split at h
    ·rename_i i zero hi hz;split at h
     ·rename_i m new hel;split at h
      ·rename_i hc;have hel':=elems_up (Up.msk M hp) hel;split at h
       ·split at h
        ·rename_i hro;simp at h;obtain ⟨rfl,rfl⟩:=h;simp only [hel',hc,hro,if_true,over_push hM,msk_length,ne_eq,not_false_eq_true,and_self,and_true,true_and]
        ·simp at h
       ·split at h
        ·rename_i e' cs hb;obtain ⟨k1,k2⟩:=msk_some hb (by simp);split at h
         ·rename_i hro;simp at h;obtain ⟨rfl,rfl⟩:=h;simp only [hel',hc,k2,hro,if_true,over_regrow hM k1,msk_length,ne_eq,not_false_eq_true,and_self,and_true,true_and]
         ·simp at h
        ·simp at h
       ·simp at h
      ·simp at h
     ·simp at h
    ·simp at h
  ·simp at h
theorem convRef_frame (hM:∀b∈M,b<hp.length) {s d:TypeId} {b o:Nat} {r:RV} {L1:List Ob} (h:convRef P T s d b o (msk M hp)=some (r,L1)):convRef P T s d b o hp=some (r,over M hp L1):=by
 unfold convRef at h ⊢
 split at h
 ·rename_i t t0 cs h1 h2 hb;obtain ⟨k1,k2⟩:=msk_some hb (by simp);simp only [h1,h2,k2];split at h
  ·split at h
   ·rename_i hl;simp at h;obtain ⟨rfl,rfl⟩:=h;simp only [hl,if_true,over_id hM]
   ·simp at h
  ·simp at h
 ·rename_i u e cs h1 h2 hb;obtain ⟨k1,k2⟩:=msk_some hb (by simp);simp only [h1,h2,k2];split at h
  ·split at h
   ·rename_i hl;simp at h;obtain ⟨rfl,rfl⟩:=h;simp only [hl,if_true,over_id hM]
   ·simp at h
  ·simp at h
 ·simp at h
theorem unsafeStr_frame (hM:∀b∈M,b<hp.length) {ats:Array TypeId} {args:List RV} {r:RV} {L1:List Ob} (h:unsafeStrA P T ats args (msk M hp)=some (r,L1)):unsafeStrA P T ats args hp=some (r,over M hp L1):=by
 unfold unsafeStrA at h ⊢
 split at h
 ·rename_i b n u hu;split at h
  ·rename_i e cs hb;obtain ⟨k1,k2⟩:=msk_some hb (by simp);simp only [k2];split at h
   ·split at h
    ·rename_i hl;simp at h;obtain ⟨rfl,rfl⟩:=h;simp only [hl,and_self,if_true,over_id hM]
    ·simp at h
   ·simp at h
  ·simp at h
 ·simp at h
theorem copy_frame (hM:∀b∈M,b<hp.length) {ats:Array TypeId} {ty:TypeId} {args:List RV} {r:RV} {L1:List Ob} (h:builtinA P T .copy ats ty args (msk M hp)=some (r,L1)):builtinA P T .copy ats ty args hp=some (r,over M hp L1):=by
 match args with
 | []=>simp [builtinA] at h
 | [_]=>simp [builtinA] at h
 | _::_::_::_=>simp [builtinA] at h
 | [d,x]=>
  simp only [builtinA] at h ⊢
  split at h
  ·split at h
   ·split at h
    ·rename_i m new b o n z' hel;simp only [elems_up (Up.msk M hp) hel];split at h
     ·rename_i hz;simp only [hz,if_true];split at h
      ·rename_i hp' hw;simp at h;obtain ⟨rfl,rfl⟩:=h;rw [writeC_frame hM hw]
      ·simp at h
     ·simp at h
    ·simp at h
   ·simp at h
  ·simp at h
theorem opA_frame (hM:∀b∈M,b<hp.length) {o:Oper} {r:RV} {L1:List Ob} (h:opA P T G ρ o (msk M hp)=some (r,L1)):opA P T G ρ o hp=some (r,over M hp L1):=by
 cases hk:kindOp T o.op with
 | mute=>
  obtain ⟨rfl,h2⟩:=mute_inv hk h;rw [over_id hM];exact h2 hp
 | read=>
  obtain ⟨rfl,h2⟩:=read_inv hk h;rw [over_id hM];exact h2 hp (Up.msk M hp)
 | _=>
  obtain ⟨dst,op,type,pos,after,guard⟩:=o;cases op with
  | alloc t=>
   simp only [opA,allocA,allocT] at h ⊢
   cases ht:T.trk t
   all_goals
    simp only [ht] at h ⊢
    split at h
    ·simp at h;obtain ⟨rfl,rfl⟩:=h;simp [over_push hM,msk_length]
    ·simp at h
  | box t x=>
   simp only [opA,boxA,boxT] at h ⊢
   cases ht:T.trk t
   all_goals
    simp only [ht] at h ⊢
    split at h
    ·simp at h;obtain ⟨rfl,rfl⟩:=h;simp [over_push hM,msk_length]
    ·simp at h
  | buildSlice t len ps=>
   simp only [opA,buildSliceA] at h ⊢
   repeat' split at h
   all_goals first | (simp at h;done) | skip
   all_goals (simp at h;obtain ⟨rfl,rfl⟩:=h;simp_all [over_push hM,msk_length])
  | store t a v=>
   simp only [opA,storeA] at h ⊢
   split at h
   ·split at h
    ·rename_i hlen;split at h
     ·rename_i hp' hw;simp at h;obtain ⟨rfl,rfl⟩:=h;simp only [hlen,if_true,writeC_frame hM hw]
     ·simp at h
    ·simp at h
   ·simp at h
  | makeFunc fn a b=>
   simp only [opA,funcA] at h ⊢
   repeat' split at h
   all_goals first | (simp at h;done) | skip
   all_goals (simp at h;obtain ⟨rfl,rfl⟩:=h;simp_all [over_id hM])
  | makeMap t res=>
   cases res with
   | none=>simp only [opA] at h ⊢;simp at h;obtain ⟨rfl,rfl⟩:=h;simp [over_push hM,msk_length]
   | some x=>simp [opA] at h
  | makeSlice t l c=>
   simp only [opA,makeSliceA] at h ⊢
   repeat' split at h
   all_goals first | (simp at h;done) | skip
   all_goals (simp at h;obtain ⟨rfl,rfl⟩:=h;simp_all [over_push hM,msk_length])
  | lookup t x k ok=>
   simp only [opA,lookupA] at h ⊢
   split at h
   ·rename_i kt e kv es h1 h2 h3;simp only [mapOf_frame h3];split at h
    ·rename_i kd z hk1 hk2;split at h
     ·rename_i hf;split at h
      ·rename_i y hy;simp only [Option.some.injEq,Prod.mk.injEq] at h;obtain ⟨rfl,rfl⟩:=h;simp only [h1,h2,hk1,hk2,hf,hy,if_true,over_id hM]
      ·rename_i hy;simp only [Option.some.injEq,Prod.mk.injEq] at h;obtain ⟨rfl,rfl⟩:=h;simp only [h1,h2,hk1,hk2,hf,hy,if_true,over_id hM]
     ·simp at h
    ·simp at h
   ·simp at h
  | mapUpdate t m k x=>
   simp only [opA,mapPutA] at h ⊢
   split at h
   ·split at h
    ·rename_i kd es hkt hb;obtain ⟨k1,k2⟩:=msk_some hb (by simp);split at h
     ·rename_i hf;simp at h;obtain ⟨rfl,rfl⟩:=h;simp only [hkt,k2,hf,if_true,over_set hM k1]
     ·simp at h
    ·simp at h
   ·simp at h
  | insert t m k x=>
   simp only [opA,mapPutA] at h ⊢
   split at h
   ·split at h
    ·rename_i kd es hkt hb;obtain ⟨k1,k2⟩:=msk_some hb (by simp);split at h
     ·rename_i hf;simp at h;obtain ⟨rfl,rfl⟩:=h;simp only [hkt,k2,hf,if_true,over_set hM k1]
     ·simp at h
    ·simp at h
   ·simp at h
  | range t x=>
   simp only [opA] at h ⊢
   split at h
   ·simp at h;obtain ⟨rfl,rfl⟩:=h;simp [over_push hM,msk_length]
   ·simp at h
  | next it s=>
   cases s with
   | false=>simp [opA] at h
   | true=>
    simp only [opA,nextA] at h ⊢
    split at h
    ·split at h
     ·rename_i s pos hb;obtain ⟨k1,k2⟩:=msk_some hb (by simp);simp only [k2];split at h
      ·rename_i hlt;simp at h;obtain ⟨rfl,rfl⟩:=h;simp only [hlt,if_true,over_set hM k1]
      ·rename_i hlt;simp at h;obtain ⟨rfl,rfl⟩:=h;simp only [hlt,if_false,over_id hM]
     ·simp at h
    ·simp at h
  | convert s d x=>
   simp only [opA] at h ⊢
   split at h
   ·exact convRef_frame hM h
   simp only [convQ,convertA] at h ⊢
   repeat' split at h
   all_goals first | (simp at h;done) | skip
   all_goals (simp at h;obtain ⟨rfl,rfl⟩:=h)
   all_goals first
    | (simp_all [over_id hM];done)
    | (simp_all [over_push hM,msk_length];done)
    | (rename_i hel hbs;simp_all [over_id hM,elems_up (Up.msk M hp) hel];done)
    | (rename_i hel _ _ hbs;simp_all [over_id hM,elems_up (Up.msk M hp) hel];done)
    | skip
  | call c=>
   obtain ⟨callee,args,ats⟩:=c;cases callee with
   | builtin b=>
    cases b with
    | append=>
     simp only [opA] at h ⊢
     cases hb:bldPos pos
     ·simp only [hb] at h ⊢
      exact append_frame hM h
     ·simp only [hb] at h ⊢
      exact appendB_frame hM h
    | unsafeString=>exact unsafeStr_frame hM h
    | unsafeSliceData=>
     simp only [opA,sliceDataA] at h ⊢
     split at h
     ·simp at h;obtain ⟨rfl,rfl⟩:=h;simp only [over_id hM]
     ·simp at h
    | cap=>
     simp only [opA,capA] at h ⊢
     split at h
     ·rename_i hu;simp at h;obtain ⟨rfl,rfl⟩:=h;simp only [hu,over_id hM]
     ·simp at h
    | copy=>exact copy_frame hM h
    | len=>simp [kindOp] at hk
    | min=>simp [kindOp] at hk
    | max=>simp [kindOp] at hk
    | _=>simp [opA,builtinA] at h
   | _=>simp [opA] at h
  | _=>first | (simp [kindOp] at hk;done) | (simp [opA] at h;done)
end
end Go.Sx
namespace Go.Sx
theorem Like.trans {x y z:Ob} (h:Like x y) (k:Like y z):Like x z:=by
 rcases h with rfl | ⟨cs,f,f',rfl,rfl⟩
 ·exact k
 ·rcases k with rfl | ⟨cs',g,g',e,rfl⟩
  ·exact .inr ⟨cs,f,f',rfl,rfl⟩
  ·cases e;exact .inr ⟨cs,f,g',rfl,rfl⟩
theorem Like.ne_gone {x y:Ob} (h:Like x y) (hx:x≠.gone):y≠.gone:=by
 rcases h with rfl | ⟨cs,f,f',rfl,rfl⟩
 ·exact hx
 ·simp
theorem Up.trans {a b c:List Ob} (h:Up a b) (k:Up b c):Up a c:=by
 intro i x hx hg;obtain ⟨y,h1,h2⟩:=h i x hx hg;obtain ⟨z,h3,h4⟩:=k i y h1 (h2.ne_gone hg);exact ⟨z,h3,h2.trans h4⟩
inductive Eff where
 | non
 | fz (ts:List Nat)
 | fill (s:Nat) (ob:Ob)
 | app (b d:Nat) (c:Ob)
 | sto (b:Nat) (ob:Ob)
 | rc (ts:List Nat) (b:Nat) (ob:Ob)
 | own (n:Nat) (M:List Nat) (L1:List Ob) (W:List Nat)
def Eff.ap:Eff→List Ob→List Ob
 | .non,hp=>hp
 | .fz ts,hp=>fzObs ts hp
 | .fill s ob,hp=>hp.set s ob
 | .app b _ c,hp=>hp.set b .gone++[c]
 | .sto b ob,hp=>hp.set b ob
 | .rc ts b ob,hp=>(fzObs ts hp).set b ob
 | .own _ M L1 _,hp=>over M hp L1
def Eff.pre:Eff→List Ob→Prop
 | .fill s _,hp=>hp[s]? =some .gone
 | .app b d _,hp=>hp.length=d∧b<d
 | .sto b _,hp=>b<hp.length
 | .rc _ b _,hp=>b<hp.length
 | .own n M L1 W,hp=>hp.length=n∧(∀k∈M,k<n)∧n≤L1.length∧∀k,k<L1.length→k∉M→k∈W
 | _,_=>True
def Eff.wr:Eff→List Nat
 | .fill s _=>[s]
 | .app b d _=>[b,d]
 | .sto b _=>[b]
 | .rc _ b _=>[b]
 | .own _ _ _ W=>W
 | _=>[]
def Eff.ts:Eff→List Nat
 | .fz ts=>ts
 | .rc ts _ _=>ts
 | _=>[]
def Eff.loud:Eff→Bool
 | .non=>false
 | .fill _ _=>false
 | _=>true
theorem fzObs_cell {ts:List Nat} {hp:List Ob} {b:Nat} {x:Ob} (h:hp[b]? =some x):∃y,(fzObs ts hp)[b]? =some y∧Like x y∧Like y x:=by
 have hlt:=(List.getElem?_eq_some_iff.1 h).1;have:b<(fzObs ts hp).length:=by rw [fzObs_length];exact hlt
 refine ⟨_,List.getElem?_eq_getElem this,?_⟩;obtain ⟨o0,h1,h2⟩:=fzObs_get ts hp b _ (List.getElem?_eq_getElem this);rw [h] at h1;simp at h1;subst h1
 rcases h2 with ⟨e,_⟩ | ⟨e,_⟩
 ·rw [e];exact ⟨.inl rfl,.inl rfl⟩
 ·rw [e];exact fzOb_like x
theorem fzObs_cell' {ts:List Nat} {hp:List Ob} {b:Nat} {y:Ob} (h:(fzObs ts hp)[b]? =some y):∃x,hp[b]? =some x∧Like x y∧Like y x:=by
 obtain ⟨o0,h1,h2⟩:=fzObs_get ts hp b _ h;refine ⟨o0,h1,?_⟩
 rcases h2 with ⟨e,_⟩ | ⟨e,_⟩
 ·rw [e];exact ⟨.inl rfl,.inl rfl⟩
 ·rw [e];exact fzOb_like o0
theorem up_fz {M ts:List Nat} {hp:List Ob}:Up (msk M hp) (msk M (fzObs ts hp))∧Up (msk M (fzObs ts hp)) (msk M hp):=by
 constructor
 ·intro b x h hx;obtain ⟨h1,h2⟩:=msk_some h hx;obtain ⟨y,h3,h4,_⟩:=fzObs_cell (ts:=ts) h2;exact ⟨y,by rw [msk_out h1];exact h3,h4⟩
 ·intro b x h hx;obtain ⟨h1,h2⟩:=msk_some h hx;obtain ⟨y,h3,_,h4⟩:=fzObs_cell' h2;exact ⟨y,by rw [msk_out h1];exact h3,h4⟩
theorem own_get {n:Nat} {M W:List Nat} {L1 hp:List Ob} (hpre:(Eff.own n M L1 W).pre hp) {b:Nat} (hb:b∉W):(over M hp L1)[b]? =hp[b]? :=by
 obtain ⟨h1,h2,h3,h4⟩:=hpre
 by_cases hm:b∈M
 ·have:=h2 b hm;exact over_in hm (by omega) (by omega)
 ·rw [over_out hm]
  grind
theorem own_set {n:Nat} {M W:List Nat} {L1 hp:List Ob} (hpre:(Eff.own n M L1 W).pre hp) {s:Nat} {ob:Ob} (hs:s∉W) (hlt:s<hp.length):over M (hp.set s ob) L1=(over M hp L1).set s ob:=by
 obtain ⟨h1,h2,h3,h4⟩:=hpre;have hsm:s∈M:=by
  by_cases hm:s∈M
  ·exact hm
  ·grind
 apply List.ext_getElem?;intro k
 by_cases hk:k∈M
 ·have hkn:=h2 k hk;rw [over_in hk (by simp;omega) (by omega),List.getElem?_set,List.getElem?_set,over_in hk (by omega) (by omega),over_length]
  grind
 ·rw [over_out hk,List.getElem?_set_ne (by grind),over_out hk]
theorem up_eff {M:List Nat} {e:Eff} {hp:List Ob} (hpre:e.pre hp) (hw:∀b∈e.wr,b∈M):Up (msk M hp) (msk M (e.ap hp))∧Up (msk M (e.ap hp)) (msk M hp):=by
 cases e with
 | non=>exact ⟨Up.refl _,Up.refl _⟩
 | fz ts=>exact up_fz
 | fill s ob=>
  have:Sx.msk M (hp.set s ob)=Sx.msk M hp:=msk_set (hw s (by simp [Eff.wr]));simp only [Eff.ap,this];exact ⟨Up.refl _,Up.refl _⟩
 | sto s ob=>
  have:Sx.msk M (hp.set s ob)=Sx.msk M hp:=msk_set (hw s (by simp [Eff.wr]));simp only [Eff.ap,this];exact ⟨Up.refl _,Up.refl _⟩
 | rc ts s ob=>
  have:Sx.msk M ((fzObs ts hp).set s ob)=Sx.msk M (fzObs ts hp):=msk_set (hw s (by simp [Eff.wr]));simp only [Eff.ap,this];exact up_fz
 | own n M2 L1 W=>
  have key:∀b,b∉M→(over M2 hp L1)[b]? =hp[b]? :=fun b hb=>own_get hpre fun h=>hb (hw b h);constructor
  ·intro b x h hx;obtain ⟨h1,h2⟩:=msk_some h hx;exact ⟨x,by rw [msk_out h1];exact (key b h1).trans h2,.inl rfl⟩
  ·intro b x h hx;obtain ⟨h1,h2⟩:=msk_some h hx;exact ⟨x,by rw [msk_out h1];exact (key b h1).symm.trans h2,.inl rfl⟩
 | app b d c=>
  have hb:b∈M:=hw b (by simp [Eff.wr]);have hd:d∈M:=hw d (by simp [Eff.wr]);obtain ⟨hl,_⟩:=hpre;constructor
  ·intro i x h hx;obtain ⟨h1,h2⟩:=msk_some h hx;have hi:=(List.getElem?_eq_some_iff.1 h2).1;refine ⟨x,?_,.inl rfl⟩;rw [msk_out h1];simp only [Eff.ap]
   grind
  ·intro i x h hx;obtain ⟨h1,h2⟩:=msk_some h hx;refine ⟨x,?_,.inl rfl⟩;rw [msk_out h1];simp only [Eff.ap] at h2
   grind
theorem msk_quiet {M:List Nat} {e:Eff} {hp:List Ob} (hq:e.loud=false) (hw:∀b∈e.wr,b∈M):msk M (e.ap hp)=msk M hp:=by
 cases e with
 | non=>rfl
 | fill s ob=>exact msk_set (hw s (by simp [Eff.wr]))
 | _=>simp [Eff.loud] at hq
theorem fzObs_set {ts:List Nat} {s:Nat} {ob:Ob} (h:s∉ts):∀hp:List Ob,fzObs ts (hp.set s ob)=(fzObs ts hp).set s ob:=by
 induction ts with
 | nil=>intro hp;rfl
 | cons t ts ih=>
  intro hp;have hne:t≠s:=fun e=>h (by simp [e]);have hn:s∉ts:=fun h'=>h (List.mem_cons_of_mem _ h');show fzObs ts (match (hp.set s ob)[t]? with | some o=>(hp.set s ob).set t (fzOb o) | none=>hp.set s ob)=_;rw [List.getElem?_set_ne (Ne.symm hne)];show _=(fzObs ts (match hp[t]? with | some o=>hp.set t (fzOb o) | none=>hp)).set s ob;cases hp[t]? with
  | none=>exact ih hn hp
  | some o=>
   simp only;rw [List.set_comm _ _ (Ne.symm hne)];exact ih hn _
theorem eff_comm {e f:Eff} {hp:List Ob} (he:e.loud=false) (hpe:e.pre hp) (hpf:f.pre hp) (hd:∀b∈e.wr,b∉f.wr) (ht:∀b∈e.wr,b∉f.ts):e.ap (f.ap hp)=f.ap (e.ap hp):=by
 cases e with
 | non=>rfl
 | fill s ob=>
  have hs:s∉f.wr:=hd s (by simp [Eff.wr]);have ht:s∉f.ts:=ht s (by simp [Eff.wr]);simp only [Eff.pre] at hpe;have hlt:=(List.getElem?_eq_some_iff.1 hpe).1;cases f with
  | non=>rfl
  | fz ts=>simp only [Eff.ap];exact (fzObs_set (by simpa [Eff.ts] using ht) hp).symm
  | fill s' ob'=>simp only [Eff.ap];rw [List.set_comm];simp [Eff.wr] at hs;omega
  | sto s' ob'=>simp only [Eff.ap];rw [List.set_comm];simp [Eff.wr] at hs;omega
  | rc ts s' ob'=>
   simp only [Eff.ap];rw [fzObs_set (by simpa [Eff.ts] using ht) hp,List.set_comm];simp [Eff.wr] at hs;omega
  | own n M2 L1 W=>simp only [Eff.ap];exact (own_set hpf hs hlt).symm
  | app b d c=>
   simp [Eff.wr] at hs;simp only [Eff.ap];rw [List.set_append_left _ _ (by simpa using hlt),List.set_comm _ _ (fun e=>hs.1 e.symm)]
 | _=>simp [Eff.loud] at he
theorem pre_back {e f:Eff} {hp:List Ob} (hl:e.loud=false∨f.loud=false) (hpf:f.pre hp) (hd:∀b∈e.wr,b∉f.wr) (h:e.pre (f.ap hp)):e.pre hp:=by
 have len:f.loud=false→(f.ap hp).length=hp.length:=by
  intro hq;cases f<;>simp [Eff.loud] at hq<;>simp [Eff.ap]
 cases e with
 | non=>trivial
 | fz ts=>trivial
 | fill s ob=>
  simp only [Eff.pre] at h ⊢
  have hs:s∉f.wr:=hd s (by simp [Eff.wr]);cases f with
  | non=>exact h
  | fz ts=>
   obtain ⟨x,h1,h2,h3⟩:=fzObs_cell' h
   rcases h3 with rfl | ⟨_,_,_,e,_⟩
   all_goals simp_all
  | fill s' ob'=>simp [Eff.wr] at hs;simp only [Eff.ap] at h;grind
  | sto s' ob'=>simp [Eff.wr] at hs;simp only [Eff.ap] at h;grind
  | rc ts s' ob'=>
   simp [Eff.wr] at hs;simp only [Eff.ap] at h;rw [List.getElem?_set_ne (Ne.symm hs)] at h;obtain ⟨x,h1,h2,h3⟩:=fzObs_cell' h
   rcases h3 with rfl | ⟨_,_,_,e,_⟩
   all_goals simp_all
  | own n M2 L1 W=>exact (own_get hpf hs).symm.trans h
  | app b d c=>
   simp [Eff.wr] at hs;simp only [Eff.ap] at h;obtain ⟨hl1,hl2⟩:=hpf
   grind
 | app b d c=>
  have hq:f.loud=false:=by simpa [Eff.loud] using hl
  simp only [Eff.pre,len hq] at h ⊢;exact h
 | sto b ob=>
  have hq:f.loud=false:=by simpa [Eff.loud] using hl
  simp only [Eff.pre,len hq] at h ⊢;exact h
 | rc ts b ob=>
  have hq:f.loud=false:=by simpa [Eff.loud] using hl
  simp only [Eff.pre,len hq] at h ⊢;exact h
 | own n M2 L1 W=>
  have hq:f.loud=false:=by simpa [Eff.loud] using hl
  simp only [Eff.pre,len hq] at h ⊢;exact h
theorem pre_on {e f:Eff} {hp:List Ob} (hl:e.loud=false∨f.loud=false) (hpf:f.pre hp) (hd:∀b∈e.wr,b∉f.wr) (h:e.pre hp):e.pre (f.ap hp):=by
 have len:f.loud=false→(f.ap hp).length=hp.length:=by
  intro hq;cases f<;>simp [Eff.loud] at hq<;>simp [Eff.ap]
 cases e with
 | non=>trivial
 | fz ts=>trivial
 | fill s ob=>
  simp only [Eff.pre] at h ⊢
  have hs:s∉f.wr:=hd s (by simp [Eff.wr]);have hlt:=(List.getElem?_eq_some_iff.1 h).1;have fzg:∀ts,(fzObs ts hp)[s]? =some .gone:=by
   intro ts;obtain ⟨x,h1,h2,h3⟩:=fzObs_cell (ts:=ts) h
   rcases h2 with rfl | ⟨_,_,_,e,_⟩
   ·exact h1
   ·simp at e
  cases f with
  | non=>exact h
  | fz ts=>exact fzg ts
  | fill s' ob'=>simp [Eff.wr] at hs;simp only [Eff.ap];grind
  | sto s' ob'=>simp [Eff.wr] at hs;simp only [Eff.ap];grind
  | rc ts s' ob'=>simp [Eff.wr] at hs;simp only [Eff.ap];grind
  | own n M2 L1 W=>exact (own_get hpf hs).trans h
  | app b d c=>
   simp [Eff.wr] at hs;simp only [Eff.ap]
   grind
 | app b d c=>
  have hq:f.loud=false:=by simpa [Eff.loud] using hl
  simp only [Eff.pre,len hq] at h ⊢;exact h
 | sto b ob=>
  have hq:f.loud=false:=by simpa [Eff.loud] using hl
  simp only [Eff.pre,len hq] at h ⊢;exact h
 | rc ts b ob=>
  have hq:f.loud=false:=by simpa [Eff.loud] using hl
  simp only [Eff.pre,len hq] at h ⊢;exact h
 | own n M2 L1 W=>
  have hq:f.loud=false:=by simpa [Eff.loud] using hl
  simp only [Eff.pre,len hq] at h ⊢;exact h
end Go.Sx
namespace Go.Sx
def tmpsOf (l:List Operand):List Nat:=l.filterMap fun
 | .tmp i=>some i
 | _=>none
def usesOp (ops:Array Oper) (o:Oper):List Nat:=
 tmpsOf o.op.operands.toList++(match o.guard with
  | none=>[]
  | some g=>match (ops[g.1]?).bind (·.dst) with
   | some d=>[d]
   | none=>[])
theorem mem_tmpsOf {l:List Operand} {i:Nat} (h:Operand.tmp i∈l):i∈tmpsOf l:=by
 unfold tmpsOf
 grind
theorem evR_put {regs:List RV} {d:Option Tmp} {r:RV} {x:Operand} (h:∀i,x= .tmp i→d≠some i):evR (putR regs d r) x=evR regs x:=by
 cases x with
 | tmp i=>
  cases d with
  | none=>rfl
  | some d=>
   have:d≠i:=fun e=>h i rfl (by rw [e]);simp only [evR,putR,List.getD_eq_getElem?_getD]
   simp_all
 | _=>rfl
section
variable {P:Program} {T:Tab} {G:Globs} {V:ValR} {ops:Array Oper}
theorem map_snd_congr {ρ ρ':Operand→RV} {l:List (Nat×Operand)} (h:∀p∈l,ρ p.2=ρ' p.2):(l.map fun p=>(p.1,ρ p.2))=l.map fun p=>(p.1,ρ' p.2):=
 List.map_congr_left fun p hp=>by rw [h p hp]
theorem optmap_congr {ρ ρ':Operand→RV} {x:Option Operand} (h:∀y,x=some y→ρ y=ρ' y):x.map ρ=x.map ρ':=by
 cases x with
 | none=>rfl
 | some y=>simp [h y rfl]
theorem opA_congr {o:Oper} {ρ ρ':Operand→RV} (h:∀x∈o.op.operands,ρ x=ρ' x) (hp:List Ob):opA P T G ρ o hp=opA P T G ρ' o hp:=by
 obtain ⟨dst,op,type,pos,after,guard⟩:=o;cases op with
 | build t ps=>
  have:(ps.toList.map fun p=>(p.1,ρ p.2))=ps.toList.map fun p=>(p.1,ρ' p.2):=map_snd_congr fun p hp=>h p.2 (by simp [Op.operands];grind);simp only [opA,this]
 | buildSlice t len ps=>
  have:(ps.toList.map fun p=>(p.1,ρ p.2))=ps.toList.map fun p=>(p.1,ρ' p.2):=map_snd_congr fun p hp=>h p.2 (by simp [Op.operands];grind);simp only [opA,this]
 | makeFunc fn a b=>
  have h1:a.toList.map ρ=a.toList.map ρ':=List.map_congr_left fun x hx=>h x (by simp [Op.operands];simp_all);have h2:b.toList.map ρ=b.toList.map ρ':=List.map_congr_left fun x hx=>h x (by simp [Op.operands];simp_all);simp only [opA,h1,h2]
 | slice t x lo hi mx=>
  have hx:ρ x=ρ' x:=h x (by simp [Op.operands]);have h1:lo.map ρ=lo.map ρ':=optmap_congr fun y e=>h y (by subst e;simp [Op.operands]);have h2:hi.map ρ=hi.map ρ':=optmap_congr fun y e=>h y (by subst e;simp [Op.operands]);have h3:mx.map ρ=mx.map ρ':=optmap_congr fun y e=>h y (by subst e;simp [Op.operands]);simp only [opA,hx,h1,h2,h3]
 | makeMap t r=>cases r<;>rfl
 | call c=>
  obtain ⟨callee,args,ats⟩:=c;cases callee with
  | builtin b=>
   have:args.toList.map ρ=args.toList.map ρ':=List.map_congr_left fun x hx=>h x (by simp [Op.operands,Call.operands];simpa using hx);simp only [opA,this]
  | _=>rfl
 | next it b=>
  have h1:ρ it=ρ' it:=h it (by simp [Op.operands]);cases b<;>simp [opA,h1]
 | _=>
  simp only [Op.operands] at h
  first
   | rfl
   | (simp at h;simp only [opA,h])
theorem freshA_congr {o:Oper} {ρ ρ':Operand→RV} (h:∀x∈o.op.operands,ρ x=ρ' x) (s:Nat):freshA T ρ o s=freshA T ρ' o s:=by
 obtain ⟨dst,op,type,pos,after,guard⟩:=o;cases op with
 | box t x=>simp only [freshA,h x (by simp [Op.operands])]
 | buildSlice t len ps=>
  have:(ps.toList.map fun p=>(p.1,ρ p.2))=ps.toList.map fun p=>(p.1,ρ' p.2):=map_snd_congr fun p hp=>h p.2 (by simp [Op.operands];grind);simp only [freshA,this]
 | _=>rfl
theorem callOf_mem {o:Op} {f:Operand} {args:List Operand} (h:callOf o=some (f,args)):f∈o.operands∧∀x∈args,x∈o.operands:=by
 cases o with
 | call c=>
  obtain ⟨callee,as,ats⟩:=c;cases callee with
  | value g=>
   simp only [callOf,Option.some.injEq,Prod.mk.injEq] at h;obtain ⟨rfl,rfl⟩:=h;refine ⟨by simp [Op.operands,Call.operands],fun x hx=> ?_⟩;simp [Op.operands,Call.operands]
   simp_all
  | _=>simp [callOf] at h
 | _=>simp [callOf] at h
def DoM (P:Program) (T:Tab) (G:Globs) (V:ValR) (sl:Option Nat) (o:Oper) (ρ:Operand→RV) (h:List Ob) (r:RV) (e:Eff):Prop:=
 match callOf o.op with
 | some (f,args)=>(∃g as as' ts,calOf (ρ f) (args.map ρ)=some (.fn g,as)∧fzRs h as=some (as',ts)∧V.v g as' r∧e=if scalarR r then .non else .fz ts)∨
  (∃c as M2 L1 W,calOf (ρ f) (args.map ρ)=some (c,as)∧V.o c as (msk M2 h) r L1∧(∀(b:Nat) o,b∉M2→h[b]? =some o→liveOb o=true)∧e= .own h.length M2 L1 W)
 | none=>match sl with
  | some s=>∃ob,freshA T ρ o s=some (r,ob)∧e= .fill s ob
  | none=>
   (e= .non∧∀hp2,Up h hp2→opA P T G ρ o hp2=some (r,hp2))∨
   (∃M2 L1 W,opA P T G ρ o (msk M2 h)=some (r,L1)∧(∀(b:Nat) o,b∉M2→h[b]? =some o→liveOb o=true)∧e= .own h.length M2 L1 W)
theorem DoM.congr {sl:Option Nat} {o:Oper} {ρ ρ':Operand→RV} {h:List Ob} {r:RV} {e:Eff} (hρ:∀x∈o.op.operands,ρ x=ρ' x) (hd:DoM P T G V sl o ρ h r e):DoM P T G V sl o ρ' h r e:=by
 unfold DoM at*;split
 ·rename_i f args hc;simp only [hc] at hd;obtain ⟨hf,ha⟩:=callOf_mem hc;have:args.map ρ'=args.map ρ:=List.map_congr_left fun x hx=>(hρ x (ha x hx)).symm
  grind
 ·rename_i hc;simp only [hc] at hd;split
  ·rename_i s;rw [← freshA_congr hρ];exact hd
  ·simp only at hd;have:∀hp,opA P T G ρ' o hp=opA P T G ρ o hp:=fun hp=>(opA_congr hρ hp).symm
   simp_all
theorem DoM.up {sl:Option Nat} {o:Oper} {ρ:Operand→RV} {h h':List Ob} {r:RV} {e:Eff} (hq:e.loud=false) (hu:Up h h') (hd:DoM P T G V sl o ρ h r e):DoM P T G V sl o ρ h' r e:=by
 unfold DoM at*;split
 ·rename_i f args hc;simp only [hc] at hd
  rcases hd with ⟨g,as,as',ts,h1,h2,h3,h4⟩ | ⟨c,as,M2,L1,W,_,_,_,rfl⟩
  ·exact .inl ⟨g,as,as',ts,h1,fzRs_up hu h2,h3,h4⟩
  ·simp [Eff.loud] at hq
 ·rename_i hc;simp only [hc] at hd;split
  ·exact hd
  ·simp only at hd
   rcases hd with ⟨he,hr⟩ | ⟨M2,L1,W,h1,h2,rfl⟩
   ·exact .inl ⟨he,fun hp2 h2=>hr hp2 (hu.trans h2)⟩
   ·simp [Eff.loud] at hq
theorem fzRs_cells {L:List Ob} {rs rs':List RV} {ts:List Nat} (h:fzRs L rs=some (rs',ts)):AllCells L ts:=by
 unfold fzRs at h;split at h
 ·rename_i ys hm;simp at h;obtain ⟨rfl,rfl⟩:=h;apply AllCells.flat;intro y hy;obtain ⟨x,hx,hf⟩:=mapOpt_mem hm hy;exact fzR_cells (y:=y.1) (ts:=y.2) hf
 ·simp at h
theorem DoM.ts {sl:Option Nat} {o:Oper} {ρ:Operand→RV} {M:List Nat} {hp:List Ob} {r:RV} {e:Eff} (hd:DoM P T G V sl o ρ (msk M hp) r e):∀b∈e.ts,b∉M:=by
 unfold DoM at hd;intro b hb;split at hd
 ·rcases hd with ⟨g,as,as',ts,h1,h2,h3,rfl⟩ | ⟨c,as,M2,L1,W,_,_,_,rfl⟩
  ·split at hb
   ·simp [Eff.ts] at hb
   ·obtain ⟨cs,fz,hc⟩:=fzRs_cells h2 b hb;exact (msk_some hc (by simp)).1
  ·simp [Eff.ts] at hb
 ·split at hd
  ·obtain ⟨ob,h1,rfl⟩:=hd;simp [Eff.ts] at hb
  ·rcases hd with ⟨rfl,_⟩ | ⟨M2,L1,W,h1,h2,rfl⟩<;>simp [Eff.ts] at hb
def OneM (P:Program) (T:Tab) (G:Globs) (V:ValR) (ops:Array Oper) (sl:Option Nat) (M:List Nat) (o:Oper) (st:St) (r:RV) (e:Eff):Prop:=
 (wantedR ops st.regs o=some false∧r=undefR∧e= .non)∨(wantedR ops st.regs o=some true∧goodO o=true∧DoM P T G V sl o (evR st.regs) (msk M st.hp) r e)
structure Plan where
 sl:Nat→Option Nat
 M:Nat→List Nat
 wr:Nat→List Nat
 lou:Nat→Bool
def StepM (P:Program) (T:Tab) (G:Globs) (V:ValR) (ops:Array Oper) (pl:Plan) (i:Nat) (st st':St):Prop:=
 ∃o r e,ops[i]? =some o∧OneM P T G V ops (pl.sl i) (pl.M i) o st r e∧e.pre st.hp∧(∀b∈e.wr,b∈pl.wr i)∧(e.loud=true→pl.lou i=true)∧st'=⟨putR st.regs o.dst r,e.ap st.hp⟩
structure Ind (ops:Array Oper) (pl:Plan) (i j:Nat):Prop where
 regs:∀oi oj,ops[i]? =some oi→ops[j]? =some oj→(∀d,oi.dst=some d→d∉usesOp ops oj)∧(∀d,oj.dst=some d→d∉usesOp ops oi)∧(∀d,oi.dst=some d→oj.dst≠some d)
 lou:pl.lou i=false∨pl.lou j=false
 wrM:(∀b∈pl.wr j,b∈pl.M i)∧(∀b∈pl.wr i,b∈pl.M j)
 dis:∀b∈pl.wr i,b∉pl.wr j
theorem guardR_put {regs:List RV} {d:Option Tmp} {r:RV} {g:Nat×Bool} (h:∀k,(ops[g.1]?).bind (·.dst)=some k→d≠some k):guardR ops (putR regs d r) g=guardR ops regs g:=by
 unfold guardR;cases hk:(ops[g.1]?).bind (·.dst) with
 | none=>rfl
 | some k=>
  cases d with
  | none=>rfl
  | some d=>
   have:d≠k:=fun e=>h k hk (by rw [e]);simp only [putR]
   simp_all
theorem wantedR_put {regs:List RV} {d:Option Tmp} {r:RV} {o:Oper} (h:∀k,d=some k→k∉usesOp ops o):wantedR ops (putR regs d r) o=wantedR ops regs o:=by
 unfold wantedR;cases hg:o.guard with
 | none=>rfl
 | some g=>
  refine guardR_put fun k hk e=>h k e ?_;unfold usesOp;simp [hg,hk]
theorem evR_uses {regs:List RV} {d:Option Tmp} {r:RV} {o:Oper} (h:∀k,d=some k→k∉usesOp ops o):∀x∈o.op.operands,evR (putR regs d r) x=evR regs x:=by
 intro x hx;refine evR_put fun i e he=>h i he ?_;unfold usesOp;rw [List.mem_append];exact .inl (mem_tmpsOf (by simp_all))
theorem OneM.regs {sl:Option Nat} {M:List Nat} {o:Oper} {regs regs':List RV} {hp:List Ob} {r:RV} {e:Eff} (hw:wantedR ops regs' o=wantedR ops regs o) (hx:∀x∈o.op.operands,evR regs x=evR regs' x)
  (h:OneM P T G V ops sl M o ⟨regs,hp⟩ r e):OneM P T G V ops sl M o ⟨regs',hp⟩ r e:=by
 rcases h with ⟨h1,h2⟩ | ⟨h1,h2,h3⟩
 ·exact .inl ⟨hw.trans h1,h2⟩
 ·exact .inr ⟨hw.trans h1,h2,h3.congr hx⟩
theorem OneM.heap {sl:Option Nat} {M:List Nat} {o:Oper} {regs:List RV} {hp hp':List Ob} {r:RV} {e:Eff} (hu:(e.loud=false∧Up (msk M hp) (msk M hp'))∨msk M hp=msk M hp')
  (h:OneM P T G V ops sl M o ⟨regs,hp⟩ r e):OneM P T G V ops sl M o ⟨regs,hp'⟩ r e:=by
 rcases h with ⟨h1,h2⟩ | ⟨h1,h2,h3⟩
 ·exact .inl ⟨h1,h2⟩
 ·rcases hu with ⟨hq,hu⟩ | hu
  ·exact .inr ⟨h1,h2,h3.up hq hu⟩
  ·refine .inr ⟨h1,h2,?_⟩
   simp_all
theorem OneM.ts {sl:Option Nat} {M:List Nat} {o:Oper} {st:St} {r:RV} {e:Eff} (h:OneM P T G V ops sl M o st r e):∀b∈e.ts,b∉M:=by
 rcases h with ⟨_,_,rfl⟩ | ⟨_,_,h3⟩
 ·intro b hb;simp [Eff.ts] at hb
 ·exact h3.ts
theorem putR_comm {regs:List RV} {d d':Option Tmp} {r r':RV} (h:∀k,d=some k→d'≠some k):putR (putR regs d r) d' r'=putR (putR regs d' r') d r:=by
 cases d with
 | none=>rfl
 | some d=>
  cases d' with
  | none=>rfl
  | some d'=>
   simp only [putR];rw [List.set_comm]
   grind
theorem StepM.swap {pl:Plan} {i j:Nat} (hi:Ind ops pl i j) {st st1 st2:St} (h1:StepM P T G V ops pl j st st1) (h2:StepM P T G V ops pl i st1 st2):
  ∃st1',StepM P T G V ops pl i st st1'∧StepM P T G V ops pl j st1' st2:=by
 obtain ⟨oj,rj,ej,hoj,hj1,hj2,hj3,hj4,rfl⟩:=h1;obtain ⟨oi,ri,ei,hoi,hi1,hi2,hi3,hi4,rfl⟩:=h2;obtain ⟨g1,g2,g3⟩:=hi.regs oi oj hoi hoj;simp only at hi1 hi2;have hq:ei.loud=false∨ej.loud=false:=by
  rcases hi.lou with h | h
  ·simp_all
  ·simp_all
 have wj:∀b∈ej.wr,b∈pl.M i:=fun b hb=>hi.wrM.1 b (hj3 b hb);have wi:∀b∈ei.wr,b∈pl.M j:=fun b hb=>hi.wrM.2 b (hi3 b hb);have dij:∀b∈ei.wr,b∉ej.wr:=fun b hb hb'=>hi.dis b (hi3 b hb) (hj3 b hb');have dji:∀b∈ej.wr,b∉ei.wr:=fun b hb hb'=>dij b hb' hb;have a1:OneM P T G V ops (pl.sl i) (pl.M i) oi st ri ei:=by
  have b1:OneM P T G V ops (pl.sl i) (pl.M i) oi ⟨st.regs,ej.ap st.hp⟩ ri ei:=hi1.regs (wantedR_put fun k hk=>g2 k hk).symm fun x hx=>evR_uses (fun k hk=>g2 k hk) x hx;refine b1.heap ?_
  rcases hq with hq | hq
  ·exact .inl ⟨hq,(up_eff hj2 wj).2⟩
  ·exact .inr (msk_quiet hq wj)
 have p1:ei.pre st.hp:=pre_back hq hj2 dij hi2;have hjts:∀b∈ei.wr,b∉ej.ts:=fun b hb hb'=>hj1.ts b hb' (wi b hb);have hits:∀b∈ej.wr,b∉ei.ts:=fun b hb hb'=>a1.ts b hb' (wj b hb);refine ⟨_,⟨oi,ri,ei,hoi,a1,p1,hi3,hi4,rfl⟩,⟨oj,rj,ej,hoj,?_,pre_on hq.symm p1 dji hj2,hj3,hj4,?_⟩⟩
 ·have b1:OneM P T G V ops (pl.sl j) (pl.M j) oj ⟨putR st.regs oi.dst ri,st.hp⟩ rj ej:=OneM.regs (regs:=st.regs) (wantedR_put fun k hk=>g1 k hk) (fun x hx=>(evR_uses (fun k hk=>g1 k hk) x hx).symm) hj1;refine b1.heap ?_
  rcases hq with hq | hq
  ·exact .inr (msk_quiet hq wi).symm
  ·exact .inl ⟨hq,(up_eff p1 wi).1⟩
 ·have e1:putR (putR st.regs oj.dst rj) oi.dst ri=putR (putR st.regs oi.dst ri) oj.dst rj:=(putR_comm g3).symm;have e2:ei.ap (ej.ap st.hp)=ej.ap (ei.ap st.hp):=by
   rcases hq with hq | hq
   ·exact eff_comm hq p1 hj2 dij hjts
   ·exact (eff_comm hq hj2 p1 dji hits).symm
  simp_all
theorem own_sees {M M2:List Nat} {hp:List Ob} (k3:∀(b:Nat) o,b∉M2→(msk M hp)[b]? =some o→liveOb o=true):
  msk M2 (msk M hp)=msk M2 hp∧∀(b:Nat) o,b∉M2→hp[b]? =some o→liveOb o=true:=by
 have hsub:∀b∈M,b<hp.length→b∈M2:=by
  intro b hb hl
  by_cases hm:b∈M2
  ·exact hm
  ·have:=k3 b .gone hm (by rw [msk_in hb,List.getElem?_eq_getElem hl];rfl);simp [liveOb] at this
 refine ⟨msk_msk hsub,fun b o hb ho=>k3 b o hb ?_⟩;rw [msk_out]
 all_goals grind
theorem StepM.toD {pl:Plan} {i:Nat} {st st':St} (h:StepM P T G V ops pl i st st'):StepD P T G V ops pl.sl i st st':=by
 obtain ⟨o,r,e,ho,h1,hpre,_,_,rfl⟩:=h;refine ⟨o,ho,?_⟩
 rcases h1 with ⟨hw,rfl,rfl⟩ | ⟨hw,hg,hd⟩
 ·exact .inl ⟨hw,rfl⟩
 ·refine .inr ⟨hw,hg,r,e.ap st.hp,?_,rfl⟩;unfold DoM at hd;unfold ActD;split
  ·rename_i f args hc;simp only [hc] at hd
   rcases hd with ⟨g,as,as',ts,k1,k2,k3,rfl⟩ | ⟨c,as,M2,L1,W,k1,k2,k3,rfl⟩
   ·refine .inl ⟨g,as,as',ts,k1,fzRs_up (Up.msk _ _) k2,k3,?_⟩;split<;>rfl
   ·obtain ⟨p1,p2,p3,p4⟩:=hpre;obtain ⟨s1,s2⟩:=own_sees k3;exact .inr ⟨c,as,M2,L1,k1,by simp_all,fun b hb=>by simp_all,s2,rfl⟩
  ·rename_i hc;simp only [hc] at hd;split
   ·rename_i s hs;simp only [hs] at hd;obtain ⟨ob,k1,rfl⟩:=hd;exact ⟨ob,k1,hpre,rfl⟩
   ·rename_i hs;simp only [hs] at hd
    rcases hd with ⟨rfl,k⟩ | ⟨M2,L1,W,k1,k2,rfl⟩
    ·exact k _ (Up.msk _ _)
    ·obtain ⟨p1,p2,p3,p4⟩:=hpre;obtain ⟨s1,s2⟩:=own_sees k2;rw [s1] at k1;exact opA_frame (fun b hb=>by simp_all) k1
end
end Go.Sx
namespace Go.Sx
def befMask (acc:List Nat) (o:Oper):Nat:=o.after.toList.foldl (fun s e=>if Region.binds .any e then s ||| 2^e.on ||| acc.getD e.on 0 else s) 0
def befs (acc:List Nat):List Oper→List Nat
 | []=>acc
 | o::os=>befs (acc++[befMask acc o]) os
def JustB (ops:List Oper) (acc:List Nat):Prop:=∀i j,(acc.getD i 0).testBit j=true→∃o,ops[i]? =some o∧∃e∈o.after,Region.binds .any e=true∧(e.on=j∨(acc.getD e.on 0).testBit j=true)
theorem befMask_bit {acc:List Nat} {o:Oper} {j:Nat} (h:(befMask acc o).testBit j=true):∃e∈o.after,Region.binds .any e=true∧(e.on=j∨(acc.getD e.on 0).testBit j=true):=by
 have key:∀(l:List Edge) (s:Nat),(l.foldl (fun s e=>if Region.binds .any e then s ||| 2^e.on ||| acc.getD e.on 0 else s) s).testBit j=true→
   s.testBit j=true∨∃e∈l,Region.binds .any e=true∧(e.on=j∨(acc.getD e.on 0).testBit j=true):=by
  intro l
  induction l with
  | nil=>simp_all
  | cons e l ih=>
   grind
 rcases key _ _ h with h' | ⟨e,h1,h2⟩
 all_goals grind
theorem befs_just:∀(rest:List Oper) (pre:List Oper) (acc:List Nat),acc.length=pre.length→JustB (pre++rest) acc→JustB (pre++rest) (befs acc rest)
 | [],pre,acc,_,h=>h
 | o::rest,pre,acc,hl,h=>by
  have e:pre++o::rest=(pre++[o])++rest:=by simp
  rw [e] at h ⊢
  refine befs_just rest (pre++[o]) (acc++[befMask acc o]) (by simp [hl]) ?_;intro i j hb
  rcases Nat.lt_or_ge i acc.length with hi | hi
  ·have hb':(acc.getD i 0).testBit j=true:=by
    rw [List.getD_eq_getElem?_getD,List.getElem?_append_left hi] at hb;rw [List.getD_eq_getElem?_getD];exact hb
   obtain ⟨o',h1,ed,h2,h3,h4⟩:=h i j hb'
   grind
  ·rcases Nat.eq_or_lt_of_le hi with he | hgt
   ·subst he;rw [List.getD_eq_getElem?_getD,List.getElem?_append_right (Nat.le_refl _)] at hb;simp only [Nat.sub_self,List.getElem?_cons_zero,Option.getD_some] at hb;obtain ⟨ed,h2,h3,h4⟩:=befMask_bit hb
    grind
   grind
theorem befs_ok (ops:Array Oper):JustB ops.toList (befs [] ops.toList):=by
 have:=befs_just ops.toList [] [] rfl (by intro i j h;simp at h)
 simp_all
def backOk (ops:Array Oper):Bool:=ops.toList.zipIdx.all fun (o,i)=>o.after.toList.all fun e=> !Region.binds .any e || Nat.blt e.on i
theorem backOk_spec {ops:Array Oper} (h:backOk ops=true) {i:Nat} {o:Oper} (ho:ops[i]? =some o) {e:Edge} (he:e∈o.after) (hb:Region.binds .any e=true):e.on<i:=by
 unfold backOk at h;rw [List.all_eq_true] at h;have hm:(o,i)∈ops.toList.zipIdx:=by
  rw [List.mem_zipIdx_iff_getElem?]
  simpa using ho
 have h1:=h (o,i) hm;simp only [List.all_eq_true] at h1;have h2:=h1 e (Array.mem_toList_iff.2 he)
 simp_all
section
variable {P:Program} {T:Tab} [TOk P T] {G:Globs} {V:ValR} {ops:Array Oper} {md:Region.Mode}
def RunM (P:Program) (T:Tab) (G:Globs) (V:ValR) (ops:Array Oper) (pl:Plan):List Nat→St→St→Prop
 | [],st,st'=>st'=st
 | i::l,st,st'=>∃s,StepM P T G V ops pl i st s∧RunM P T G V ops pl l s st'
theorem RunM.front {pl:Plan} {i:Nat}:∀{s t:List Nat} {st st':St},(∀j∈s,Ind ops pl i j)→RunM P T G V ops pl (s++i::t) st st'→RunM P T G V ops pl (i::(s++t)) st st'
 | [],t,st,st',_,h=>h
 | j::s,t,st,st',hi,h=>by
  obtain ⟨s1,h1,h2⟩:=h;obtain ⟨s2,h3,h4⟩:=RunM.front (fun k hk=>hi k (List.mem_cons_of_mem _ hk)) h2;obtain ⟨s3,h5,h6⟩:=StepM.swap (hi j (by simp)) h1 h3;exact ⟨s3,h5,s2,h6,h4⟩
def restOf (n:Nat) (listed:Array Bool):List Nat:=(List.range n).filter fun i=> !listed.getD i true
theorem restOf_set {n i:Nat} {listed:Array Bool} {s t:List Nat} (h:restOf n listed=s++i::t) (hlt:i<listed.size):restOf n (listed.setIfInBounds i true)=s++t:=by
 have hnd:(restOf n listed).Nodup:=List.Nodup.sublist List.filter_sublist List.nodup_range;have h1:restOf n (listed.setIfInBounds i true)=(restOf n listed).filter fun k=>k !=i:=by
  unfold restOf;rw [List.filter_filter];apply List.filter_congr;intro k _
  by_cases hk:k=i
  ·simp_all
  ·rw [getD_set_ne true (Ne.symm hk)];simp [hk]
 rw [h1,h];rw [h] at hnd;rw [List.nodup_append] at hnd;obtain ⟨n1,n2,n3⟩:=hnd;rw [List.nodup_cons] at n2;rw [List.filter_append,List.filter_cons];simp only [bne_self_eq_false,Bool.false_eq_true,if_false];rw [List.filter_eq_self.2,List.filter_eq_self.2]
 all_goals grind
def ClosedL (ops:Array Oper) (listed:Array Bool):Prop:=∀i o,listed.getD i false=true→ops[i]? =some o→∀e∈o.after,Region.binds .any e=true→listed.getD e.on false=true
theorem closed_down (hback:backOk ops=true) {listed:Array Bool} (hc:ClosedL ops listed) {j:Nat}:∀(n i:Nat),i≤n→((befs [] ops.toList).getD i 0).testBit j=true→(∀o,ops[i]? =some o→∀e∈o.after,Region.binds .any e=true→listed.getD e.on false=true)→listed.getD j false=true
 | n,i,hn,hb,hp=>by
  obtain ⟨o,h1,e,h2,h3,h4⟩:=befs_ok ops i j hb;have ho:ops[i]? =some o:=by simpa using h1
  have hl:=hp o ho e h2 h3
  rcases h4 with rfl | h4
  ·exact hl
  ·have hlt:=backOk_spec hback ho h2 h3
   match n,hn with
   | 0,hn=>omega
   | n+1,hn=>exact closed_down hback hc n e.on (by omega) h4 (fun o' ho' e' he' hb'=>hc e.on o' hl ho' e' he' hb')
theorem any_le {e:Edge} (h:Region.binds .any e=true):Region.binds md e=true:=by
 unfold Region.binds at*
 grind
theorem AnyD.of_run (hback:backOk ops=true) {pl:Plan} (hB:∀i j,j<i→i<ops.size→((befs [] ops.toList).getD i 0).testBit j=true∨Ind ops pl i j)
  {Q:St→Prop} {stE:St} (hQ:Q stE):∀(fuel:Nat) (listed:Array Bool) (st:St),listed.size=ops.size→ClosedL ops listed→(restOf ops.size listed).length=fuel→
  RunM P T G V ops pl (restOf ops.size listed) st stE→AnyD P T G V .any ops pl.sl Q fuel listed st
 | 0,listed,st,hsz,hc,hl,hr=>by
  have:restOf ops.size listed=[]:=List.eq_nil_of_length_eq_zero hl;rw [this] at hr;simp only [RunM] at hr;subst hr;exact hQ
 | fuel+1,listed,st,hsz,hc,hl,hr=>by
  have hsorted:(restOf ops.size listed).Pairwise (·<·):=List.Pairwise.sublist List.filter_sublist List.pairwise_lt_range;refine ⟨fun hnil=> ?_,fun i hi=> ?_⟩
  ·exfalso;cases hrest:restOf ops.size listed with
   | nil=>simp_all
   | cons k ks=>
    have hk:k∈restOf ops.size listed:=by rw [hrest];simp
    unfold restOf at hk;rw [List.mem_filter] at hk;have hkl:k<ops.size:=List.mem_range.1 hk.1;have hm:k∈Region.ready .any ops listed:=by
     rw [mem_ready];refine ⟨by simp_all,ops[k],by simp [hkl],fun e he hb=> ?_⟩;have hlt:=backOk_spec hback (i:=k) (o:=ops[k]) (by simp [hkl]) he hb;have hes:e.on<listed.size:=by rw [hsz];omega
     cases hle:listed[e.on] with
     | true=>simp [hes,hle]
     | false=>
      exfalso;have hme:e.on∈restOf ops.size listed:=by
       unfold restOf;rw [List.mem_filter];exact ⟨List.mem_range.2 (by omega),by simp [hes,hle]⟩
      rw [hrest] at hme hsorted
      rcases List.mem_cons.1 hme with h | h
      ·omega
      ·have:=(List.pairwise_cons.1 hsorted).1 e.on h;omega
    simp_all
  ·obtain ⟨hun,o,ho,hpre⟩:=mem_ready.1 hi;have hlt:i<ops.size:=(Array.getElem?_eq_some_iff.1 ho).1;have hmem:i∈restOf ops.size listed:=by
    unfold restOf;rw [List.mem_filter];exact ⟨List.mem_range.2 hlt,by rw [hun];rfl⟩
   obtain ⟨s,t,hst⟩:=List.append_of_mem hmem;have hpre':∀o,ops[i]? =some o→∀e∈o.after,Region.binds .any e=true→listed.getD e.on false=true:=by
    intro o' ho' e he hb;rw [ho] at ho';simp at ho';subst ho';exact hpre e he (any_le hb)
   have hind:∀j∈s,Ind ops pl i j:=by
    intro j hj;have hji:j<i:=by
     rw [hst,List.pairwise_append] at hsorted;exact hsorted.2.2 j hj i (by simp)
    rcases hB i j hji hlt with h | h
    ·exfalso;have hlj:=closed_down hback hc i i (Nat.le_refl _) h hpre';have hjm:j∈restOf ops.size listed:=by rw [hst];simp [hj]
     unfold restOf at hjm
     grind
    ·exact h
   rw [hst] at hr;obtain ⟨s1,h1,h2⟩:=RunM.front hind hr;refine ⟨s1,h1.toD,AnyD.of_run hback hB hQ fuel _ s1 (by simp [hsz]) ?_ ?_ ?_⟩
   ·intro k o' hk ho' e he hb
    by_cases hki:k=i
    ·subst hki;exact getD_set_true (hpre' o' ho' e he hb)
    ·rw [getD_set_ne false (Ne.symm hki)] at hk;exact getD_set_true (hc k o' hk ho' e he hb)
   ·rw [restOf_set hst (by omega)]
    grind
   ·rw [restOf_set hst (by omega)];exact h2
theorem DrawOk.of_plan (hwf:WFP T) (hV:V.Ok P G) {Q:St→Prop} {st stE:St} (as:List Nat) (pl:Plan) (hsl:pl.sl=slots as st.hp.length)
  (hback:backOk ops=true) (hB:∀i j,j<i→i<ops.size→((befs [] ops.toList).getD i 0).testBit j=true∨Ind ops pl i j)
  (hmix:P.follows .mixedOrders=true) (hrun:RunM P T G V ops pl (List.range ops.size) (padded as st) stE) (hQ:Q stE):DrawOk P G ops st Q:=by
 have e:restOf ops.size (Array.replicate ops.size false)=List.range ops.size:=by
  unfold restOf;rw [List.filter_eq_self];intro k hk;have:=List.mem_range.1 hk;simp [this]
 refine DrawOk.of_any hwf hV as ?_ hmix;rw [← hsl];refine AnyD.of_run hback hB hQ ops.size _ _ (by simp) ?_ (by rw [e];simp) (by simp_all);intro i o hi;exfalso
 by_cases h:i<ops.size<;>simp [h] at hi
end
end Go.Sx
namespace Go.Sx
noncomputable def nthQ (l:List RV):Nat→RV:=List.rec (motive:=fun _=>Nat→RV) (fun _=>undefR) (fun r _ ih n=>Nat.rec (motive:=fun _=>RV) r (fun m _=>ih m) n) l
noncomputable def setQ (v:RV) (l:List RV):Nat→List RV:=List.rec (motive:=fun _=>Nat→List RV) (fun _=>[]) (fun r rs ih n=>Nat.rec (motive:=fun _=>List RV) (v::rs) (fun m _=>r::ih m) n) l
theorem nthQ_eq:∀(l:List RV) (i:Nat),nthQ l i=l.getD i undefR
 | [],i=>by simp [nthQ]
 | r::l,0=>rfl
 | r::l,i+1=>by
  show nthQ l i=_;rw [nthQ_eq l i];simp
theorem setQ_eq (v:RV):∀(l:List RV) (i:Nat),setQ v l i=l.set i v
 | [],i=>by simp [setQ]
 | r::l,0=>rfl
 | r::l,i+1=>by
  show r::setQ v l i=_;rw [setQ_eq v l i];rfl
noncomputable def evQ (regs:List RV) (x:Operand):RV:=Operand.rec (motive:=fun _=>RV) (fun i=>nthQ regs i) (fun v=>(ofVal v).getD undefR) (fun g=>atR (.pointer (some ⟨g,0,none⟩))) (fun f=>atR (.func (.func f) #[] #[])) x
theorem evQ_eq (regs:List RV):evQ regs=evR regs:=by
 funext x;cases x with
 | tmp i=>exact nthQ_eq regs i
 | _=>rfl
noncomputable def putQ (regs:List RV) (dst:Option Tmp) (r:RV):List RV:=Option.rec (motive:=fun _=>List RV) regs (fun d=>setQ r regs d) dst
theorem putQ_eq (regs:List RV) (dst:Option Tmp) (r:RV):putQ regs dst r=putR regs dst r:=by
 cases dst with
 | none=>rfl
 | some d=>exact setQ_eq r regs d
def opQ (op:Op):Program→Tab→Globs→(Operand→RV)→Oper→List Ob→Option (RV×List Ob):=
 match op with
 | .move x=>fun _ _ _ ρ _ hp=>some (ρ x,hp)
 | .assign x=>fun _ _ _ ρ _ hp=>some (ρ x,hp)
 | .load t a=>fun _ T G ρ _ hp=>loadA T G t (ρ a) hp
 | .store t a v=>fun _ T _ ρ _ hp=>storeA T t (ρ a) (ρ v) hp
 | .binOp op t x y _=>fun P T _ ρ _ hp=>binA P T op t x y (ρ x) (ρ y) hp
 | .fieldAddr s x f=>fun _ T _ ρ _ hp=>fieldAddrA T s (ρ x) f hp
 | .indexAddr t x ix=>fun _ T _ ρ _ hp=>indexAddrA T t (ρ x) (ρ ix) hp
 | .convert s d x=>fun P T _ ρ _ hp=>match ρ x with
  | .v (.one (.ref b o))=>convRef P T s d b o hp
  | r=>convQ P T s d r hp
 | _=>fun P T G ρ o hp=>opA P T G ρ o hp
theorem opQ_eq (o:Oper) (P:Program) (T:Tab) (G:Globs) (ρ:Operand→RV) (hp:List Ob):opQ o.op P T G ρ o hp=opA P T G ρ o hp:=by
 obtain ⟨dst,op,type,pos,after,guard⟩:=o;cases op<;>rfl
end Go.Sx
