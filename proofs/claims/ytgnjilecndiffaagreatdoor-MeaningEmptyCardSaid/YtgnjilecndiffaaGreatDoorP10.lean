/- A part of the proof of MeaningEmpty. -/
import Derived.Test.YtgnjilecndiffaaGreatDoorP9
set_option linter.all false
set_option maxRecDepth 1000000
set_option maxHeartbeats 0
namespace Go.Sx
theorem ValC.mono {P:Program} {G:Globs} {f:FuncId} {args:List RV} {Q Q':RV→Prop} (h:ValC P G f args Q) (hq:∀r,Q r→Q' r):ValC P G f args Q':=
 CalOk.mono h (fun r L ⟨r',ts,h1,h2⟩=>⟨r',ts,h1,hq _ h2⟩)
theorem RefC.mono {P:Program} {G:Globs} {f:FuncId} {args:List RV} {cs:List LV} {Q Q':RV→List LV→Prop} (h:RefC P G f args cs Q) (hq:∀r c,Q r c→Q' r c):RefC P G f args cs Q':=
 CalOk.mono h (fun r L ⟨r',ts,cs',h1,h2,h3,h4,h5⟩=>⟨r',ts,cs',h1,h2,h3,h4,hq _ _ h5⟩)
end Go.Sx
namespace Go.Sx
theorem ite_fz0 (b:Bool) (hp:List Ob):(if b then hp else fzObs [] hp)=hp:=by cases b<;>rfl
theorem Fin.callV0 {P:Program} {T:Tab} {G:Globs} {n:Nat} {fn:FuncId} {st:St} {Q:St→Prop} {todo:List Item} [TOk P T] (hwf:WFP T) {g:FuncId} {ags:List RV} {dst:Option Tmp} {todo':List Item} {F:RV→Prop} (h:callAt todo st=some (g,ags,[],dst,todo')) (hv:ValC P G g ags F)
  (hf:∀r,F r→persR r=true→Fin P G n fn todo' ⟨putR st.regs dst r,st.hp⟩ Q):Fin P G n fn todo st Q:=
 Fin.callV hwf h hv (fun r h1 h2=>by rw [ite_fz0];simp_all)
end Go.Sx
namespace Go.Sx
section
variable {P:Program} {T:Tab} {G:Globs} {n:Nat} {fn:FuncId} {st:St} {Q:St→Prop} {todo:List Item} {A:Nat→Prop} {S:Where} {L L':List Ob} {w:World}
theorem Sim.reshape (hs:Sim G A S L w) (hl:L'.length=L.length) (hsh:∀(b:Nat) o',L'[b]? =some o'→∃o,L[b]? =some o∧mutOb o=mutOb o'∧liveOb o=liveOb o') (hob:∀(b:Nat) o',L'[b]? =some o'→ObRel A S w b o'):Sim G A S L' w where
 ob:=hob
 dis B hA ho:=by
  obtain ⟨b,o',d,h1,h2,h3⟩:=ho;obtain ⟨o,e1,e2,_⟩:=hsh b o' h1;exact hs.dis B hA ⟨b,o,d,e1,by simp_all,h3⟩
 lt:=hs.lt
 inj b b' o o' B d d' hne h1 h2 h3 h4 h5 h6:=by
  obtain ⟨o1,e1,e2,_⟩:=hsh b o h1;obtain ⟨o2,f1,_,f3⟩:=hsh b' o' h3;exact hs.inj b b' o1 o2 B d d' hne e1 (by simp_all) f1 (by simp_all) h5 h6
 dom b B d h:=by rw [hl];exact hs.dom b B d h
 gl:=hs.gl
theorem Fin.freezeO [TOk P T] (b j:Nat) {cs cs':List LV} {x:LV} {y:PV} {ts:List Nat} {fz:Bool} {hp':List Ob} (hb:st.hp[b]? =some (.cells cs fz)) (hb1:(fzObs ts st.hp)[b]? =some (.cells cs fz)) (hj:cs[j]? =some x) (hz:fzL st.hp 12 x=some (y,ts)) (hcs:cs.set j (.p y)=cs') (he:(fzObs ts st.hp).set b (.cells cs' fz)=hp')
  (hf:Fin P G n fn todo ⟨st.regs,hp'⟩ Q):Fin P G n fn todo st Q:=by
 subst hcs he;refine Fin.go (F:=fun st'=>st'=⟨st.regs,(fzObs ts st.hp).set b (.cells (cs.set j (.p y)) fz)⟩) (todo':=todo) ?_ (fun _ e=>by simp_all);intro A S w t fb ks hs hrs hfn;have hc:=fzL_cells 12 x y ts hz;have hx:=Ext.freeze hs hc;have h1:=hs.relRs hx hrs;have hs1:=hs.freeze hc;have hsh:∀(b':Nat) o',((fzObs ts st.hp).set b (.cells (cs.set j (.p y)) fz))[b']? =some o'→∃o,(fzObs ts st.hp)[b']? =some o∧mutOb o=mutOb o'∧liveOb o=liveOb o':=by
  intro b' o' ho
  by_cases e:b=b'
  ·subst e;have hlt:b<(fzObs ts st.hp).length:=(List.getElem?_eq_some_iff.1 hb1).1;rw [List.getElem?_set_self hlt] at ho;simp only [Option.some.injEq] at ho;subst ho;exact ⟨_,hb1,rfl,rfl⟩
  ·simp_all
 have hs2:Sim G (Aplus A S ts) S ((fzObs ts st.hp).set b (.cells (cs.set j (.p y)) fz)) w:=by
  refine hs1.reshape (by simp) hsh ?_;intro b' o' ho
  by_cases e:b=b'
  ·subst e;have hlt:b<(fzObs ts st.hp).length:=(List.getElem?_eq_some_iff.1 hb1).1;rw [List.getElem?_set_self hlt] at ho;simp only [Option.some.injEq] at ho;subst ho;obtain ⟨B,d,c,e,fr,k1,k2,k3,k4,k5,k6⟩:=hs1.ob b _ hb1;obtain ⟨B0,d0,c0,e0,fr0,m1,m2,m3,m4,m5,m6⟩:=hs.ob b _ hb;rw [k1] at m1;simp only [Option.some.injEq,Prod.mk.injEq] at m1;obtain ⟨rfl,rfl⟩:=m1;rw [k2] at m2;simp only [Option.some.injEq,Obj.cells.injEq] at m2;obtain ⟨rfl,rfl,rfl⟩:=m2;refine ⟨B,d,c,e,fr,k1,k2,by simpa using k3,k4,k5,fun q z hq=> ?_⟩
   by_cases ej:j=q
   ·subst ej;have hjl:j<cs.length:=(List.getElem?_eq_some_iff.1 hj).1;rw [List.getElem?_set_self hjl] at hq;simp only [Option.some.injEq] at hq;subst hq;obtain ⟨v,hv,hrel⟩:=m6 j x hj;exact ⟨v,hv,fzL_enc hs 12 x y ts v hz hrel⟩
   simp_all
  ·rw [List.getElem?_set_ne e] at ho;exact hs1.ob b' o' ho
 refine ⟨_,t,Aplus A S ts,S,w,rfl,.refl _ _,h1,hs2,?_⟩
 exact {hx with
  len:=by simpa using hx.len
  own:=fun B hB ho=>by
   obtain ⟨b',o',d,g1,g2,g3⟩:=ho;obtain ⟨o,e1,e2,_⟩:=hsh b' o' g1
   exact hx.own B hB ⟨b',o,d,e1,by simp_all,g3⟩}
end
end Go.Sx
namespace Go.Sx
section
variable {P:Program} {T:Tab} {hp:List Ob} {t:TypeId}
theorem rule_addStr {x y:Operand} {a b:ByteArray} (h:(a.size:Int)+(b.size:Int)≤4611686018427387904):binA P T .add t x y (.v (.one (.p (.vl (.string a))))) (.v (.one (.p (.vl (.string b))))) hp=some (.v (.one (.p (.vl (.string (a++b))))),hp):=by
 have hn:¬((a.size+b.size:Nat):Int)>IntKind.i64.max:=by
  have:IntKind.i64.max=9223372036854775807:=by decide
  omega
 have:pureOf P (do eqGuard .add t x y (.string a) (.string b);binOp .add t (.string a) (.string b))=some (.string (a++b)):=by
  show pureOf P (Op.stringOp .add a b)=_;unfold Op.stringOp;simp only [hn,if_false];rfl
 simp only [binA,toVal,atomL,pureR,this];rfl
variable {α:Type} {enc:α→List PV} {z:Nat} {e:TypeId}
theorem rule_append0S {ats:Array TypeId} {ty:TypeId} {b by':Nat} {L2:List α} {x:PV} {i:TypeInfo} {zero cs:List LV}
  (hT:(ats[0]?).bind T.und=some (.slice e)) (hX:(ats[1]?).bind T.und=some (.slice e)) (hi:T.info e=some i) (hzero:zeroOf T e=some zero) (hiz:i.size=z) (hzl:zero.length=i.size) (hb:hp[b]? =some (.cells cs false)) (hcs:cs=[]) (hx:IsS enc L2 x)
  (hz:∀a,(enc a).length=z) (hby:i.bytes=by') (h0:0<z) (hroom:(0+L2.length)*by'≤17592186044416) (hroom2:0+L2.length≤17592186044416):
  builtinA P T .append ats ty [.v (.one (.lsl b 0 0 z)),.v (.one (.p x))] hp=some (.v (.one (.lsl hp.length 0 L2.length z)),hp.set b .gone++[.cells (pc (L2.flatMap enc)) false]):=by
 subst hcs;have:=append_LS (P:=P) (ty:=ty) (enc:=enc) (L:=[]) hT hX hi hzero hiz hzl hb hx hz hby h0 (by omega) (by omega)
 simp_all
theorem rule_appendN0 {ats:Array TypeId} {ty:TypeId} {L2:List α} {x:PV} {i:TypeInfo} {zero:List LV}
  (hT:(ats[0]?).bind T.und=some (.slice e)) (hX:(ats[1]?).bind T.und=some (.slice e)) (hi:T.info e=some i) (hzero:zeroOf T e=some zero) (hiz:i.size=z) (hzl:zero.length=i.size) (hx:IsS enc L2 x)
  (hz:∀a,(enc a).length=z) (hl:L2.length=0):
  builtinA P T .append ats ty [.v (.one (.p (.vl (.slice none 0 0)))),.v (.one (.p x))] hp=some (.v (.one (.p (.vl (.slice none 0 0)))),hp):=by
 subst hiz;have hl':L2=[]:=List.eq_nil_of_length_eq_zero hl;subst hl';have hel:∃cs,elems hp i.size (.v (.one (.p x)))=some (0,cs):=by
  cases hx with
  | nil h=>exact ⟨_,rfl⟩
  | sl=>exact ⟨[],by simp [elems,part]⟩
 obtain ⟨cs,hel⟩:=hel;simp only [builtinA,hT,hX,hi,hzero,hel,hzl,if_true]
theorem rule_appendN {ats:Array TypeId} {ty:TypeId} {by':Nat} {L2:List α} {x:PV} {i:TypeInfo} {zero:List LV}
  (hT:(ats[0]?).bind T.und=some (.slice e)) (hX:(ats[1]?).bind T.und=some (.slice e)) (hi:T.info e=some i) (hzero:zeroOf T e=some zero) (hiz:i.size=z) (hzl:zero.length=i.size) (hx:IsS enc L2 x)
  (hz:∀a,(enc a).length=z) (hl:0<L2.length) (hby:i.bytes=by') (h0:0<z) (hroom:L2.length*by'≤17592186044416) (hroom2:L2.length≤17592186044416):
  builtinA P T .append ats ty [.v (.one (.p (.vl (.slice none 0 0)))),.v (.one (.p x))] hp=some (.v (.one (.lsl hp.length 0 L2.length z)),hp++[.cells (pc (L2.flatMap enc)) false]):=by
 subst hby;subst hiz;have hel:elems hp i.size (.v (.one (.p x)))=some (L2.length,pc (L2.flatMap enc)):=by
  cases hx with
  | nil h=>simp_all
  | sl=>
   simp only [elems];rw [part_all (flat_len hz L2)];rfl
 have hr:roomy L2.length i.bytes=true:=by simp [roomy];omega
 have hne:L2.length≠0:=by omega
 simp only [builtinA,hT,hX,hi,hzero,hel,hzl,if_true,hr,if_neg hne];simp [h0]
theorem rule_sliceP1 {t:TypeId} {j j':IntKind} {L:List α} {x:PV} {k h:Int} (d:α) (hT:T.und t=some (.slice e)) (hs:szOf T e=some z) (hx:IsS enc L x) (hz:∀a,(enc a).length=z) (h0:0≤k) (h1:k<L.length) (hh:h=k+1):
  sliceQ P T t (.v (.one (.p x))) (some (.v (.one (.p (.vl (.int j k)))))) (some (.v (.one (.p (.vl (.int j' h)))))) none hp=some (.v (.one (.p (.sl 1 (enc (L.getD k.toNat d))))),hp):=by
 subst hh;cases hx with
 | nil h=>grind
 | sl=>
  have hb:bounds L.length (some k) (some (k+1))=some (k.toNat,(k+1).toNat):=by simp [bounds];omega
  have hp1:=part_flat hz (L:=L) (k:=k.toNat) (off:=0) (n:=z) d (by omega) (by omega);have e1:(k+1).toNat - k.toNat=1:=by omega
  have hl:(enc (L.getD k.toNat d)).take z=enc (L.getD k.toNat d):=List.take_of_length_le (by rw [hz];omega);simp only [Nat.add_zero,List.drop_zero,hl] at hp1;have i1:intR (RV.v (RW.one (LV.p (PV.vl (Value.int j k)))))=some k:=rfl;have i2:intR (RV.v (RW.one (LV.p (PV.vl (Value.int j' (k+1))))))=some (k+1):=rfl;simp only [sliceQ,sliceA,toVal,atomL,optInt,hT,hs,i1,i2,hb,e1,Nat.one_mul,hp1]
theorem part_drop {L:List α} {k:Nat} (hz:∀a,(enc a).length=z) (hk:k≤L.length):part (L.flatMap enc) (k*z) ((L.length - k)*z)=some ((L.drop k).flatMap enc):=by
 have e1:(L.flatMap enc).drop (k*z)=(L.drop k).flatMap enc:=flat_drop hz L k;have e2:((L.drop k).flatMap enc).length=(L.length - k)*z:=by rw [flat_len hz,List.length_drop]
 unfold part
 grind
theorem part_take {L:List α} {k:Nat} (hz:∀a,(enc a).length=z) (hk:k≤L.length):part (L.flatMap enc) (0*z) (k*z)=some ((L.take k).flatMap enc):=by
 have e0:L=L.take k++L.drop k:=(List.take_append_drop k L).symm;have e1:((L.take k).flatMap enc).length=k*z:=by rw [flat_len hz,List.length_take,Nat.min_eq_left hk]
 have e2:(L.flatMap enc).take (k*z)=(L.take k).flatMap enc:=by
  conv=>lhs;rw [e0,List.flatMap_append,← e1]
  simp
 unfold part
 grind
theorem rule_sliceLoP {t:TypeId} {j:IntKind} {L:List α} {k:Int} (hT:T.und t=some (.slice e)) (hs:szOf T e=some z) (hz:∀a,(enc a).length=z) (h0:0≤k) (h1:k≤L.length):
  sliceQ P T t (.v (.one (.p (.sl L.length (L.flatMap enc))))) (some (.v (.one (.p (.vl (.int j k)))))) none none hp=some (.v (.one (.p (.sl (L.drop k.toNat).length ((L.drop k.toNat).flatMap enc)))),hp):=by
 have hb:bounds L.length (some k) none=some (k.toNat,L.length):=by simp [bounds];omega
 have i1:intR (RV.v (RW.one (LV.p (PV.vl (Value.int j k)))))=some k:=rfl;have hp1:=part_drop (L:=L) (k:=k.toNat) hz (by omega);simp only [sliceQ,sliceA,toVal,atomL,optInt,hT,hs,i1,hb,hp1,List.length_drop]
theorem rule_sliceHiP {t:TypeId} {j:IntKind} {L:List α} {k:Int} (hT:T.und t=some (.slice e)) (hs:szOf T e=some z) (hz:∀a,(enc a).length=z) (h0:0≤k) (h1:k≤L.length):
  sliceQ P T t (.v (.one (.p (.sl L.length (L.flatMap enc))))) none (some (.v (.one (.p (.vl (.int j k)))))) none hp=some (.v (.one (.p (.sl (L.take k.toNat).length ((L.take k.toNat).flatMap enc)))),hp):=by
 have hb:bounds L.length none (some k)=some (0,k.toNat):=by simp [bounds];omega
 have i1:intR (RV.v (RW.one (LV.p (PV.vl (Value.int j k)))))=some k:=rfl;have hp1:=part_take (L:=L) (k:=k.toNat) hz (by omega);have e1:(L.take k.toNat).length=k.toNat:=by rw [List.length_take];omega
 simp only [sliceQ,sliceA,toVal,atomL,optInt,hT,hs,i1,hb,Nat.sub_zero,hp1,e1]
theorem rule_append1S {ats:Array TypeId} {ty:TypeId} {b by':Nat} {a:α} {L2:List α} {x:PV} {i:TypeInfo} {zero cs:List LV}
  (hT:(ats[0]?).bind T.und=some (.slice e)) (hX:(ats[1]?).bind T.und=some (.slice e)) (hi:T.info e=some i) (hzero:zeroOf T e=some zero) (hiz:i.size=z) (hzl:zero.length=i.size) (hx:IsS enc L2 x) (hb:hp[b]? =some (.cells cs false)) (hcs:cs=pc (enc a))
  (hz:∀a,(enc a).length=z) (hby:i.bytes=by') (h0:0<z) (hroom:(1+L2.length)*by'≤17592186044416) (hroom2:1+L2.length≤17592186044416):
  builtinA P T .append ats ty [.v (.one (.lsl b 0 1 z)),.v (.one (.p x))] hp=some (.v (.one (.lsl hp.length 0 (a::L2).length z)),hp.set b .gone++[.cells (pc ((a::L2).flatMap enc)) false]):=by
 subst hcs;have hb':hp[b]? =some (.cells (pc ([a].flatMap enc)) false):=by simpa using hb
 have:=append_LS (P:=P) (ty:=ty) (enc:=enc) (L:=[a]) hT hX hi hzero hiz hzl hb' hx hz hby h0 (by omega) (by omega)
 simp_all
theorem fact_drop (L:List α) (k:Nat):0≤(L.drop k).length∧(L.drop k).length≤L.length:=⟨Nat.zero_le _,by simp⟩
theorem fact_take (L:List α) (k:Nat):0≤(L.take k).length∧(L.take k).length≤L.length:=⟨Nat.zero_le _,by simp;omega⟩
theorem fact_cons (a:α) (L:List α):0≤(a::L).length∧(a::L).length≤L.length+1:=⟨Nat.zero_le _,by simp⟩
theorem fact_app (L M:List α):0≤(L++M).length∧(L++M).length≤L.length+M.length:=⟨Nat.zero_le _,by simp⟩
theorem rule_storeI {t:TypeId} {b k:Nat} {v:Int} {L:List Int} (hs:szOf T t=some 1) (hb:hp[b]? =some (.cells (pc (L.flatMap encI)) false)) (hk:k<L.length):
  storeA T t (.v (.one (.ref b k))) (.v (.one (.p (.vl (.int .i64 v))))) hp=some (undefR,hp.set b (.cells (pc ((L.set k v).flatMap encI)) false)):=by
 have e:∀(L:List Int),pc (L.flatMap encI)=L.map fun n=>LV.p (.vl (.int .i64 n)):=by
  intro L
  induction L with
  | nil=>rfl
  | cons x l ih=>simp only [List.flatMap_cons,encI,pc,List.map_append,List.map_cons,List.map_nil] at ih ⊢;rw [ih];rfl
 have e2:setPart (L.map fun n=>LV.p (.vl (.int .i64 n))) k [.p (.vl (.int .i64 v))]=(L.set k v).map fun n=>LV.p (.vl (.int .i64 n)):=by
  rw [List.map_set];unfold setPart;rw [List.set_eq_take_append_cons_drop,if_pos (by simpa using hk)];simp
 rw [e] at hb;have hl:k+1≤(L.map fun n=>LV.p (.vl (.int .i64 n))).length:=by simp;omega
 simp only [storeA,oneR,cellsR,hs,writeC,hb,List.length_cons,List.length_nil,hl,if_true,e2,e]
theorem rule_load0 {G:Globs} {t:TypeId} {n:Nat} {L:List α} (d:α) (hs:szOf T t=some n) (hg:isAggB T t=some true) (hz:∀a,(enc a).length=n) (h1:0<L.length):
  loadA T G t (.v (.one (.pref (L.flatMap enc) 0))) hp=some (.v (.agg (pc (enc (L.getD 0 d)))),hp):=by
 have:=loadA_SN0 (G:=G) (hp:=hp) (L:=L) (k:=0) d hs hg hz (by omega) (by omega) (Nat.le_refl n)
 grind
end
end Go.Sx
namespace Go.Sx
section
variable {P:Program} {T:Tab} {G:Globs} {L:List Ob}
theorem pers_pc (l:List PV):(pc l).all persL=true:=by simp [pc,persL]
def LocC (P:Program) (G:Globs) (f:FuncId) (args:List RV) (z:Nat) (Q0:Prop) (Q:Nat→List LV→Prop):Prop:=
 CalOk P G (.fn f) args [] fun r L=>(r= .v (.one (.p (.vl (.slice none 0 0))))∧Q0)∨∃n cs j,r= .v (.one (.lsl j 0 n z))∧L[j]? =some (.cells cs false)∧cs.all persL=true∧Q n cs
theorem CalOk.of_loc1 {f:FuncId} {args:List RV} {z:Nat} {Q0:Prop} {Q:Nat→List LV→Prop} (hgone:∀(k:Nat) o,L[k]? =some o→o= .gone)
  (hargs:fzRs L args=some (args,[])) (hv:LocC P G f args z Q0 Q):
  CalOk P G (.fn f) args L fun r L'=>(r= .v (.one (.p (.vl (.slice none 0 0))))∧Q0∧L'=L)∨∃n cs,r= .v (.one (.lsl L.length 0 n z))∧cs.all persL=true∧Q n cs∧L'=L++[.cells cs false]:=by
 refine CalOk.lift hv ?_;intro A S w vs E hs hvs hv;have eA:Aplus A S []=A:=by funext B;simp [Aplus]
 have hvs0:RelV A (fun _=>none) w args vs:=by
  have:=(RelV.fz (S':=fun _=>none) hs hargs hvs).1
  simp_all
 have hnone:∀B,¬Owned (fun _=>none) [] B:=by rintro B ⟨b,ob,d,h1,_⟩;simp at h1
 have hs0:Sim G A (fun _=>none) [] w:=hs.empty (fun B hB=>hB) hs.lt;obtain ⟨r,L',v,A',S',w',hr,hst,hrel,hsim,hext⟩:=hv A (fun _=>none) hs0 hvs0;have hdown:∀B,A' B→A B∨w.heap.size≤B:=by
  intro B hB
  rcases hext.down B hB with h | h | h
  ·exact .inl h
  ·exact .inr h
  ·simp_all
 have hmutL:∀B,¬Owned S L B:=by
  rintro B ⟨b,ob,d,h1,h2,h3⟩;have:=hgone b ob h1;subst this;simp [mutOb] at h2
 rcases hr with ⟨rfl,hq⟩ | ⟨n,cs,j,rfl,hj,hcs,hq⟩
 ·let An:Nat→Prop:=fun B=>A B∨(w.heap.size≤B∧B<w'.heap.size)
  have hA':∀B,A' B→An B:=fun B hB=>(hdown B hB).imp id fun h=>⟨h,hsim.lt B hB⟩
  refine ⟨_,L,v,An,S,w',.inl ⟨rfl,hq,rfl⟩,hst,RelR.pers hA' rfl hrel,?_,?_⟩
  ·exact {
    ob:=fun b o h=>by have:=hgone b o h;subst this;trivial
    dis:=fun B _ ho=>hmutL B ho
    lt:=fun B hB=>hB.elim (fun h=>Nat.lt_of_lt_of_le (hs.lt B h) hext.size) fun h=>h.2
    inj:=fun b b' o o' B d d' hne h1 h2=>by have:=hgone b o h1;subst this;simp [mutOb] at h2
    dom:=hs.dom
    gl:=fun g us hg=>⟨hA' g (hsim.gl g us hg).1,(hsim.gl g us hg).2⟩}
  ·exact {
    size:=hext.size
    os:=hext.os
    tape:=hext.tape
    output:=hext.output
    wh:=fun _ _ h=>h
    nw:=fun _ _ h=>h
    len:=Nat.le_refl _
    keep:=fun B hB _=>hext.keep B hB (hnone B)
    shp:=hext.shp
    up:=fun B h=> .inl h
    down:=fun B h=>h.imp id fun h=> .inl h.1
    own:=fun _ _ h=>h}
 ·obtain ⟨B0,d0,q,cap,hS0,hv0,hcap,hmem⟩:=(hrel:Rel A' S' w' (.lsl j 0 n z) v)
  have hown0:Owned S' L' B0:=⟨j,_,d0,hj,rfl,hS0⟩
  have hnew:w.heap.size≤B0:=by
   rcases Nat.lt_or_ge B0 w.heap.size with h | h
   ·exact (hnone B0 (hext.own B0 h hown0)).elim
   ·exact h
  obtain ⟨B,d,c',e,fr,k1,k2,k3,k4,k5,k6⟩:=hsim.ob j _ hj;rw [hS0] at k1;simp only [Option.some.injEq,Prod.mk.injEq] at k1;obtain ⟨rfl,rfl⟩:=k1
  let An:Nat→Prop:=fun B=>A B∨((w.heap.size≤B∧B<w'.heap.size)∧B≠B0)
  let S1:Where:=fun k=>if k=L.length then some (B0,d0) else S k
  have hA':∀B,A' B→An B:=fun B hB=>(hdown B hB).imp id fun h=>⟨⟨h,hsim.lt B hB⟩,fun e=>hsim.dis B hB (e ▸ hown0)⟩
  have get:∀{k:Nat} {o:Ob},(L++[Ob.cells cs false])[k]? =some o→(k=L.length∧o= .cells cs false)∨o= .gone:=by
   intro k o h
   rcases Nat.lt_trichotomy k L.length with hk | hk | hk
   ·grind
   ·simp_all
   ·grind
  have hS1:S1 L.length=some (B0,d0):=by simp [S1]
  have hownF:∀B,Owned S1 (L++[Ob.cells cs false]) B→B=B0:=by
   rintro B ⟨k,ob,d,h1,h2,h3⟩
   rcases get h1 with ⟨rfl,rfl⟩ | rfl
   ·simp_all
   ·simp [mutOb] at h2
  have hne:∀b p,S b=some p→b≠L.length:=fun b p h e=>by have:=hs.dom b p.1 p.2 h;omega
  refine ⟨_,_,v,An,S1,w',.inr ⟨n,cs,rfl,hcs,hq,rfl⟩,hst,?_,?_,?_⟩
  ·exact (⟨B0,d0,q,cap,hS1,hv0,hcap,hmem⟩:Rel An S1 w' (.lsl L.length 0 n z) v)
  ·exact {
    ob:=fun b o h=>by
     rcases get h with ⟨rfl,rfl⟩ | rfl
     ·refine ⟨B0,d0,c',e,fr,hS1,k2,k3,k4,fun h=>by simp at h,fun i x hi=> ?_⟩;obtain ⟨u,q1,q2⟩:=k6 i x hi;exact ⟨u,q1,Rel.pers hA' (List.all_eq_true.1 hcs x (List.mem_of_getElem? hi)) q2⟩
     ·trivial
    dis:=fun B hB ho=>by
     have:=hownF B ho;subst this
     rcases hB with h | h
     ·have:=hs.lt B h;omega
     omega
    lt:=fun B hB=>hB.elim (fun h=>Nat.lt_of_lt_of_le (hs.lt B h) hext.size) fun h=>h.1.2
    inj:=fun b b' o o' B d d' hne h1 h2 h3 h4=>by
     rcases get h1 with ⟨rfl,rfl⟩ | rfl
     ·rcases get h3 with ⟨rfl,rfl⟩ | rfl
      ·omega
      ·simp [liveOb] at h4
     ·simp [mutOb] at h2
    dom:=fun b B d h=>by
     simp only [S1] at h;split at h
     ·simp;omega
     ·have:=hs.dom b B d h;simp;omega
    gl:=fun g us hg=>⟨hA' g (hsim.gl g us hg).1,(hsim.gl g us hg).2⟩}
  ·exact {
    size:=hext.size
    os:=hext.os
    tape:=hext.tape
    output:=hext.output
    wh:=fun b p h=>by grind
    nw:=fun b hb h=>by grind
    len:=by simp
    keep:=fun B hB _=>hext.keep B hB (hnone B)
    shp:=hext.shp
    up:=fun B h=> .inl h
    down:=fun B h=>h.imp id fun h=> .inl h.1.1
    own:=fun B hB ho=>by grind}
def allIn (n:Nat):List Nat:=List.range n
theorem persW_fz {L:List Ob} {x:RW} (h:persW x=true):fzW L x=some (x,[]):=by
 cases x with
 | one x=>cases x<;>simp [persW,persL] at h;rfl
 | agg xs=>
  have:∀xs:List LV,xs.all persL=true→∃ps:List PV,mapOpt (fzL L 12) xs=some (ps.map fun p=>(p,[]))∧xs=ps.map .p:=by
   intro xs
   induction xs with
   | nil=>intro _;exact ⟨[],rfl,rfl⟩
   | cons x l ih=>
    intro h;simp only [List.all_cons,Bool.and_eq_true] at h;obtain ⟨ps,e1,e2⟩:=ih h.2;cases x<;>simp [persL] at h
    rename_i p;refine ⟨p::ps,?_,by simp [e2]⟩;simp only [mapOpt,e1];rfl
  obtain ⟨ps,e1,e2⟩:=this xs h;simp only [fzW,fzLs,e1]
  simp_all
theorem persR_fz {L:List Ob} {x:RV} (h:persR x=true):fzR L x=some (x,[]):=by
 cases x with
 | v x=>simp only [fzR,persW_fz (L:=L) h]
 | tup xs=>
  have:∀xs:List RW,xs.all persW=true→mapOpt (fzW L) xs=some (xs.map fun p=>(p,[])):=by
   intro xs
   induction xs with
   | nil=>intro _;rfl
   | cons x l ih=>
    intro h;simp only [List.all_cons,Bool.and_eq_true] at h;simp only [mapOpt,persW_fz (L:=L) h.1,ih h.2];rfl
  simp only [fzR,this xs h];simp [Function.comp_def]
theorem persRs_fz {L:List Ob}:∀{xs:List RV},xs.all persR=true→fzRs L xs=some (xs,[]):=by
 intro xs h;have:∀xs:List RV,xs.all persR=true→mapOpt (fzR L) xs=some (xs.map fun p=>(p,[])):=by
  intro xs
  induction xs with
  | nil=>intro _;rfl
  | cons x l ih=>
   intro h;simp only [List.all_cons,Bool.and_eq_true] at h;simp only [mapOpt,persR_fz (L:=L) h.1,ih h.2];rfl
 simp only [fzRs,this xs h];simp [Function.comp_def]
theorem CalOk.of_loc {f:FuncId} {args:List RV} {z:Nat} {Q0:Prop} {Q:Nat→List LV→Prop} {Q':RV→List Ob→Prop} (hp:args.all persR=true) (hv:LocC P G f args z Q0 Q)
  (h0:Q0→Q' (.v (.one (.p (.vl (.slice none 0 0))))) L) (h1:∀n cs,Q n cs→Q' (.v (.one (.lsl L.length 0 n z))) (L++[.cells cs false])):CalOk P G (.fn f) args L Q':=by
 have hin:∀k,k<L.length→k∈allIn L.length:=fun k h1=>by simp [allIn,h1]
 refine CalOk.mono (CalOk.frame (M:=allIn L.length) (fun k hk=>by simpa [allIn] using hk) (fun k o hk ho=> ?_) (CalOk.of_loc1 (fun k o ho=> ?_) (persRs_fz hp) hv)) ?_
 ·grind
 ·have hkl:k<L.length:=by have:=(List.getElem?_eq_some_iff.1 ho).1;rwa [msk_length] at this
  rw [msk_in (hin k hkl),List.getElem?_eq_getElem hkl] at ho
  simp_all
 ·rintro r _ ⟨L1,(⟨rfl,hq,rfl⟩ | ⟨n,cs,rfl,hc,hq,rfl⟩),rfl⟩
  ·have e:over (allIn L.length) L (msk (allIn L.length) L)=L:=by
    apply List.ext_getElem?;intro k
    by_cases hk:k<L.length
    ·rw [over_in (hin k hk) hk (by rw [msk_length];exact hk)]
    ·rw [over_out (by simp [allIn];omega),List.getElem?_eq_none (by rw [msk_length];omega),List.getElem?_eq_none (by omega)]
   simp_all
  ·have e:over (allIn L.length) L (msk (allIn L.length) L++[.cells cs false])=L++[.cells cs false]:=by
    apply List.ext_getElem?;intro k
    by_cases hk:k<L.length
    ·rw [over_in (hin k hk) hk (by rw [List.length_append,msk_length];omega),List.getElem?_append_left hk]
    ·rw [over_out (by simp [allIn];omega),List.getElem?_append_right (by rw [msk_length];omega),List.getElem?_append_right (by omega),msk_length]
   rw [e,msk_length];simp_all
theorem LocC.of_fin [TOk P T] {f:FuncId} {fn:Func} {c:Code} {args:List RV} {z:Nat} {Q0:Prop} {Q:Nat→List LV→Prop} (hf:P.funcs[f]? =some fn) (hb:fn.body=some c) (hn:fn.name≠ "runtime.NumGoroutine")
  (h:Fin P G 0 f [.code c] ⟨regs0 fn args,[]⟩ fun st=>∃r,resultsR T G fn st=some r∧((r= .v (.one (.p (.vl (.slice none 0 0))))∧Q0)∨∃n cs j,r= .v (.one (.lsl j 0 n z))∧st.hp[j]? =some (.cells cs false)∧cs.all persL=true∧Q n cs)):LocC P G f args z Q0 Q:=
 CalOk.of_fin (L:=[]) hf hb hn h
variable {n:Nat} {fn:FuncId} {st:St} {Q:St→Prop} {todo:List Item}
def callAtL:List Item→St→Option (FuncId×List RV×Option Tmp×List Item)
 | .inRegion ops (i::is)::k,st=>match ops[i]? with
  | some o=>match wantedR ops st.regs o with
   | some true=>match goodO o with
    | true=>match callOf o.op with
     | some (f,args)=>match calOf (evR st.regs f) (args.map (evR st.regs)) with
      | some (.fn g,as)=>match as.all persR with
       | true=>some (g,as,o.dst,.inRegion ops is::k)
       | false=>none
      | _=>none
     | none=>none
    | false=>none
   | _=>none
  | none=>none
 | _,_=>none
theorem Fin.callL [TOk P T] (hwf:WFP T) {g:FuncId} {ags:List RV} {dst:Option Tmp} {todo':List Item} {z:Nat} {Q0:Prop} {F:Nat→List LV→Prop} (h:callAtL todo st=some (g,ags,dst,todo')) (hv:LocC P G g ags z Q0 F)
  (h0:Q0→Fin P G n fn todo' ⟨putR st.regs dst (.v (.one (.p (.vl (.slice none 0 0))))),st.hp⟩ Q) (h1:∀m cs,F m cs→Fin P G n fn todo' ⟨putR st.regs dst (.v (.one (.lsl st.hp.length 0 m z))),st.hp++[.cells cs false]⟩ Q):Fin P G n fn todo st Q:=by
 unfold callAtL at h;split at h
 ·split at h
  ·rename_i o ho;split at h
   ·rename_i hw;split at h
    ·rename_i hg;split at h
     ·rename_i f args hc;split at h
      ·rename_i g' as0 hcal;split at h
       ·rename_i hz;simp only [Option.some.injEq,Prod.mk.injEq] at h;obtain ⟨rfl,rfl,rfl,rfl⟩:=h;exact Fin.call hwf ho hw hg hc hcal (CalOk.of_loc hz hv h0 h1)
       ·simp at h
      ·simp at h
     ·simp at h
    ·simp at h
   ·simp at h
  ·simp at h
 ·simp at h
def callUL (T:Tab) (ops:Array Oper) (i:Nat) (st:St):Option (FuncId×List RV×Option Tmp):=match ops[i]? with
 | some o=>match wantedR ops st.regs o with
  | some true=>match goodO o with
   | true=>match callOf o.op with
    | some (f,args)=>match isQuiet (kindOp T o.op) with
     | false=>match calOf (evR st.regs f) (args.map (evR st.regs)) with
       | some (.fn g,as)=>match as.all persR with
        | true=>some (g,as,o.dst)
        | false=>none
       | _=>none
     | true=>none
    | none=>none
   | false=>none
  | _=>none
 | none=>none
theorem DU.callL [TOk P T] {ops:Array Oper} {Ms ws:List (List Nat)} {i:Nat} {is:List Nat} {g:FuncId} {ags:List RV} {dst:Option Tmp} {z:Nat} {Q0:Prop} {F:Nat→List LV→Prop} (h:callUL T ops i st=some (g,ags,dst)) (hv:LocC P G g ags z Q0 F)
  (h0:Q0→DU P T G ops (nthL Ms) (nthL ws) Q is ⟨putR st.regs dst (.v (.one (.p (.vl (.slice none 0 0))))),st.hp⟩) (h1:∀m cs,F m cs→DU P T G ops (nthL Ms) (nthL ws) Q is ⟨putR st.regs dst (.v (.one (.lsl st.hp.length 0 m z))),st.hp++[.cells cs false]⟩) (hM:nthL Ms i=[]:=by rfl):
  DU P T G ops (nthL Ms) (nthL ws) Q (i::is) st:=by
 unfold callUL at h;split at h
 ·rename_i o ho;split at h
  ·rename_i hw;split at h
   ·rename_i hg;split at h
    ·rename_i f args hc;split at h
     ·rename_i hq;split at h
      ·rename_i g' as0 hcal;split at h
       ·rename_i hz;simp only [Option.some.injEq,Prod.mk.injEq] at h;obtain ⟨rfl,rfl,rfl⟩:=h;refine ⟨o,ho,.inr (.inl ⟨hw,hq,.inr hM,hg,?_⟩)⟩;simp only [hc];exact ⟨_,_,hcal,CalOk.of_loc hz hv (fun hq=>⟨Upon.refl,h0 hq⟩) fun m cs hm=>⟨upon_push,h1 m cs hm⟩⟩
       ·simp at h
      ·simp at h
     ·simp at h
    ·simp at h
   ·simp at h
  ·simp at h
 ·simp at h
theorem LocC.toVal {f:FuncId} {args:List RV} {z:Nat} {Q0:Prop} {F:Nat→List LV→Prop} {R:RV→Prop} (h:LocC P G f args z Q0 F) (h0:Q0→R (.v (.one (.p (.vl (.slice none 0 0))))))
  (h1:∀n cs,F n cs→∃l,cs=pc l∧l.length=n*z∧R (.v (.one (.p (.sl n l))))):ValC P G f args R:=by
 refine CalOk.mono h ?_;rintro r L (⟨rfl,hq⟩ | ⟨n,cs,j,rfl,hL,_,hq⟩)
 ·exact ⟨_,[],rfl,h0 hq⟩
 ·obtain ⟨l,rfl,hl,hr⟩:=h1 n cs hq;exact ⟨_,_,fzR_one (fzL_pc hL hl),hr⟩
end
end Go.Sx
namespace Go.Sx
section
variable {P:Program} {T:Tab} {G:Globs} {L:List Ob} {n:Nat} {fn:FuncId} {st:St} {Q:St→Prop}
theorem Fin.range [TOk P T] (hwf:WFP T) {k:List Item} {f:Operand} {params:Array Tmp} {assign body:Code} {g:FuncId} {ags:List RV} (hg:goodX f=true) (hc:calOf (evR st.regs f) [.v (.one (.yld st.hp.length))]=some (.fn g,ags))
  (h:CalOk P G (.fn g) ags (st.hp++[.loop {fn:=fn,regs:=st.regs,params:=params.toList,assign:=assign,body:=body,state:= .ready,pending:=none}]) fun _ hp=>∃r,hp[st.hp.length]? =some (.loop r)∧r.state≠.busy∧r.pending=none∧Fin P G n fn k ⟨st.regs,hp.set st.hp.length .gone⟩ Q):
  Fin P G n fn (.code (.rangeFunc f params assign body)::k) st Q:=by
 intro A S w t b cs base hn hs hr hf hro hm hb;have hw:wpC P T G (CalOk P G) (DrawOk P G) fn false (.rangeFunc f params assign body) st fun e st'=>e= .normal∧Fin P G n fn k st' Q:=by
  refine ⟨rfl,hg,?_⟩;rw [hc];refine CalOk.mono h ?_;rintro r hp ⟨r2,h1,h2,h3,h4⟩;simp only [h1,h3];exact ⟨h2,rfl,h4⟩
 obtain ⟨e1,st1,t1,A1,S1,w1,ds1,hq1,hl1,hr1,hs1,hx1,hm1⟩:=wpC_sound (b:=b) (k:=k) (cs:=cs) hwf fn false _ _ _ hw hs hr hf (by rw [hro];rfl) hm hb;obtain ⟨rfl,hfin⟩:=hq1;have hxw:=hx1.weak hn;obtain ⟨st2,t2,A2,S2,w2,ds,td,q1,q2,q3,q4,q5,q6⟩:=hfin (b:={b with defers:=ds1}) (cs:=cs) hxw.len hs1 hr1 hf hro hm1 (Nat.le_trans hb hx1.size);exact ⟨st2,t2,A2,S2,w2,ds,td,q1,hl1.trans q2,q3,q4,hxw.trans q5,q6⟩
def callAtC:List Item→St→Option (Cal×List RV×Option Tmp×List Item)
 | .inRegion ops (i::is)::k,st=>match ops[i]? with
  | some o=>match wantedR ops st.regs o with
   | some true=>match goodO o with
    | true=>match callOf o.op with
     | some (f,args)=>match calOf (evR st.regs f) (args.map (evR st.regs)) with
      | some (c,as)=>some (c,as,o.dst,.inRegion ops is::k)
      | none=>none
     | none=>none
    | false=>none
   | _=>none
  | none=>none
 | _,_=>none
theorem Fin.callC [TOk P T] (hwf:WFP T) {todo todo':List Item} {c:Cal} {ags:List RV} {dst:Option Tmp} {F:RV→List Ob→Prop} (h:callAtC todo st=some (c,ags,dst,todo')) (hv:CalOk P G c ags st.hp F)
  (hf:∀r hp,F r hp→Fin P G n fn todo' ⟨putR st.regs dst r,hp⟩ Q):Fin P G n fn todo st Q:=by
 unfold callAtC at h;split at h
 ·split at h
  ·rename_i o ho;split at h
   ·rename_i hw;split at h
    ·rename_i hg;split at h
     ·rename_i f args hc;split at h
      ·rename_i g' as0 hcal;simp only [Option.some.injEq,Prod.mk.injEq] at h;obtain ⟨rfl,rfl,rfl,rfl⟩:=h;exact Fin.call hwf ho hw hg hc hcal (CalOk.mono hv hf)
      ·simp at h
     ·simp at h
    ·simp at h
   ·simp at h
  ·simp at h
 ·simp at h
def callUC (T:Tab) (ops:Array Oper) (i:Nat) (st:St):Option (Cal×List RV×Option Tmp):=match ops[i]? with
 | some o=>match wantedR ops st.regs o with
  | some true=>match goodO o with
   | true=>match callOf o.op with
    | some (f,args)=>match isQuiet (kindOp T o.op) with
     | false=>match calOf (evR st.regs f) (args.map (evR st.regs)) with
       | some (c,as)=>some (c,as,o.dst)
       | none=>none
     | true=>none
    | none=>none
   | false=>none
  | _=>none
 | none=>none
def covB (W:List Nat) (n:Nat):Bool:=(List.range n).all fun b=>W.contains b
theorem upon_cov {W:List Nat} {hp hp':List Ob} (h:covB W hp.length=true):Upon W hp hp':=by
 intro k x hk hx;obtain ⟨h1,h2⟩:=msk_some hk hx;have hl:=(List.getElem?_eq_some_iff.1 h2).1;simp only [covB,List.all_eq_true,List.mem_range] at h
 simp_all
theorem DU.callC [TOk P T] {ops:Array Oper} {Ms ws:List (List Nat)} {i:Nat} {is:List Nat} {Q:St→Prop} {c:Cal} {ags:List RV} {dst:Option Tmp} {F:RV→List Ob→Prop} (h:callUC T ops i st=some (c,ags,dst)) (hcov:covB (nthL ws i) st.hp.length=true) (hv:CalOk P G c ags st.hp F)
  (hf:∀r hp,F r hp→DU P T G ops (nthL Ms) (nthL ws) Q is ⟨putR st.regs dst r,hp⟩) (hM:nthL Ms i=[]:=by rfl):DU P T G ops (nthL Ms) (nthL ws) Q (i::is) st:=by
 unfold callUC at h;split at h
 ·rename_i o ho;split at h
  ·rename_i hw;split at h
   ·rename_i hg;split at h
    ·rename_i f args hc;split at h
     ·rename_i hq;split at h
      ·rename_i g' as0 hcal;simp only [Option.some.injEq,Prod.mk.injEq] at h;obtain ⟨rfl,rfl,rfl⟩:=h;refine ⟨o,ho,.inr (.inl ⟨hw,hq,.inr hM,hg,?_⟩)⟩;simp only [hc];exact ⟨_,_,hcal,CalOk.mono hv fun r hp hh=>⟨upon_cov hcov,hf r hp hh⟩⟩
      ·simp at h
     ·simp at h
    ·simp at h
   ·simp at h
  ·simp at h
 ·simp at h
end
end Go.Sx
namespace Go.Sx
def mixI (J:Nat→RV):Nat→List Bool→List RV→List RV
 | i,true::l,r::rs=>r::mixI J (i+1) l rs
 | i,false::l,_::rs=>J i::mixI J (i+1) l rs
 | _,[],rs=>rs
 | _,_,[]=>[]
theorem mixI_self (regs:List RV):∀(i:Nat) (lv:List Bool) (rs:List RV),rs=regs.drop i→mixI (fun k=>regs.getD k undefR) i lv rs=rs
 | _,[],rs,_=>by rfl
 | _,true::_,[],_=>rfl
 | _,false::_,[],_=>rfl
 | i,true::l,r::rs,h=>by
  have h2:rs=regs.drop (i+1):=by rw [← List.drop_drop (i:=1) (j:=i),← h];rfl
  simp only [mixI,mixI_self regs (i+1) l rs h2]
 | i,false::l,r::rs,h=>by
  have h2:rs=regs.drop (i+1):=by rw [← List.drop_drop (i:=1) (j:=i),← h];rfl
  have h3:regs.getD i undefR=r:=by
   rw [List.getD_eq_getElem?_getD];have:(regs.drop i)[0]? =some r:=by rw [← h];rfl
   rw [List.getElem?_drop] at this;rw [show i=i+0 from rfl,this];rfl
  simp only [mixI,mixI_self regs (i+1) l rs h2,h3]
section
variable {P:Program} {T:Tab} {G:Globs} {n:Nat} {fn:FuncId} {st:St} {Q:St→Prop} {todo:List Item}
noncomputable def cutI (P:Program) (T:Tab) (G:Globs) (m:Nat) (live:List Nat) (J:Nat→RV) (todo:List Item) (st:St):List Item×List RV×List Ob:=
 match adv P T G m todo st with
 | (todo',st')=>(todo',mixI J 0 (lvOf st'.regs.length live) st'.regs,st'.hp)
theorem Fin.cutI [TOk P T] (hwf:WFP T) (m:Nat) (live:List Nat) {todo':List Item} {f:(Nat→RV)→List RV} {hp':List Ob} (h:∀J,Sx.cutI P T G m live J todo st=(todo',f J,hp'))
  (hf:∀J,Fin P G n fn todo' ⟨f J,hp'⟩ Q):Fin P G n fn todo st Q:=by
 cases ha:Sx.adv P T G m todo st with
 | mk td s=>
  refine Fin.adv (P:=P) (T:=T) hwf m ha ?_;have h0:=h (fun k=>s.regs.getD k undefR);unfold Sx.cutI at h0;rw [ha] at h0;simp only at h0;rw [mixI_self s.regs 0 (lvOf s.regs.length live) s.regs rfl] at h0;simp only [Prod.mk.injEq] at h0;obtain ⟨rfl,e2,rfl⟩:=h0;have:=hf (fun k=>s.regs.getD k undefR);rw [← e2] at this;exact this
end
end Go.Sx
namespace Go.Sx
section
variable {P:Program} {T:Tab} {G:Globs} {n:Nat} {fn:FuncId} {k:List Item} {st:St} {Q:St→Prop}
theorem Fin.wp [TOk P T] (hwf:WFP T) {c:Code} (hw:wpC P T G (CalOk P G) (DrawOk P G) fn false c st fun e st'=>match e with
  | .normal=>Fin P G n fn k st' Q
  | .ret=>Q st'
  | .exit _=>False):Fin P G n fn (.code c::k) st Q:=by
 intro A S w t b cs base hn hs hr hf hro hm hb;obtain ⟨e1,st1,t1,A1,S1,w1,ds1,hq1,hl1,hr1,hs1,hx1,hm1⟩:=wpC_sound (b:=b) (k:=k) (cs:=cs) hwf fn false _ _ _ hw hs hr hf (by rw [hro];rfl) hm hb;have hxw:=hx1.weak hn;cases e1 with
 | exit i=>exact hq1.elim
 | ret=>
  obtain ⟨k0,h2⟩:=hl1;exact ⟨st1,t1,A1,S1,w1,ds1,_,hq1,Go.Steps.trans h2 (Steps.one' (fr_ret hro)),hr1,hs1,hxw,hm1⟩
 | normal=>
  obtain ⟨st2,t2,A2,S2,w2,ds,td,q1,q2,q3,q4,q5,q6⟩:=hq1 (b:={b with defers:=ds1}) (cs:=cs) hxw.len hs1 hr1 hf hro hm1 (Nat.le_trans hb hx1.size);exact ⟨st2,t2,A2,S2,w2,ds,td,q1,Go.Steps.trans hl1 q2,q3,q4,hxw.trans q5,q6⟩
theorem fr_defer {b:Frame} {t:Array Value} {cs:List Frame} {w w':World} {ops:Array Oper} {i:Nat} {rest:List Nat} {o:Oper} {c:Call} (ho:ops[i]? =some o) (hop:o.op= .defer c) (hw:Region.wanted o (yielded ops t)=true) (hro:b.roundOf=none) {d:Deferred}
  (hr:(execOp (evT t) o).run P w= .ok (.defer d) w'):step P (lone (Fr b t (.inRegion ops (i::rest)::k)) cs w)= .next (lone (Fr {b with defers:=d::b.defers} (putT t o.dst undef) (.inRegion ops rest::k)) cs w'):=by
 obtain ⟨fn0,tm0,td0,df0,md0,kd0,ro0⟩:=b;simp only at hro ⊢
 subst hro;have hf:=finish_Fr (b:={fn:=fn0,tmps:=tm0,todo:=td0,defers:=d::df0,mode:=md0,kind:=kd0,roundOf:=none}) (t:=t) (k:=k) (ops:=ops) i rest undef;rw [ho] at hf;simp only [Option.bind_some] at hf;rw [← hf];refine step_lone_go ?_;have he:({fn:=fn0,tmps:=t,todo:=Item.inRegion ops (i::rest)::k,defers:=df0,mode:=FrameMode.run,kind:=kd0}:Frame).eval=evT t:=by funext x;cases x<;>rfl
 simp only [stepG,stepG.exec,stepG.oper,Frame.oper?,Fr,ho,hw,Option.map_some,Option.getD_some,if_true,he];simp [stepG.apply,hr]
theorem fr_callDef {fr:Frame} {cs:List Frame} {w:World} {g:FuncId} {gn:Func} {ps:Array Value} {ds:List Deferred} (hm:fr.mode= .returning) (hd:fr.defers={target:= .fn (.func g) ps,args:=#[]}::ds) (g1:P.funcs[g]? =some gn) (g2:gn.body.isSome=true) (g3:gn.name≠ "runtime.NumGoroutine"):
  step P (lone fr cs w)= .next (lone (Frame.enter P g ps .deferred) ({fr with defers:=ds}::cs) w):=by
 apply step_lone_go;have hc:(invoke (.fn (.func g) ps) #[]).run P w= .ok (.enter g ps) w:=by
  simp only [invoke];rw [callFunc_enter g1 g2 g3];simp
 simp only [stepG,hm,unwind,hd,callDeferred,Sem.runT_eq,hc,GStep.bare_after];simp
theorem fr_recover {b c:Frame} {t:Array Value} {cs:List Frame} {w:World} {ops:Array Oper} {i:Nat} {rest:List Nat} {o:Oper} {ats:Array TypeId} (ho:ops[i]? =some o) (hop:o.op= .call {callee:= .builtin .recover,args:=#[],argTypes:=ats}) (hw:Region.wanted o (yielded ops t)=true) (hro:b.roundOf=none) (hc:c.mode= .returning) (hk:b.kind= .deferred):
  step P (lone (Fr b t (.inRegion ops (i::rest)::k)) (c::cs) w)= .next (lone (Fr b (putT t o.dst .nilIface) (.inRegion ops rest::k)) (c::cs) w):=by
 have hf:=finish_Fr (b:=b) (t:=t) (k:=k) (ops:=ops) i rest .nilIface;rw [ho] at hf;simp only [Option.bind_some] at hf;rw [← hf];refine step_lone_go ?_;have hr:(execOp (evT t) o).run P w= .ok .recover w:=by
  unfold execOp;simp only [hop,resolve,Sem.run_bind,Sem.run_pure,Result.andThen_ok,invoke];rfl
 rw [stepG_Fr ho hw (by rw [hop];rfl)];simp [stepG.apply,hr,Fr,hro,tryRecover,hc,hk]
theorem fr_leaveDef {fr c:Frame} {cs:List Frame} {w:World} {gn:Func} {v:Value} (hm:fr.mode= .returning) (hd:fr.defers=[]) (hk:fr.kind= .deferred) (hf:P.funcs[fr.fn]? =some gn) (hr:(results gn fr.tmps).run P w= .ok v w) (hc:c.mode= .returning):
  step P (lone fr (c::cs) w)= .next (lone c cs w):=by
 exact step_lone_go (by simp [stepG,unwind,doReturn,hm,hd,hk,hf,hr,hc])
end
end Go.Sx
namespace Go.Sx
section
variable {P:Program} {T:Tab} {G:Globs} {n:Nat} {fn:FuncId} {k:List Item} {st:St} {Q:St→Prop}
def DefOk (P:Program) (G:Globs) (g:FuncId) (ps:List RV) (L:List Ob) (R:List Ob→Prop):Prop:=
 ∀⦃A:Nat→Prop⦄ ⦃S:Where⦄ ⦃w:World⦄ ⦃vs:List Value⦄,Sim G A S L w→RelV A S w ps vs→∀(c:Frame) (cs:List Frame),c.mode= .returning→
  ∃L' A' S' w',R L'∧Steps P (lone (Frame.enter P g vs.toArray .deferred) (c::cs) w) (lone c cs w')∧Sim G A' S' L' w'∧Ext A S L w A' S' L' w'
def capR (c:Nat×Nat):RV:= .v (.one (.ref c.1 c.2))
def defOf (ρ:Operand→RV):Op→Option (FuncId×List (Nat×Nat))
 | .defer {callee:= .value f,args:=⟨[]⟩,argTypes:=_}=>match ρ f with
  | .v (.one (.fn g caps))=>match Nat.blt g mK,goodX f with
   | true,true=>some (g,caps)
   | _,_=>none
  | _=>none
 | _=>none
theorem defOf_some {ρ:Operand→RV} {op:Op} {g:FuncId} {caps:List (Nat×Nat)} (h:defOf ρ op=some (g,caps)):∃f ats,op= .defer {callee:= .value f,args:=#[],argTypes:=ats}∧ρ f= .v (.one (.fn g caps))∧Nat.blt g mK=true∧goodX f=true:=by
 unfold defOf at h
 grind
theorem Fin.defer [TOk P T] {ops:Array Oper} {i:Nat} {is:List Nat} {o:Oper} {g:FuncId} {gn:Func} {caps:List (Nat×Nat)} (ho:ops[i]? =some o) (hw:wantedR ops st.regs o=some true) (hd:defOf (evR st.regs) o.op=some (g,caps))
  (g1:P.funcs[g]? =some gn) (g2:gn.body.isSome=true) (g3:gn.name≠ "runtime.NumGoroutine")
  (h:Fin P G st.hp.length fn (.inRegion ops is::k) ⟨putR st.regs o.dst undefR,st.hp⟩ fun st'=>DefOk P G g (caps.map capR) st'.hp fun L'=>Q ⟨st'.regs,L'⟩):
  Fin P G n fn (.inRegion ops (i::is)::k) st Q:=by
 intro A S w t b cs base hn hs hr hf hro hm hb;obtain ⟨f,ats,hop,hev,hg,hgf⟩:=defOf_some hd;have hrf:=evR_rel hr hgf;rw [hev] at hrf;obtain ⟨ps,hv,hlen,hps⟩:=hrf;have hvf:evT t f= .func (.func g) #[] ps.toArray:=by rw [hv,fnVal,hg]
 have hex:(execOp (evT t) o).run P w= .ok (.defer {target:= .fn (.func g) ps.toArray,args:=#[]}) w:=by
  unfold execOp;simp only [hop,resolve,Sem.run_bind,hvf,Deferred.ofValue,Sem.run_pure,Result.andThen_ok];simp
 have hstep:=fr_defer (P:=P) (b:=b) (t:=t) (k:=k) (cs:=cs) (rest:=is) ho hop (wantedR_ok hr hw) hro hex;have hm0:Marks A S st.hp w ⟨w.heap.size,{target:= .fn (.func g) ps.toArray,args:=#[]}::b.defers⟩ ({target:= .fn (.func g) ps.toArray,args:=#[]}::b.defers):=⟨[],rfl,List.Pairwise.nil,fun d hd=>by cases hd⟩
 obtain ⟨st',t',A',S',w',ds,td,hQ,q2,q3,q4,q5,q6⟩:=h (b:={b with defers:={target:= .fn (.func g) ps.toArray,args:=#[]}::b.defers}) (cs:=cs) (Nat.le_refl _) hs (hr.put undefR_rel) hf hro hm0 (Nat.le_refl _);have hx:Ext A S st.hp w A' S' st'.hp w':=q5.strong hs;obtain ⟨w2,k1,k2,k3,k4⟩:=marks_taken (P:=P) (fr:={Fr {b with defers:=ds} t' td with mode:= .returning}) (cs:=cs) rfl (Nat.le_refl _) ds w' rfl q6 q4 q3 hx;have hps':RelV A' S' w2 (caps.map capR) ps:=by
  refine ⟨by simp [hlen],fun j r hj=> ?_⟩;simp only [List.getElem?_map,Option.map_eq_some_iff] at hj;obtain ⟨⟨bb,oo⟩,hj,rfl⟩:=hj;obtain ⟨B,d,h1,h2⟩:=hps j bb oo hj;exact ⟨_,h2,B,d,k4.wh bb (B,d) h1,rfl⟩
 obtain ⟨L',A2,S2,w3,hR,m1,m2,m3⟩:=hQ k2 hps' {Fr {b with defers:=b.defers} t' td with mode:= .returning} cs rfl;have hcall:=fr_callDef (P:=P) (fr:={Fr {b with defers:={target:= .fn (.func g) ps.toArray,args:=#[]}::b.defers} t' td with mode:= .returning}) (cs:=cs) (w:=w2) rfl rfl g1 g2 g3;refine ⟨⟨st'.regs,L'⟩,t',A2,S2,w3,b.defers,td,hR,.head hstep (q2.trans (k1.trans (.head hcall m1))),Sim.relRs k2 m3 k3,m2,((k4.trans m3).weak hn),hm.extW ((k4.trans m3).weak hn)⟩
def assertOf (T:Tab) (ρ:Operand→RV):Op→Option RV
 | .typeAssert x _ t true=>match ρ x,goodX x,T.und t,zeroR T t with
  | .v (.one (.p (.vl .nilIface))),true,some (.struct _),some (.v z)=>some (.tup [z,.one (.p (.vl (.bool false)))])
  | _,_,_,_=>none
 | _=>none
theorem Fin.assert [TOk P T] {ops:Array Oper} {i:Nat} {is:List Nat} {o:Oper} {r:RV} (ho:ops[i]? =some o) (hw:wantedR ops st.regs o=some true) (hd:assertOf T (evR st.regs) o.op=some r)
  (h:Fin P G n fn (.inRegion ops is::k) ⟨putR st.regs o.dst r,st.hp⟩ Q):Fin P G n fn (.inRegion ops (i::is)::k) st Q:=by
 refine Fin.go (F:=fun st'=>st'=⟨putR st.regs o.dst r,st.hp⟩) ?_ (fun _ e=>by rw [e];exact h);intro A S w t b cs hs hr hf;unfold assertOf at hd;split at hd
 ·rename_i x xt ty hop;split at hd
  ·rename_i fs z hx hgx hu hz;simp at hd;subst hd;have hrx:=evR_rel hr hgx;rw [hx] at hrx;have hv:evT t x= .nilIface:=by
    generalize evT t x=v at hrx;cases hrx;rfl
   obtain ⟨v,hzv,hrel⟩:=zeroR_rel (P:=P) (A:=A) (S:=S) (w:=w) hz;have hex:(execOp (evT t) o).run P w= .ok (.value (.tuple #[v,.bool false])) w:=by
    unfold execOp;simp only [hop,Instr.typeAssert,hv,Sem.run_bind,run_und hu,Result.andThen_ok,if_true,hzv,Sem.run_pure]
   refine ⟨_,_,A,S,w,rfl,Steps.one' (fr_opValue ho (wantedR_ok hr hw) (by rw [hop];rfl) hex),hr.put ?_,hs,Ext.refl⟩;refine ⟨_,rfl,rfl,fun j y hj=> ?_⟩
   match j,hj with
   | 0,hj=>simp at hj;subst hj;exact ⟨v,rfl,hrel⟩
   | 1,hj=>simp at hj;subst hj;exact ⟨.bool false,rfl,.vl _ rfl⟩
  ·simp at hd
 ·simp at hd
theorem DefOk.of_fin [TOk P T] {g:FuncId} {gn:Func} {id:Nat} {ops:Array Oper} {r:Code} {o:Oper} {ats:Array TypeId} {is:List Nat} {ps:List RV} {L:List Ob} {R:List Ob→Prop}
  (hf:P.funcs[g]? =some gn) (hb:gn.body=some (.seq (.region id ops false) r)) (ho:ops[0]? =some o) (hop:o.op= .call {callee:= .builtin .recover,args:=#[],argTypes:=ats}) (hw:wantedR ops (regs0 gn ps) o=some true) (hl:List.range ops.size=0::is)
  (h:Fin P G L.length g (.inRegion ops is::[.code r]) ⟨putR (regs0 gn ps) o.dst (atR .nilIface),L⟩ fun st=>∃r,resultsR T G gn st=some r∧R st.hp):DefOk P G g ps L R:=by
 intro A S w vs hs hvs c cs hc
 let b:Frame:={fn:=g,tmps:=#[],todo:=[],defers:=[],mode:= .run,kind:= .deferred,roundOf:=none}
 have henter:Frame.enter P g vs.toArray .deferred=Fr b (vs.toArray++Array.replicate (gn.ntmps - vs.toArray.size) undef) [.code (.seq (.region id ops false) r)]:=by
  simp [Frame.enter,Fr,hf,hb,b]
 rw [henter];have hr0:=regs0_rel (fn:=gn) hvs;have s1:=fr_seq (P:=P) (b:=b) (t:=vs.toArray++Array.replicate (gn.ntmps - vs.toArray.size) undef) (k:=[]) (cs:=c::cs) (w:=w) (x:= .region id ops false) (y:=r);have s2:=fr_region (P:=P) (b:=b) (t:=vs.toArray++Array.replicate (gn.ntmps - vs.toArray.size) undef) (k:=[.code r]) (cs:=c::cs) (w:=w) (id:=id) (ops:=ops);rw [hl] at s2;have s3:=fr_recover (P:=P) (b:=b) (c:=c) (t:=vs.toArray++Array.replicate (gn.ntmps - vs.toArray.size) undef) (k:=[.code r]) (cs:=cs) (w:=w) (rest:=is) ho hop (wantedR_ok hr0 hw) rfl hc rfl;have hm0:Marks A S L w ⟨w.heap.size,[]⟩ b.defers:=⟨[],rfl,List.Pairwise.nil,fun d hd=>by cases hd⟩
 obtain ⟨st,t,A',S',w',ds,td,⟨rr,hres,hQ⟩,hst,hr',hs',hx,hm⟩:=h (b:=b) (cs:=c::cs) (Nat.le_refl _) hs (hr0.put (dst:=o.dst) (r:=atR .nilIface) (v:= .nilIface) (.vl _ rfl)) rfl rfl hm0 (Nat.le_refl _);have hx:=hx.strong hs;obtain ⟨w2,k1,k2,k3,k4⟩:=marks_taken (P:=P) (fr:={Fr {b with defers:=ds} t td with mode:= .returning}) (cs:=c::cs) rfl (Nat.le_refl _) ds w' rfl hm hs' hr' hx;obtain ⟨v,hv,hrel⟩:=resultsR_ok (P:=P) (fn:=gn) (regs:=st.regs) k2 k3 hres;have hleave:=fr_leaveDef (P:=P) (fr:={{Fr {b with defers:=ds} t td with mode:= .returning} with defers:=[]}) (c:=c) (cs:=cs) (w:=w2) rfl rfl rfl hf hv hc;exact ⟨st.hp,A',S',w2,hQ,.head s1 (.head s2 (.head s3 (hst.trans (k1.trans (Steps.one' hleave))))),k2,k4⟩
end
end Go.Sx
namespace Go.Sx
def isRecover:Op→Bool
 | .call {callee:= .builtin .recover,args:=⟨[]⟩,argTypes:=_}=>true
 | _=>false
theorem isRecover_ok {op:Op} (h:isRecover op=true):∃ats,op= .call {callee:= .builtin .recover,args:=#[],argTypes:=ats}:=by
 unfold isRecover at h
 grind
noncomputable def runClo (C:Conf) (m:Nat) (g:FuncId) (ps:List RV) (L:List Ob):Option (List Ob):=
 match C.func g with
 | some gn=>match gn.body with
  | some (.seq (.region _ ops false) r)=>match ops.toList,List.range ops.size with
   | o0::o1::_,0::1::is=>match isRecover o0.op,wantedR ops (regs0 gn ps) o0,wantedR ops (putR (regs0 gn ps) o0.dst (atR .nilIface)) o1,assertOf C.T (evR (putR (regs0 gn ps) o0.dst (atR .nilIface))) o1.op with
    | true,some true,some true,some x=>match adv C.P C.T C.G m (.inRegion ops is::[.code r]) ⟨putR (putR (regs0 gn ps) o0.dst (atR .nilIface)) o1.dst x,L⟩ with
     | ([],st)=>match resultsR C.T C.G gn st with
      | some _=>some st.hp
      | none=>none
     | _=>none
    | _,_,_,_=>none
   | _,_=>none
  | _=>none
 | none=>none
theorem runClo_ok {C:Conf} (hC:C.Ok) {m:Nat} {g:FuncId} {ps:List RV} {L L':List Ob} (h:runClo C m g ps L=some L'):DefOk C.P C.G g ps L (·=L'):=by
 have:=hC.tok;unfold runClo at h;split at h
 ·rename_i gn hg;obtain ⟨hf,hn⟩:=hC.func _ _ hg;split at h
  ·rename_i id ops r hb;split at h
   ·rename_i o0 o1 tl is hl hr;split at h
    ·rename_i x h1 h2 h3 h4;split at h
     ·rename_i st ha;split at h
      ·rename_i rr hres;simp at h;subst h;obtain ⟨ats,hop⟩:=isRecover_ok h1;have e0:ops[0]? =some o0:=by rw [← Array.getElem?_toList,hl];rfl
       have e1:ops[1]? =some o1:=by rw [← Array.getElem?_toList,hl];rfl
       exact DefOk.of_fin (T:=C.T) hf hb e0 hop h2 hr (Fin.assert e1 h3 h4 (Fin.adv hC.wf m ha (Fin.done ⟨rr,hres,rfl⟩)))
      ·simp at h
     ·simp at h
    ·simp at h
   ·simp at h
  ·simp at h
 ·simp at h
noncomputable def runDef (C:Conf) (call:CallR) (k:Nat) (f:FuncId) (args:List RV):Option RV:=
 match C.func f with
 | some fn=>match fn.body with
  | some (.seq a (.seq b c))=>match runC C call k f false (.seq a b) ⟨regs0 fn args,[]⟩ with
   | some (.normal,st)=>match adv C.P C.T C.G 10 [.code c] st with
    | ([.inRegion ops [1],.code d],st1)=>match ops.toList with
     | _::o1::_=>match wantedR ops st1.regs o1,defOf (evR st1.regs) o1.op with
      | some true,some (g,caps)=>match C.func g with
       | some gn=>match gn.body with
        | some _=>match runC C call k f false d ⟨putR st1.regs o1.dst undefR,st1.hp⟩ with
         | some (.ret,st2)=>match runClo C k g (caps.map capR) st2.hp with
          | some L'=>match resultsR C.T C.G fn ⟨st2.regs,L'⟩ with
           | some r=>match fzR L' r with
            | some (r',_)=>some r'
            | none=>none
           | none=>none
          | none=>none
         | _=>none
        | none=>none
       | none=>none
      | _,_=>none
     | _=>none
    | _=>none
   | _=>none
  | _=>none
 | none=>none
theorem runDef_ok {C:Conf} (hC:C.Ok) {call:CallR} (hcall:CallOk C.P C.G call) {k:Nat} {f:FuncId} {args:List RV} {r:RV} (h:runDef C call k f args=some r):ValC C.P C.G f args (·=r):=by
 have:=hC.tok;unfold runDef at h;split at h
 ·rename_i fn hfn;obtain ⟨hf,hn⟩:=hC.func _ _ hfn;split at h
  ·rename_i a b c hb;split at h
   ·rename_i st hrun;split at h
    ·rename_i ops d st1 ha;split at h
     ·rename_i o0 o1 tl hl;split at h
      ·rename_i g caps hw hd;split at h
       ·rename_i gn hg;obtain ⟨hgf,hgn⟩:=hC.func _ _ hg;split at h
        ·rename_i gc hgb;split at h
         ·rename_i st2 hrun2;split at h
          ·rename_i L' hclo;split at h
           ·rename_i rr hres;split at h
            ·rename_i r' ts hz;simp at h;subst h;have e1:ops[1]? =some o1:=by rw [← Array.getElem?_toList,hl];rfl
             have hdd:=runC_sound (fn:=f) (rnd:=false) hC hcall d _ _ _ hrun2;refine ValC.of_fin (T:=C.T) hf hb hn ?_;refine Fin.step (fun _ _ _ _=>fr_seq) ?_;rw [runC_seq] at hrun;split at hrun
             ·rename_i sa h1;refine Fin.wp hC.wf (wpC_mono a (runC_sound hC hcall a _ _ _ h1) ?_);rintro e' s ⟨rfl,rfl⟩;refine Fin.step (fun _ _ _ _=>fr_seq) ?_;refine Fin.wp hC.wf (wpC_mono b (runC_sound hC hcall b _ _ _ hrun) ?_);rintro e' s ⟨rfl,rfl⟩;refine Fin.adv hC.wf 10 ha ?_;refine Fin.defer (T:=C.T) e1 hw hd hgf (by rw [hgb];rfl) hgn ?_;refine Fin.step (fun _ _ _ _=>fr_regionEnd) ?_;refine Fin.wp hC.wf (wpC_mono d hdd ?_);rintro e' s ⟨rfl,rfl⟩;intro A S w vs hs hvs cc cs hcm;obtain ⟨L2,A',S',w',rfl,q⟩:=runClo_ok hC hclo hs hvs cc cs hcm
              grind
             simp_all
            ·simp at h
           ·simp at h
          ·simp at h
         ·simp at h
        ·simp at h
       ·simp at h
      ·simp at h
     ·simp at h
    ·simp at h
   ·simp at h
  ·simp at h
 ·simp at h
end Go.Sx
