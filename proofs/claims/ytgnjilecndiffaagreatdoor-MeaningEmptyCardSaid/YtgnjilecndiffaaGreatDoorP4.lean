/- A part of the proof of MeaningEmpty. -/
import Derived.Test.YtgnjilecndiffaaGreatDoorP3
set_option linter.all false
set_option maxRecDepth 1000000
set_option maxHeartbeats 0
namespace Go.Sx
section
variable {P:Program} {T:Tab} [TOk P T] {G:Globs}
def DrawOk (P:Program) (G:Globs) (ops:Array Oper) (st:St) (Q:St→Prop):Prop:=
 ∀A S w t (b:Frame) (k:List Item) (cs:List Frame) (id:Nat),Sim G A S st.hp w→RelRs A S w st.regs t→
  ∃st' t' A' S' w',Q st'∧Steps P (lone (Fr b t (.code (.region id ops true)::k)) cs w) (lone (Fr b t' k) cs w')∧RelRs A' S' w' st'.regs t'∧Sim G A' S' st'.hp w'∧Ext A S st.hp w A' S' st'.hp w'
theorem Goes.of_steps {base:Bs} {b:Frame} {k:List Item} {cs:List Frame} {m m':Machine} {A:Nat→Prop} {S:Where} {L:List Ob} {w:World} {Q:Ex→St→Prop} (h:Steps P m m') (g:Goes P G base b k cs m' A S L w Q):Goes P G base b k cs m A S L w Q:=by
 obtain ⟨e,st',t',A',S',w',ds,h1,h2,h3⟩:=g;exact ⟨e,st',t',A',S',w',ds,h1,Lands.of_steps h h2,h3⟩
theorem Goes.now {base:Bs} {b:Frame} {k:List Item} {cs:List Frame} {m:Machine} {A A':Nat→Prop} {S S':Where} {L:List Ob} {w w':World} {t:Array Value} {st:St} {Q:Ex→St→Prop} (hq:Q .normal st)
  (h:Steps P m (lone (Fr b t k) cs w')) (hr:RelRs A' S' w' st.regs t) (hs:Sim G A' S' st.hp w') (hx:Ext A S L w A' S' st.hp w') (hm:Marks A' S' st.hp w' base b.defers):Goes P G base b k cs m A S L w Q:=
 ⟨.normal,st,t,A',S',w',b.defers,hq,h,hr,hs,hx,hm⟩
theorem Goes.then {base:Bs} {b:Frame} {k k':List Item} {cs:List Frame} {m:Machine} {A:Nat→Prop} {S:Where} {L:List Ob} {w:World} {Q Q':Ex→St→Prop} (h:Goes P G base b k' cs m A S L w Q)
  (hk:∀i,exitTo i k'=exitTo i k)
  (hn:∀(b':Frame) st t A' S' w',Q .normal st→b'.fn=b.fn→b'.roundOf=b.roundOf→RelRs A' S' w' st.regs t→Sim G A' S' st.hp w'→Ext A S L w A' S' st.hp w'→Marks A' S' st.hp w' base b'.defers→(∀ds,{b' with defers:=ds}={b with defers:=ds})→
   Goes P G base b' k cs (lone (Fr b' t k') cs w') A' S' st.hp w' Q')
  (he:∀i st,Q (.exit i) st→Q' (.exit i) st) (hret:∀st,Q .ret st→Q' .ret st):Goes P G base b k cs m A S L w Q':=by
 obtain ⟨e,st,t,A',S',w',ds,hq,hl,hr,hs,hx,hm⟩:=h;cases e with
 | normal=>
  obtain ⟨e2,st2,t2,A2,S2,w2,ds2,hq2,hl2,hr2,hs2,hx2,hm2⟩:=hn {b with defers:=ds} st t A' S' w' hq rfl rfl hr hs hx hm (fun _=>rfl);refine ⟨e2,st2,t2,A2,S2,w2,ds2,hq2,?_,hr2,hs2,hx.trans hx2,hm2⟩;have hl2':Lands P (lone (Fr {b with defers:=ds} t k') cs w') b k cs e2 ds2 t2 w2:=by
   cases e2<;>exact hl2
  exact Lands.of_steps hl hl2'
 | exit i=>
  obtain ⟨k0,h1,h2⟩:=hl;exact ⟨.exit i,st,t,A',S',w',ds,he i st hq,⟨k0,h1.trans (hk i),h2⟩,hr,hs,hx,hm⟩
 | ret=>
  obtain ⟨k0,h2⟩:=hl;exact ⟨.ret,st,t,A',S',w',ds,hret st hq,⟨k0,h2⟩,hr,hs,hx,hm⟩
theorem calOf_val {A:Nat→Prop} {S:Where} {w:World} {rf:RV} {vf:Value} {args as:List RV} {vargs:List Value} {g:FuncId} (hf:RelR A S w rf vf) (hargs:RelV A S w args vargs) (hc:calOf rf args=some (.fn g,as)):
  ∃vs:List Value,(do let d ← Deferred.ofValue vf vargs.toArray;invoke d.target d.args:Sem Next).run P w=(callFunc g vs.toArray).run P w∧RelV A S w as vs:=by
 unfold calOf at hc;split at hc
 ·rename_i g' first captured
  split at hc
  ·rename_i a b h1 h2;simp only [Option.some.injEq,Prod.mk.injEq,Cal.fn.injEq] at hc;obtain ⟨rfl,rfl⟩:=hc;cases hf;refine ⟨first.toList++vargs++captured.toList,?_,(RelV.append (RelV.append (ofVals_rel h1) hargs) (ofVals_rel h2))⟩;simp only [Sem.run_bind,Deferred.ofValue,Sem.run_pure,Result.andThen_ok,invoke]
   congr 2
   simp_all
  ·simp at hc
 ·rename_i g' caps;obtain ⟨ps,rfl,hl,hp⟩:=hf;have hcaps:RelV A S w (caps.map fun p=> .v (.one (.ref p.1 p.2))) ps:=by
   refine ⟨by simp [hl],fun i r hi=> ?_⟩;simp only [List.getElem?_map,Option.map_eq_some_iff] at hi;obtain ⟨⟨bb,oo⟩,hb,rfl⟩:=hi;obtain ⟨B,d,q1,q2⟩:=hp i bb oo hb;exact ⟨_,q2,B,d,q1,rfl⟩
  unfold fnVal;split at hc
  ·rename_i hlt;simp only [hlt];simp at hc;obtain ⟨rfl,rfl⟩:=hc;refine ⟨vargs++ps,?_,RelV.append hargs hcaps⟩;simp only [Sem.run_bind,Deferred.ofValue,Sem.run_pure,Result.andThen_ok,invoke]
   simp_all
  ·rename_i hlt;simp only [hlt];simp at hc;obtain ⟨rfl,rfl⟩:=hc;refine ⟨ps++vargs,?_,RelV.append hcaps hargs⟩;simp only [Sem.run_bind,Deferred.ofValue,Sem.run_pure,Result.andThen_ok,invoke]
   simp_all
 all_goals simp_all
theorem Ext.foreign {A:Nat→Prop} {S:Where} {L:List Ob} {w:World} (o:Obj):Ext A S L w A S L (pushW w o) where
 size:=by simp [pushW]
 os:=rfl
 tape:=rfl
 output:=rfl
 wh _ _ h:=h
 nw _ _ h:=h
 len:=Nat.le_refl _
 keep B hB _:=pushW_old w o hB
 shp B c e fr hc:=⟨c,⟨fr,by rw [pushW_old w o (not_lt_heap hc)];exact hc⟩,rfl⟩
 up _ h:=h
 down _ h:= .inl h
 own _ _ h:=h
theorem Sim.foreign {A:Nat→Prop} {S:Where} {L:List Ob} {w:World} (hs:Sim G A S L w) (o:Obj):Sim G A S L (pushW w o) where
 ob b x hb:=ObRel.ext hs (Ext.foreign o) (hs.ob b x hb) fun hl B d hB=>pushW_old w o (hs.vl hb hl hB)
 dis:=hs.dis
 lt B hA:=by have:=hs.lt B hA;simp [pushW];omega
 inj:=hs.inj
 dom:=hs.dom
 gl g vs hg:=by
  obtain ⟨h1,h2⟩:=hs.gl g vs hg;refine ⟨h1,fun i v hi=> ?_⟩;obtain ⟨h3,h4⟩:=h2 i v hi;refine ⟨?_,h4⟩;unfold World.cell? at*;rw [pushW_old w o (hs.lt g h1)];exact h3
def loopWorld (w:World) (fn:FuncId) (t:Array Value) (params:Array Tmp) (assign body:Code):World:=
 pushW (pushW w (.deferred (some []))) (.loop {state:= .ready,pending:=none,fn:=fn,tmps:=t,params:=params,assign:=assign,body:=body,defers:=w.heap.size})
theorem fr_range {b:Frame} {t:Array Value} {k:List Item} {cs:List Frame} {w:World} {f:Operand} {params:Array Tmp} {assign body:Code} (hro:b.roundOf=none) {g:FuncId} {args:Array Value}
  (hrun:(do let d ← Deferred.ofValue (evT t f) #[.func (.yield (w.heap.size+1)) #[] #[]];invoke d.target d.args:Sem Next).run P (loopWorld w b.fn t params assign body)= .ok (.enter g args) (loopWorld w b.fn t params assign body)):
  step P (lone (Fr b t (.code (.rangeFunc f params assign body)::k)) cs w)=
   .next (lone (Frame.enter P g args .normal) (Fr {b with defers:={target:= .collected w.heap.size,args:=#[]}::b.defers} t (.inRangeFunc (w.heap.size+1)::k)::cs) (loopWorld w b.fn t params assign body)):=by
 apply step_lone_go;have hel:(Instr.enterLoop b.fn t params assign body none).run P w= .ok (w.heap.size+1,[{target:= .collected w.heap.size,args:=#[]}]) (loopWorld w b.fn t params assign body):=by
  simp only [Instr.enterLoop,Sem.run_bind,run_newObj,Result.andThen_ok,Sem.run_pure];have e:({w with heap:=w.heap.push (.deferred (some []))}:World).heap.size=w.heap.size+1:=by simp
  rw [e];rfl
 obtain ⟨fn0,tm0,td0,df0,md0,kd0,ro0⟩:=b;simp only at hro hel hrun ⊢
 subst hro;have hres:(do let d ← resolve ({fn:=fn0,tmps:=t,todo:=Item.inRangeFunc (w.heap.size+1)::k,defers:={target:=Target.collected w.heap.size,args:=#[]}::df0,mode:=FrameMode.run,kind:=kd0}:Frame).eval {callee:= .value f,args:=#[.const (.func (.yield (w.heap.size+1)) #[] #[])],argTypes:=#[]} 0;invoke d.target d.args:Sem Next).run P (loopWorld w fn0 t params assign body)= .ok (.enter g args) (loopWorld w fn0 t params assign body):=by
  have he:({fn:=fn0,tmps:=t,todo:=Item.inRangeFunc (w.heap.size+1)::k,defers:={target:=Target.collected w.heap.size,args:=#[]}::df0,mode:=FrameMode.run,kind:=kd0}:Frame).eval=evT t:=by funext x;cases x<;>rfl
  rw [he];have hm:(#[Operand.const (.func (.yield (w.heap.size+1)) #[] #[])]:Array Operand).map (evT t)=#[.func (.yield (w.heap.size+1)) #[] #[]]:=by simp [evT]
  simp only [resolve,hm];exact hrun
 simp only [stepG,stepG.exec,Fr,Sem.runT_eq,hel,GStep.bare_after,stepG.apply]
 simp_all
theorem fr_rangeV {b:Frame} {t:Array Value} {k:List Item} {cs:List Frame} {w:World} {f:Operand} {params:Array Tmp} {assign body:Code} (hro:b.roundOf=none) {v:Value} {w':World}
  (hrun:(do let d ← Deferred.ofValue (evT t f) #[.func (.yield (w.heap.size+1)) #[] #[]];invoke d.target d.args:Sem Next).run P (loopWorld w b.fn t params assign body)= .ok (.value v) w'):
  step P (lone (Fr b t (.code (.rangeFunc f params assign body)::k)) cs w)=
   .next (lone (Fr {b with defers:={target:= .collected w.heap.size,args:=#[]}::b.defers} t (.endRangeFunc (w.heap.size+1)::k)) cs w'):=by
 apply step_lone_go;have hel:(Instr.enterLoop b.fn t params assign body none).run P w= .ok (w.heap.size+1,[{target:= .collected w.heap.size,args:=#[]}]) (loopWorld w b.fn t params assign body):=by
  simp only [Instr.enterLoop,Sem.run_bind,run_newObj,Result.andThen_ok,Sem.run_pure];have e:({w with heap:=w.heap.push (.deferred (some []))}:World).heap.size=w.heap.size+1:=by simp
  rw [e];rfl
 obtain ⟨fn0,tm0,td0,df0,md0,kd0,ro0⟩:=b;simp only at hro hel hrun ⊢
 subst hro;have hres:(do let d ← resolve ({fn:=fn0,tmps:=t,todo:=Item.inRangeFunc (w.heap.size+1)::k,defers:={target:=Target.collected w.heap.size,args:=#[]}::df0,mode:=FrameMode.run,kind:=kd0}:Frame).eval {callee:= .value f,args:=#[.const (.func (.yield (w.heap.size+1)) #[] #[])],argTypes:=#[]} 0;invoke d.target d.args:Sem Next).run P (loopWorld w fn0 t params assign body)= .ok (.value v) w':=by
  have he:({fn:=fn0,tmps:=t,todo:=Item.inRangeFunc (w.heap.size+1)::k,defers:={target:=Target.collected w.heap.size,args:=#[]}::df0,mode:=FrameMode.run,kind:=kd0}:Frame).eval=evT t:=by funext x;cases x<;>rfl
  rw [he];have hm:(#[Operand.const (.func (.yield (w.heap.size+1)) #[] #[])]:Array Operand).map (evT t)=#[.func (.yield (w.heap.size+1)) #[] #[]]:=by simp [evT]
  simp only [resolve,hm];exact hrun
 simp only [stepG,stepG.exec,Fr,Sem.runT_eq,hel,GStep.bare_after,stepG.apply];simp only [List.singleton_append,hres,if_true,GStep.bare];rfl
theorem fr_endRange {b:Frame} {t:Array Value} {k:List Item} {cs:List Frame} {w:World} {l:Nat} {lr:Loop} (hl:w.heap[l]? =some (.loop lr)) (hb:lr.state≠.busy):
  step P (lone (Fr b t (.endRangeFunc l::k)) cs w)= .next (lone (Fr b t ((lr.pending.map Item.code).toList++k)) cs (putW w l (.loop {lr with state:= .exhausted}))):=by
 apply step_lone_go;have hel:(Instr.endLoop l).run P w= .ok lr.pending (putW w l (.loop {lr with state:= .exhausted})):=by
  have hg:(getObj l).run P w= .ok (.loop lr) w:=by simp [getObj,Sem.run,hl]
  have hset:∀o:Obj,(setObj l o).run P w= .ok () (putW w l o):=by intro o;simp [setObj,Sem.run,hl];rfl
  have hbb:(lr.state==LoopState.busy)=false:=by simpa using hb
  simp only [Instr.endLoop,Instr.getLoop,Sem.run_bind,hg,Result.andThen_ok,Sem.run_pure,hbb,Bool.false_eq_true,if_false,hset]
 simp only [stepG,stepG.exec,Fr,Sem.runT_eq,hel,GStep.bare_after];rfl
set_option maxHeartbeats 1000000 in
theorem wpC_sound (hwf:WFP T) (fn:FuncId) (rnd:Bool):∀(c:Code) (st:St) (Q:Ex→St→Prop),wpC P T G (CalOk P G) (DrawOk P G) fn rnd c st Q→
  ∀{A:Nat→Prop} {S:Where} {w:World} {t:Array Value} {b:Frame} {k:List Item} {cs:List Frame} {base:Bs},Sim G A S st.hp w→RelRs A S w st.regs t→b.fn=fn→b.roundOf.isSome=rnd→Marks A S st.hp w base b.defers→base.n≤w.heap.size→
  Goes P G base b k cs (lone (Fr b t (.code c::k)) cs w) A S st.hp w Q
 | .skip,st,Q,h,A,S,w,t,b,k,cs,base,hs,hr,hf,hro,hm,hb=>Goes.now h (Steps.one' fr_skip) hr hs Ext.refl hm
 | .label _,st,Q,h,A,S,w,t,b,k,cs,base,hs,hr,hf,hro,hm,hb=>Goes.now h (Steps.one' fr_label) hr hs Ext.refl hm
 | .region id ops false,st,Q,h,A,S,w,t,b,k,cs,base,hs,hr,hf,hro,hm,hb=>by
  obtain ⟨st',t',A',S',w',hQ,hst,hr',hs',hx⟩:=wpL_sound (b:=b) (k:=k) (cs:=cs) hwf ops.toList 0 rfl hs hr h;refine Goes.now hQ (.head fr_region ?_) hr' hs' hx (hm.ext hx);have:List.range ops.size=List.range' 0 ops.toList.length:=by simp [List.range_eq_range']
  simp_all
 | .region id ops true,st,Q,h,A,S,w,t,b,k,cs,base,hs,hr,hf,hro,hm,hb=>by
  obtain ⟨st',t',A',S',w',hQ,hst,hr',hs',hx⟩:=h A S w t b k cs id hs hr;exact Goes.now hQ hst hr' hs' hx (hm.ext hx)
 | .seq x y,st,Q,h,A,S,w,t,b,k,cs,base,hs,hr,hf,hro,hm,hb=>by
  refine Goes.of_steps (Steps.one' fr_seq) ?_;refine Goes.then (wpC_sound hwf fn rnd x st _ h hs hr hf hro hm hb) (fun i=>rfl) ?_ (fun i st h=>h) (fun st h=>h);intro b' st' t' A' S' w' hq hf' hro' hr' hs' hx' hm' _;exact wpC_sound hwf fn rnd y st' Q hq hs' hr' (hf'.trans hf) (by simp_all) hm' (Nat.le_trans hb hx'.size)
 | .cond c x y,st,Q,h,A,S,w,t,b,k,cs,base,hs,hr,hf,hro,hm,hb=>by
  simp only [wpC] at h;split at h
  ·rename_i u hu;have hc:goodX c=true:=by
    cases c with
    | const v=>
     simp only [evR] at hu;simp only [goodX];cases hov:ofVal v with
     | none=>rw [hov] at hu;simp [undefR] at hu
     | some r=>rfl
    | _=>rfl
   have hrc:=evR_rel hr hc;rw [hu] at hrc;have hv:evT t c= .bool u:=by
    generalize evT t c=v at hrc;cases hrc;rfl
   refine Goes.of_steps (Steps.one' (fr_cond hv)) ?_;cases u with
   | true=>exact wpC_sound hwf fn rnd x st Q (h.1 rfl) hs hr hf hro hm hb
   | false=>exact wpC_sound hwf fn rnd y st Q (h.2 rfl) hs hr hf hro hm hb
  ·exact h.elim
 | .block id c,st,Q,h,A,S,w,t,b,k,cs,base,hs,hr,hf,hro,hm,hb=>by
  refine Goes.of_steps (Steps.one' fr_block) ?_;obtain ⟨e,st',t',A',S',w',ds,hq,hl,hr',hs',hx,hm'⟩:=wpC_sound (k:= .inBlock id::k) (cs:=cs) hwf fn rnd c st _ h hs hr hf hro hm hb;cases e with
  | normal=>exact ⟨.normal,st',t',A',S',w',ds,hq,Go.Steps.trans hl (Steps.one' fr_inBlock),hr',hs',hx,hm'⟩
  | exit i=>
   obtain ⟨k0,h1,h2⟩:=hl;simp only [exitTo] at h1
   by_cases hi:i=id
   ·subst hi;simp at h1 hq;exact ⟨.normal,st',t',A',S',w',ds,hq,Go.Steps.trans h2 (Steps.one' (fr_exit h1)),hr',hs',hx,hm'⟩
   ·have hne:(id==i)=false:=by simp;exact fun e=>hi e.symm
    simp only [hne,Bool.false_eq_true,if_false] at h1;simp only [hi,if_false] at hq;exact ⟨.exit i,st',t',A',S',w',ds,hq,⟨k0,h1,h2⟩,hr',hs',hx,hm'⟩
  | ret=>exact ⟨.ret,st',t',A',S',w',ds,hq,hl,hr',hs',hx,hm'⟩
 | .loop c,st,Q,h,A,S,w,t,b,k,cs,base,hs,hr,hf,hro,hm,hb=>by
  obtain ⟨n,h⟩:=h;refine Goes.of_steps (Steps.one' fr_loop) ?_;have ih:=wpC_sound hwf fn rnd c;clear hwf
  induction n generalizing st A S w t b with
  | zero=>exact h.elim
  | succ n ihn=>
   simp only [loopW] at h;refine Goes.then (k':= .inLoop c::k) (ih st _ h hs hr hf hro hm hb) (fun i=>rfl) ?_ (fun i st h=>h) (fun st h=>h);intro b' st' t' A' S' w' hq hf' hro' hr' hs' hx' hm' _;exact Goes.of_steps (Steps.one' fr_inLoop) (ihn st' _ _ _ _ _ hs' hr' (hf'.trans hf) (by simp_all) hm' (Nat.le_trans hb hx'.size) hq)
 | .exit id,st,Q,h,A,S,w,t,b,k,cs,base,hs,hr,hf,hro,hm,hb=>⟨.exit id,st,t,A,S,w,b.defers,h,⟨k,rfl,Go.Steps.refl _ _⟩,hr,hs,Ext.refl,hm⟩
 | .ret,st,Q,h,A,S,w,t,b,k,cs,base,hs,hr,hf,hro,hm,hb=>⟨.ret,st,t,A,S,w,b.defers,h,⟨k,Go.Steps.refl _ _⟩,hr,hs,Ext.refl,hm⟩
 | .rangeFunc f params assign body,st,Q,h,A,S,w,t,b,k,cs,base,hs,hr,hf,hro,hm,hb=>by
  obtain ⟨hrnd,hgf,h⟩:=h;have hro':b.roundOf=none:=by rw [hrnd] at hro;simp_all
  split at h
  ·rename_i g as hc;have hs1:=hs.foreign (.deferred (some []));have hx1:Ext A S st.hp w A S st.hp (pushW w (.deferred (some []))):=Ext.foreign _
   let lr:LR:={fn:=fn,regs:=st.regs,params:=params.toList,assign:=assign,body:=body,state:= .ready,pending:=none}
   let lobj:Obj:= .loop {state:= .ready,pending:=none,fn:=b.fn,tmps:=t,params:=params,assign:=assign,body:=body,defers:=w.heap.size}
   have hsz1:(pushW w (.deferred (some []))).heap.size=w.heap.size+1:=by simp [pushW]
   have hx2:Ext A S st.hp (pushW w (.deferred (some []))) A (S.put st.hp.length (w.heap.size+1,0)) (st.hp++[.loop lr]) (loopWorld w b.fn t params assign body):=by
    have:=Ext.push hs1 (.loop lr) lobj 0;rw [hsz1] at this;exact this
   have hs2:Sim G A (S.put st.hp.length (w.heap.size+1,0)) (st.hp++[.loop lr]) (loopWorld w b.fn t params assign body):=by
    have:=Sim.push hs1 (.loop lr) lobj 0;rw [hsz1] at this;refine this ⟨w.heap.size+1,0,t,w.heap.size,Where.put_same _ _ _,?_,hs1.relRs hx2 (hs.relRs hx1 hr)⟩;have hn:=pushW_new (pushW w (.deferred (some []))) lobj;rw [hsz1] at hn;rw [hn];simp [lobj,lr,hf]
   have hx12:=hx1.trans hx2;have hyl:RelV A (S.put st.hp.length (w.heap.size+1,0)) (loopWorld w b.fn t params assign body) [.v (.one (.yld st.hp.length))] [.func (.yield (w.heap.size+1)) #[] #[]]:=
    RelV.cons ⟨w.heap.size+1,0,Where.put_same _ _ _,rfl⟩ RelV.nil
   obtain ⟨vs,hrun,hvs⟩:=calOf_val (P:=P) (hs.relR hx12 (evR_rel hr hgf)) hyl hc
   obtain ⟨r,L',v,A',S',w',hK,hstep,hrel,hsim,hext⟩:∃(r:RV) (L':List Ob) (v:Value) (A':Nat→Prop) (S':Where) (w':World),(match L'[st.hp.length]? with
     | some (.loop r)=>r.state≠.busy∧match exOf r.pending with
      | some e=>Q e ⟨st.regs,L'.set st.hp.length .gone⟩
      | none=>False
     | _=>False)∧Steps P (lone (Fr b t (.code (.rangeFunc f params assign body)::k)) cs w) (lone (Fr {b with defers:={target:= .collected w.heap.size,args:=#[]}::b.defers} t (.endRangeFunc (w.heap.size+1)::k)) cs w')∧RelR A' S' w' r v∧Sim G A' S' L' w'∧
      Ext A (S.put st.hp.length (w.heap.size+1,0)) (st.hp++[.loop lr]) (loopWorld w b.fn t params assign body) A' S' L' w':=by
    rcases h with ⟨⟨fn',g1,g2,g3⟩,hcall⟩ | hxx
    ·obtain ⟨r,L',v,A',S',w',hK,hst,hrel,hsim,hext⟩:=hcall A _ _ vs hs2 hvs (Fr {b with defers:={target:= .collected w.heap.size,args:=#[]}::b.defers} t (.inRangeFunc (w.heap.size+1)::k)) cs;have hstep:=fr_range (P:=P) (b:=b) (t:=t) (k:=k) (cs:=cs) hro' (hrun.trans (callFunc_enter g1 g2 g3));have hfin:(Fr {b with defers:={target:= .collected w.heap.size,args:=#[]}::b.defers} t (.inRangeFunc (w.heap.size+1)::k)).finish v=Fr {b with defers:={target:= .collected w.heap.size,args:=#[]}::b.defers} t (.endRangeFunc (w.heap.size+1)::k):=rfl;rw [hfin] at hst;exact ⟨r,L',v,A',S',w',hK,.head hstep hst,hrel,hsim,hext⟩
    ·obtain ⟨r,L',v,A',S',w',hK,hr0,hrel,hsim,hext⟩:=hxx A _ _ vs hs2 hvs;exact ⟨r,L',v,A',S',w',hK,Steps.one' (fr_rangeV (P:=P) (b:=b) (t:=t) (k:=k) (cs:=cs) hro' (hrun.trans hr0)),hrel,hsim,hext⟩
   split at hK
   ·rename_i r2 hL2;obtain ⟨hnb,hK⟩:=hK;split at hK
    ·rename_i e he;have hlt:st.hp.length<(st.hp++[Ob.loop lr]).length:=by simp
     have hS:S' st.hp.length=some (w.heap.size+1,0):=by exact hext.wh _ _ (Where.put_same _ _ _)
     obtain ⟨B,d,tmps,D,q1,q2,q3⟩:=hsim.ob st.hp.length _ hL2;rw [hS] at q1;simp only [Option.some.injEq,Prod.mk.injEq] at q1;obtain ⟨rfl,rfl⟩:=q1;have hend:=fr_endRange (P:=P) (b:={b with defers:={target:= .collected w.heap.size,args:=#[]}::b.defers}) (t:=t) (k:=k) (cs:=cs) q2 hnb;have hshape:∀c1 e1 fr1,Obj.loop {state:=r2.state,pending:=r2.pending,fn:=r2.fn,tmps,params:=r2.params.toArray,assign:=r2.assign,body:=r2.body,defers:=D}= .cells c1 e1 fr1→∃c2,Obj.loop {state:= .exhausted,pending:=r2.pending,fn:=r2.fn,tmps,params:=r2.params.toArray,assign:=r2.assign,body:=r2.body,defers:=D}= .cells c2 e1 fr1∧c2.size=c1.size:=by
      intro c1 e1 fr1 he;cases he
     have hx3:Ext A' S' L' w' A' S' (L'.set st.hp.length (.loop {r2 with state:= .exhausted})) (putW w' (w.heap.size+1) (.loop {state:= .exhausted,pending:=r2.pending,fn:=r2.fn,tmps,params:=r2.params.toArray,assign:=r2.assign,body:=r2.body,defers:=D})):=
      Ext.write hsim hL2 rfl hS q2 hshape
     have hs3:Sim G A' S' (L'.set st.hp.length (.loop {r2 with state:= .exhausted})) (putW w' (w.heap.size+1) (.loop {state:= .exhausted,pending:=r2.pending,fn:=r2.fn,tmps,params:=r2.params.toArray,assign:=r2.assign,body:=r2.body,defers:=D})):=
      hsim.write hL2 rfl hS q2 hshape rfl ⟨w.heap.size+1,0,tmps,D,hS,putW_same w' _ (not_lt_heap q2),hsim.relRs hx3 q3⟩
     have hs4:=hs3.drop st.hp.length;have hx4:Ext A' S' (L'.set st.hp.length (.loop {r2 with state:= .exhausted})) _ A' S' _ _:=Ext.drop (A:=A') (S:=S') (L:=L'.set st.hp.length (.loop {r2 with state:= .exhausted})) (w:=putW w' (w.heap.size+1) (.loop {state:= .exhausted,pending:=r2.pending,fn:=r2.fn,tmps,params:=r2.params.toArray,assign:=r2.assign,body:=r2.body,defers:=D})) st.hp.length;have hset2:(L'.set st.hp.length (.loop {r2 with state:= .exhausted})).set st.hp.length Ob.gone=L'.set st.hp.length .gone:=by simp
     rw [hset2] at hs4 hx4;have hxall:=hx12.trans (hext.trans (hx3.trans hx4));have hmD:Marks A S (st.hp) (pushW w (.deferred (some []))) base ({target:= .collected w.heap.size,args:=#[]}::b.defers):=by
      have hme:=hm.ext hx1;obtain ⟨ms,hm0,hm1,hm2⟩:=hm;refine ⟨{target:= .collected w.heap.size,args:=#[]}::ms,by rw [hm0];rfl,List.pairwise_cons.2 ⟨fun d hd=> ?_,hm1⟩,fun d hd=> ?_⟩
      ·grind
      ·rcases List.mem_cons.1 hd with rfl | hd
       ·exact ⟨w.heap.size,rfl,hb,pushW_new w _,fun ho=>by have:=Owned.lt hs ho;omega,fun hA=>by have:=hs.lt _ hA;omega⟩
       ·obtain ⟨D',e,h1,h2,h3,h4⟩:=hm2 d hd;have hlt:=not_lt_heap h2;exact ⟨D',e,h1,by rw [pushW_old w _ hlt];exact h2,h3,h4⟩
     have hm4:=hmD.ext (hx2.trans (hext.trans (hx3.trans hx4)));have hr4:=hs.relRs hxall hr;refine ⟨e,⟨st.regs,L'.set st.hp.length .gone⟩,t,A',S',_,_,hK,?_,hr4,hs4,hxall,hm4⟩;refine Lands.of_steps (hstep.trans (Steps.one' hend)) ?_;cases hp:r2.pending with
     | none=>
      rw [hp] at he;simp [exOf] at he;subst he;exact Go.Steps.refl _ _
     | some j=>
      rw [hp] at he;cases j with
      | ret=>
       simp [exOf] at he;subst he;exact ⟨k,Go.Steps.refl _ _⟩
      | exit id=>
       simp [exOf] at he;subst he;exact ⟨k,rfl,Go.Steps.refl _ _⟩
      | _=>simp [exOf] at he
    simp_all
   simp_all
  ·exact h.elim
 | .scope _,st,Q,h,_,_,_,_,_,_,_,_,_,_,_,_,_,_=>h.elim
 | .goto _,st,Q,h,_,_,_,_,_,_,_,_,_,_,_,_,_,_=>h.elim
 | .refuse _,st,Q,h,_,_,_,_,_,_,_,_,_,_,_,_,_,_=>h.elim
end
end Go.Sx
namespace Go.Sx
section
variable {P:Program} {T:Tab} [TOk P T] {G:Globs} {A:Nat→Prop} {S:Where} {L:List Ob} {w:World}
theorem Ext.poke {D:Nat} {o o':Obj} (hA:¬A D) (hD:w.heap[D]? =some o) (hc:∀c e fr,o≠.cells c e fr) (hb:w.heap.size≤D∨¬Owned S L D) {w0:World} {A0:Nat→Prop} {S0:Where} {L0:List Ob} (h:Ext A0 S0 L0 w0 A S L w) (hD0:w0.heap.size≤D):
  Ext A0 S0 L0 w0 A S L (putW w D o') where
 size:=by simpa using h.size
 os:=h.os
 tape:=h.tape
 output:=h.output
 wh:=h.wh
 nw:=h.nw
 len:=h.len
 keep B hB hn:=by rw [putW_ne w o' (by omega)];exact h.keep B hB hn
 shp B c e fr hc':=by
  obtain ⟨c',⟨fr',h1⟩,h2⟩:=h.shp B c e fr hc';have:B≠D:=by have:=not_lt_heap hc';omega
  exact ⟨c',⟨fr',by rw [putW_ne w o' this];exact h1⟩,h2⟩
 up:=h.up
 down:=h.down
 own:=h.own
theorem EncP.poke {D:Nat} {o':Obj} (hA:¬A D) {x:PV} {v:Value} (h:EncP A w x v):EncP A (putW w D o') x v:=
 h.ext fun B hB=>⟨hB,putW_ne w o' fun e=>hA (e ▸ hB)⟩
theorem Rel.poke {D:Nat} {o o':Obj} (hA:¬A D) (hD:w.heap[D]? =some o) (hc:∀c e fr,o≠.cells c e fr) {x:LV} {v:Value} (h:Rel A S w x v):Rel A S (putW w D o') x v:=by
 cases x with
 | p x=>exact EncP.poke hA h
 | ref b o=>exact h
 | pref cs o=>
  obtain ⟨B,d,vs,rfl,hcs⟩:=h;refine ⟨B,d,vs,rfl,fun i c hi=> ?_⟩;obtain ⟨h1,h2,h3⟩:=hcs i c hi;refine ⟨h1,?_,EncP.poke hA h3⟩;have hne:B≠D:=fun e=>hA (e ▸ h1);unfold World.cell? at*;rw [putW_ne w o' hne];exact h2
 | lsl b o n z=>
  obtain ⟨B,d,q,cap,hb,rfl,hn,hh⟩:=h;refine ⟨B,d,q,cap,hb,rfl,hn,fun hp=> ?_⟩;obtain ⟨h0,c,e,fr,h1,hc'⟩:=hh hp;have hne:B≠D:=fun he=>by simp_all
  exact ⟨h0,c,e,fr,by rw [putW_ne w o' hne];exact h1,hc'⟩
 | map b=>exact h
 | fn f caps=>exact h
 | yld b=>exact h
 | ifc t b o=>exact h
theorem RelW.poke {D:Nat} {o o':Obj} (hA:¬A D) (hD:w.heap[D]? =some o) (hc:∀c e fr,o≠.cells c e fr) {x:RW} {v:Value} (h:RelW A S w x v):RelW A S (putW w D o') x v:=by
 cases x with
 | one x=>exact Rel.poke hA hD hc h
 | agg xs=>
  obtain ⟨vs,rfl,h1,h2⟩:=h;exact ⟨vs,rfl,h1,fun i x hi=>let ⟨u,q1,q2⟩:=h2 i x hi;⟨u,q1,Rel.poke hA hD hc q2⟩⟩
theorem RelR.poke {D:Nat} {o o':Obj} (hA:¬A D) (hD:w.heap[D]? =some o) (hc:∀c e fr,o≠.cells c e fr) {x:RV} {v:Value} (h:RelR A S w x v):RelR A S (putW w D o') x v:=by
 cases x with
 | v x=>exact RelW.poke hA hD hc h
 | tup xs=>obtain ⟨vs,rfl,h1,h2⟩:=h;exact ⟨vs,rfl,h1,fun i x hi=>let ⟨u,q1,q2⟩:=h2 i x hi;⟨u,q1,RelW.poke hA hD hc q2⟩⟩
theorem Sim.poke (hs:Sim G A S L w) {D:Nat} {o o':Obj} (hA:¬A D) (hD:w.heap[D]? =some o) (hc:∀c e fr,o≠.cells c e fr) (hn:¬Owned S L D):Sim G A S L (putW w D o') where
 ob b x hb:=by
  have h:=hs.ob b x hb;have hne:∀B d,S b=some (B,d)→liveOb x=true→B≠D:=by
   intro B d hB hl he;subst he;cases hm:mutOb x with
   | true=>exact hn ⟨b,x,d,hb,hm,hB⟩
   | false=>
    cases x with
    | cells cs fz=>
     obtain ⟨B',d',c,e,fr,h1,h2,_⟩:=h
     simp_all
    | gone=>simp [liveOb] at hl
    | _=>simp [mutOb] at hm
  cases x with
  | tc t cs buf=>
   obtain ⟨B,c,fr,h1,h2,h3,h4,h5,h6⟩:=h;refine ⟨B,c,fr,h1,by rw [putW_ne w o' (hne B 0 h1 rfl)];exact h2,h3,h4,h5,fun i y hi=> ?_⟩;obtain ⟨v,q1,q2⟩:=h6 i y hi;exact ⟨v,q1,Rel.poke hA hD hc q2⟩
  | cells cs fz=>
   obtain ⟨B,d,c,e,fr,h1,h2,h3,h4,h5,h6⟩:=h;refine ⟨B,d,c,e,fr,h1,by rw [putW_ne w o' (hne B d h1 rfl)];exact h2,h3,h4,h5,fun i y hi=> ?_⟩;obtain ⟨v,q1,q2⟩:=h6 i y hi;exact ⟨v,q1,Rel.poke hA hD hc q2⟩
  | map es=>
   obtain ⟨B,d,ents,clock,h1,h2,h3,h4⟩:=h;refine ⟨B,d,ents,clock,h1,by rw [putW_ne w o' (hne B d h1 rfl)];exact h2,h3,fun i k y hi=> ?_⟩;obtain ⟨e,q1,q2,q3⟩:=h4 i k y hi;exact ⟨e,q1,q2,RelW.poke hA hD hc q3⟩
  | iter s pos=>
   obtain ⟨B,h1,h2⟩:=h;exact ⟨B,h1,by rw [putW_ne w o' (hne B 0 h1 rfl)];exact h2⟩
  | loop r=>
   obtain ⟨B,d,tmps,D',h1,h2,h3⟩:=h;exact ⟨B,d,tmps,D',h1,by rw [putW_ne w o' (hne B d h1 rfl)];exact h2,h3.1,fun i r hi=>let ⟨v,q1,q2⟩:=h3.2 i r hi;⟨v,q1,RelR.poke hA hD hc q2⟩⟩
  | gone=>trivial
 dis:=hs.dis
 lt B hB:=by simpa using hs.lt B hB
 inj:=hs.inj
 dom:=hs.dom
 gl g vs hg:=by
  obtain ⟨h1,h2⟩:=hs.gl g vs hg;refine ⟨h1,fun i v hi=> ?_⟩;obtain ⟨h3,h4⟩:=h2 i v hi;refine ⟨?_,h4⟩;have hne:g≠D:=fun e=>hA (e ▸ h1);unfold World.cell? at*;rw [putW_ne w o' hne];exact h3
theorem marks_taken {base:Bs} {fr:Frame} {cs:List Frame} {A0:Nat→Prop} {S0:Where} {L0:List Ob} {w0:World} (hmode:fr.mode= .returning) (hb0:w0.heap.size≤base.n) {rs:List RV} {t:Array Value}
  (dall:List Deferred) (w:World) (hd0:fr.defers=dall) (hm0:Marks A S L w base dall) (hs:Sim G A S L w) (hr:RelRs A S w rs t) (hx:Ext A0 S0 L0 w0 A S L w):
   ∃w',Steps P (lone fr cs w) (lone {fr with defers:=base.tl} cs w')∧Sim G A S L w'∧RelRs A S w' rs t∧Ext A0 S0 L0 w0 A S L w':=by
 obtain ⟨ds,hds,hpw,hall⟩:=hm0;subst hds
 induction ds generalizing fr w with
 | nil=>
  refine ⟨w,?_,hs,hr,hx⟩;have:{fr with defers:=base.tl}=fr:=by cases fr;simp at hd0;subst hd0;rfl
  rw [this];exact Go.Steps.refl _ _
 | cons d ds ih=>
  obtain ⟨D,rfl,h1,h2,h3,h4⟩:=hall d (List.mem_cons_self ..);have hnc:∀c e fr,Obj.deferred (some [])≠.cells c e fr:=by intro c e fr h;cases h
  have hstep:=fr_takeMark (P:=P) (cs:=cs) (ds:=ds++base.tl) hmode hd0 h2;have hall':∀d'∈ds,∃D',d'={target:= .collected D',args:=#[]}∧base.n≤D'∧(putW w D (.deferred none)).heap[D']? =some (.deferred (some []))∧¬Owned S L D'∧¬A D':=by
   intro d' hd';obtain ⟨D',rfl,q1,q2,q3,q4⟩:=hall d' (List.mem_cons_of_mem _ hd');have hne:D'≠D:=by
    intro e;have:=(List.pairwise_cons.1 hpw).1 _ hd';simp [e] at this
   exact ⟨D',rfl,q1,by rw [putW_ne w _ hne];exact q2,q3,q4⟩
  obtain ⟨w',k1,k2,k3,k4⟩:=ih (fr:={fr with defers:=ds++base.tl}) hmode (putW w D (.deferred none)) (hs.poke h4 h2 hnc h3) ⟨hr.1,fun i r hi=>let ⟨v,q1,q2⟩:=hr.2 i r hi;⟨v,q1,RelR.poke h4 h2 hnc q2⟩⟩ (Ext.poke h4 h2 hnc (.inr h3) hx (by omega)) (List.pairwise_cons.1 hpw).2 hall' rfl;exact ⟨w',.head hstep k1,k2,k3,k4⟩
def resR (T:Tab) (G:Globs) (st:St):ResultVar→Option RV
 | .tmp t=>some (st.regs.getD t undefR)
 | .cell a t=>match loadA T G t (st.regs.getD a undefR) st.hp with
  | some (r,_)=>some r
  | none=>none
def asRW:RV→Option RW
 | .v x=>some x
 | .tup _=>none
def resultsR (T:Tab) (G:Globs) (fn:Func) (st:St):Option RV:=
 match mapOpt (resR T G st) fn.results.toList with
 | some [r]=>some r
 | some rs=>match mapOpt asRW rs with
  | some xs=>some (.tup xs)
  | none=>none
 | none=>none
theorem resR_ok (hs:Sim G A S L w) {regs:List RV} {t:Array Value} (hr:RelRs A S w regs t) {x:ResultVar} {r:RV} (h:resR T G ⟨regs,L⟩ x=some r):
  ∃v,(match x with | .tmp i=>(Pure.pure (t.getD i undef):Sem Value) | .cell a ty=>(do loadVar ty (← asAddr (t.getD a undef)))).run P w= .ok v w∧RelR A S w r v:=by
 cases x with
 | tmp i=>
  simp [resR] at h;subst h;exact ⟨_,rfl,by have:=evR_rel hr (x:= .tmp i) rfl;simpa [evR,evT] using this⟩
 | cell a ty=>
  simp only [resR] at h;split at h
  ·rename_i r' L' hl;simp at h;subst h;have ha:RelR A S w (regs.getD a undefR) (t.getD a undef):=by have:=evR_rel hr (x:= .tmp a) rfl;simpa [evR,evT] using this
   obtain ⟨_,ad,v,e,h1,h2⟩:=loadA_val (P:=P) hs hl ha;exact ⟨v,by simp only [e,asAddr,Sem.run_bind,Sem.run_pure,Result.andThen_ok,h1],h2⟩
  ·simp at h
def resSem (t:Array Value):ResultVar→Sem Value
 | .tmp i=>pure (t.getD i undef)
 | .cell a ty=>do loadVar ty (← asAddr (t.getD a undef))
theorem resSem_ok (hs:Sim G A S L w) {regs:List RV} {t:Array Value} (hr:RelRs A S w regs t) {x:ResultVar} {r:RV} (h:resR T G ⟨regs,L⟩ x=some r):
  ∃v,(resSem t x).run P w= .ok v w∧RelR A S w r v:=by
 obtain ⟨v,h1,h2⟩:=resR_ok (P:=P) hs hr h;refine ⟨v,?_,h2⟩;cases x<;>exact h1
theorem mapM_res (hs:Sim G A S L w) {regs:List RV} {t:Array Value} (hr:RelRs A S w regs t):∀{xs:List ResultVar} {rs:List RV},mapOpt (resR T G ⟨regs,L⟩) xs=some rs→
  ∃vs:List Value,(xs.mapM (resSem t)).run P w= .ok vs w∧RelV A S w rs vs
 | [],rs,h=>by simp [mapOpt] at h;subst h;exact ⟨[],by simp,RelV.nil⟩
 | x::xs,rs,h=>by
  simp only [mapOpt] at h;split at h
  ·rename_i y ys h1 h2;simp at h;subst h;obtain ⟨v,k1,k2⟩:=resSem_ok (P:=P) hs hr h1;obtain ⟨vs,k3,k4⟩:=mapM_res hs hr h2;exact ⟨v::vs,by simp_all,RelV.cons k2 k4⟩
  ·simp at h
theorem results_eq (fn:Func) (t:Array Value):results fn t=(do let vs ← fn.results.mapM (resSem t);pure (if h:vs.size=1 then vs[0] else .tuple vs)):=by
 rfl
theorem asRW_rel:∀{rs:List RV} {xs:List RW} {vs:List Value},mapOpt asRW rs=some xs→RelV A S w rs vs→vs.length=xs.length∧∀(i:Nat) x,xs[i]? =some x→∃u,vs[i]? =some u∧RelW A S w x u
 | [],xs,vs,h,hr=>by simp [mapOpt] at h;subst h;rw [hr.nil_inv];simp_all
 | r::rs,xs,vs,h,hr=>by
  obtain ⟨v,vs',rfl,h1,h2⟩:=hr.uncons;simp only [mapOpt] at h;split at h
  ·rename_i y ys k1 k2;simp at h;subst h;obtain ⟨e1,e2⟩:=asRW_rel k2 h2;have hy:RelW A S w y v:=by
    cases r with
    | v x=>simp [asRW] at k1;subst k1;exact h1
    | tup _=>simp [asRW] at k1
   grind
  ·simp at h
theorem resultsR_ok (hs:Sim G A S L w) {fn:Func} {regs:List RV} {t:Array Value} (hr:RelRs A S w regs t) {r:RV} (h:resultsR T G fn ⟨regs,L⟩=some r):
  ∃v,(results fn t).run P w= .ok v w∧RelR A S w r v:=by
 unfold resultsR at h;split at h
 ·rename_i r' hm;simp at h;subst h;obtain ⟨vs,k1,k2⟩:=mapM_res (P:=P) hs hr hm;obtain ⟨v,vs',rfl,k3,k4⟩:=k2.uncons;have:=k4.nil_inv;subst this;refine ⟨v,?_,k3⟩;rw [results_eq];simp only [Sem.run_bind,Array.mapM_eq_mapM_toList,Sem.run_map,k1,Result.andThen_ok,Sem.run_pure];simp
 ·rename_i rs hne hm;split at h
  ·rename_i xs hx;simp at h;subst h;obtain ⟨vs,k1,k2⟩:=mapM_res (P:=P) hs hr hm;obtain ⟨e1,e2⟩:=asRW_rel hx k2;have hlen:vs.length≠1:=by
    intro hl;have:=k2.1;rw [hl] at this
    match rs,this,hne with
    | [a],_,hne=>exact hne a rfl
   refine ⟨.tuple vs.toArray,?_,vs.toArray,rfl,by simp [e1],fun i x hi=>by simp_all⟩;rw [results_eq];simp only [Sem.run_bind,Array.mapM_eq_mapM_toList,Sem.run_map,k1,Result.andThen_ok,Sem.run_pure];simp [hlen]
  ·simp at h
 ·simp at h
def regs0 (fn:Func) (args:List RV):List RV:=args++List.replicate (fn.ntmps - args.length) undefR
theorem regs0_rel {fn:Func} {args:List RV} {vs:List Value} (h:RelV A S w args vs):RelRs A S w (regs0 fn args) (vs.toArray++Array.replicate (fn.ntmps - vs.toArray.size) undef):=by
 refine ⟨by simp [regs0,h.1],fun i r hi=> ?_⟩;unfold regs0 at hi
 by_cases hlt:i<args.length
 ·rw [List.getElem?_append_left hlt] at hi;obtain ⟨v,h1,h2⟩:=h.2 i r hi
  grind
 ·rw [List.getElem?_append_right (by omega)] at hi;have hlt2:i - args.length<fn.ntmps - args.length:=by have:=(List.getElem?_eq_some_iff.1 hi).1;simpa using this
  rw [List.getElem?_replicate,if_pos hlt2] at hi;simp at hi;subst hi;refine ⟨undef,?_,undefR_rel⟩;rw [Array.getElem?_append_right (by simp [h.1];omega)];simp [h.1,hlt2]
theorem CalOk.of_body (hwf:WFP T) {f:FuncId} {fn:Func} {c:Code} {args:List RV} {Q:RV→List Ob→Prop} (hf:P.funcs[f]? =some fn) (hb:fn.body=some c) (hn:fn.name≠ "runtime.NumGoroutine")
  (h:wpC P T G (CalOk P G) (DrawOk P G) f false c ⟨regs0 fn args,L⟩ fun e st=>match e with
   | .exit _=>False
   | _=>∃r,resultsR T G fn st=some r∧Q r st.hp):CalOk P G (.fn f) args L Q:=by
 refine .inl ⟨⟨fn,hf,by simp [hb],hn⟩,fun A S w vs hs hvs c' cs=> ?_⟩
 let b:Frame:={fn:=f,tmps:=#[],todo:=[],defers:=[],mode:= .run,kind:= .normal,roundOf:=none}
 have henter:Frame.enter P f vs.toArray .normal=Fr b (vs.toArray++Array.replicate (fn.ntmps - vs.toArray.size) undef) [.code c]:=by
  simp [Frame.enter,Fr,hf,hb,b]
 rw [henter];have hm0:Marks A S L w ⟨w.heap.size,[]⟩ b.defers:=⟨[],rfl,List.Pairwise.nil,fun d hd=>by cases hd⟩
 obtain ⟨e,st,t,A',S',w',ds,hq,hl,hr',hs',hx,hm⟩:=wpC_sound (b:=b) (k:=[]) (cs:=c'::cs) hwf f false c _ _ h hs (regs0_rel hvs) rfl rfl hm0 (Nat.le_refl _);have fin:∀(fr:Frame),(fr.mode= .returning)→fr.defers=ds→fr.fn=f→fr.kind= .normal→fr.tmps=t→(∃r,resultsR T G fn st=some r∧Q r st.hp)→Steps P (lone (Fr b (vs.toArray++Array.replicate (fn.ntmps - vs.toArray.size) undef) [.code c]) (c'::cs) w) (lone fr (c'::cs) w')→
   ∃r L' v A' S' w',Q r L'∧Steps P (lone (Fr b (vs.toArray++Array.replicate (fn.ntmps - vs.toArray.size) undef) [.code c]) (c'::cs) w) (lone (c'.finish v) cs w')∧RelR A' S' w' r v∧Sim G A' S' L' w'∧Ext A S L w A' S' L' w':=by
  intro fr h1 h2 h3 h4 h5 ⟨r,hres,hQ⟩ hst;obtain ⟨w2,k1,k2,k3,k4⟩:=marks_taken (P:=P) (cs:=c'::cs) h1 (Nat.le_refl _) ds w' h2 hm hs' hr' hx;obtain ⟨v,hv,hrel⟩:=resultsR_ok (P:=P) (fn:=fn) (regs:=st.regs) k2 k3 hres;have hleave:({fr with defers:=[]}:Frame).leaving P w2 (.returned v):=⟨h1,rfl,h4,fn,by simp_all,by simp_all⟩
  exact ⟨r,st.hp,v,A',S',w2,hQ,hst.trans (k1.trans (Steps.one' (step_leave_returned hleave))),hrel,k2,k4⟩
 cases e with
 | exit i=>exact hq.elim
 | normal=>exact fin {Fr {b with defers:=ds} t [] with mode:= .returning} rfl rfl rfl rfl rfl hq (Go.Steps.trans hl (Steps.one' (fr_end rfl)))
 | ret=>
  obtain ⟨k0,h2⟩:=hl;exact fin {Fr {b with defers:=ds} t (.code .ret::k0) with mode:= .returning} rfl rfl rfl rfl rfl hq (h2.trans (Steps.one' (fr_ret rfl)))
end
end Go.Sx
namespace Go.Sx
section
variable {P:Program} {T:Tab} [TOk P T] {G:Globs} {L:List Ob}
def isNormal:Ex→Bool
 | .normal=>true
 | _=>false
def jumpOf:Ex→Option Code
 | .normal=>none
 | .exit id=>some (.exit id)
 | .ret=>some .ret
def setParams:List RV→List Tmp→List RV→List RV
 | regs,p::ps,a::as=>setParams (regs.set p a) ps as
 | regs,_,_=>regs
theorem setParams_rel {A:Nat→Prop} {S:Where} {w:World}:∀{ps:List Tmp} {as:List RV} {vs:List Value} {regs:List RV} {t:Array Value},RelRs A S w regs t→RelV A S w as vs→
  RelRs A S w (setParams regs ps as) ((ps.zip vs).foldl (fun tm (x:Tmp×Value)=>tm.setIfInBounds x.1 x.2) t)
 | [],as,vs,regs,t,hr,hv=>by cases as<;>simpa [setParams] using hr
 | p::ps,[],vs,regs,t,hr,hv=>by rw [hv.nil_inv];simpa [setParams] using hr
 | p::ps,a::as,vs,regs,t,hr,hv=>by
  obtain ⟨v,vs',rfl,h1,h2⟩:=hv.uncons;simp only [setParams,List.zip_cons_cons,List.foldl_cons];exact setParams_rel (hr.put (dst:=some p) h1) h2
theorem fr_begin {b:Frame} {t:Array Value} {k:List Item} {cs:List Frame} {w:World} {l:Nat} {lr:Loop} (hro:b.roundOf=some l) (hl:w.heap[l]? =some (.loop lr)) (hb:lr.state= .ready):
  step P (lone (Fr b t (.beginRound::k)) cs w)= .next (lone (Fr b t k) cs (putW w l (.loop {lr with state:= .busy}))):=by
 apply step_lone_go;have hel:(Instr.beginRound l).run P w= .ok () (putW w l (.loop {lr with state:= .busy})):=by
  have hg:(getObj l).run P w= .ok (.loop lr) w:=by simp [getObj,Sem.run,hl]
  have hset:∀o:Obj,(setObj l o).run P w= .ok () (putW w l o):=by intro o;simp [setObj,Sem.run,hl];rfl
  simp only [Instr.beginRound,Instr.getLoop,Sem.run_bind,hg,Result.andThen_ok,Sem.run_pure,hset,hb]
 have hrun:∀s,(do (b.roundOf.elim (stuck s) Instr.beginRound:Sem Unit);pure Next.skip:Sem Next).run P w= .ok .skip (putW w l (.loop {lr with state:= .busy})):=fun s=>by
  simp only [hro,Option.elim,Sem.run_bind,hel,Result.andThen_ok,Sem.run_pure]
 obtain ⟨fn0,tm0,td0,df0,md0,kd0,ro0⟩:=b;simp only at hro hrun;subst hro;simp only [stepG,stepG.exec,Fr,stepG.apply,Sem.runT_eq,hrun,GStep.bare_after,if_true];rfl
theorem fr_leave {b:Frame} {t:Array Value} {todo:List Item} {c:Frame} {cs:List Frame} {w:World} {l:Nat} {lr:Loop} {j:Option Code} (hro:b.roundOf=some l) (hk:b.kind= .normal) (hl:w.heap[l]? =some (.loop lr))
  (htd:(todo=[]∧j=none)∨(∃k0,todo= .code .ret::k0∧j=some .ret)∨∃id k0,todo= .code (.exit id)::k0∧exitTo id k0=none∧j=some (.exit id)):
  step P (lone (Fr b t todo) (c::cs) w)= .next (lone (c.finish (.bool j.isNone)) cs (putW w l (.loop {lr with state:=if j.isNone then .ready else .done,pending:=j}))):=by
 apply step_lone_go;have hel:(Instr.endRound l j).run P w= .ok (.bool j.isNone) (putW w l (.loop {lr with state:=if j.isNone then .ready else .done,pending:=j})):=by
  have hg:(getObj l).run P w= .ok (.loop lr) w:=by simp [getObj,Sem.run,hl]
  have hset:∀o:Obj,(setObj l o).run P w= .ok () (putW w l o):=by intro o;simp [setObj,Sem.run,hl];rfl
  simp only [Instr.endRound,Instr.getLoop,Sem.run_bind,hg,Result.andThen_ok,Sem.run_pure,hset]
 obtain ⟨fn0,tm0,td0,df0,md0,kd0,ro0⟩:=b;simp only at hro hk;subst hro hk
 rcases htd with ⟨rfl,rfl⟩ | ⟨k0,rfl,rfl⟩ | ⟨id,k0,rfl,hx,rfl⟩
 ·simp only [stepG,stepG.exec,Fr,Sem.runT_eq,hel,GStep.bare_after,doReturn];rfl
 ·simp only [stepG,stepG.exec,Fr,Sem.runT_eq,hel,GStep.bare_after,doReturn];rfl
 ·simp only [stepG,stepG.exec,Fr,hx,Option.elim,Sem.runT_eq,hel,GStep.bare_after,doReturn];rfl
theorem Sim.setLoop {A:Nat→Prop} {S:Where} {w:World} {L:List Ob} {b B d:Nat} {r:LR} {lr:Loop} (hs:Sim G A S L w) (hL:L[b]? =some (.loop r)) (hS:S b=some (B,d)) (hlr:w.heap[B]? =some (.loop lr)) (st:LoopState) (j:Option Code):
  Sim G A S (L.set b (.loop {r with state:=st,pending:=j})) (putW w B (.loop {lr with state:=st,pending:=j}))∧
  Ext A S L w A S (L.set b (.loop {r with state:=st,pending:=j})) (putW w B (.loop {lr with state:=st,pending:=j})):=by
 obtain ⟨B',d',tmps,D,q1,q2,q3⟩:=hs.ob b _ hL;rw [hS] at q1;simp only [Option.some.injEq,Prod.mk.injEq] at q1;obtain ⟨rfl,rfl⟩:=q1;rw [hlr] at q2;simp only [Option.some.injEq,Obj.loop.injEq] at q2;subst q2;have hshape:∀c1 e1 fr1,Obj.loop {state:=r.state,pending:=r.pending,fn:=r.fn,tmps,params:=r.params.toArray,assign:=r.assign,body:=r.body,defers:=D}= .cells c1 e1 fr1→∃c2,Obj.loop {state:=st,pending:=j,fn:=r.fn,tmps,params:=r.params.toArray,assign:=r.assign,body:=r.body,defers:=D}= .cells c2 e1 fr1∧c2.size=c1.size:=by
  intro c1 e1 fr1 he;cases he
 have hx:=Ext.write (A:=A) (y:= .loop {r with state:=st,pending:=j}) hs hL rfl hS hlr hshape;exact ⟨hs.write hL rfl hS hlr hshape rfl ⟨B,d,tmps,D,hS,putW_same w _ (not_lt_heap hlr),hs.relRs hx q3⟩,hx⟩
theorem CalOk.of_round (hwf:WFP T) {bb:Nat} {args:List RV} {Q:RV→List Ob→Prop} {r:LR} (hL:L[bb]? =some (.loop r)) (hlen:args.length=r.params.length)
  (h:wpC P T G (CalOk P G) (DrawOk P G) r.fn true r.assign ⟨setParams r.regs r.params args,L⟩ fun e st1=>match e with
   | .normal=>∃r1,st1.hp[bb]? =some (.loop r1)∧r1.state= .ready∧
    wpC P T G (CalOk P G) (DrawOk P G) r.fn true r.body ⟨st1.regs,st1.hp.set bb (.loop {r1 with state:= .busy,pending:=r1.pending})⟩ fun e st2=>
     ∃r2,st2.hp[bb]? =some (.loop r2)∧Q (atR (.bool (isNormal e))) (st2.hp.set bb (.loop {r2 with state:=if isNormal e then .ready else .done,pending:=jumpOf e}))
   | _=>False):CalOk P G (.yl bb) args L Q:=by
 refine ⟨⟨r,hL⟩,fun A S w vs B d lr hs hvs hS hlr=> ?_⟩;obtain ⟨B',d',tmps,D,q1,q2,q3⟩:=hs.ob bb _ hL;rw [hS] at q1;simp only [Option.some.injEq,Prod.mk.injEq] at q1;obtain ⟨rfl,rfl⟩:=q1;rw [hlr] at q2;simp only [Option.some.injEq,Obj.loop.injEq] at q2;subst q2;refine ⟨by simp [hvs.1,hlen],fun c cs=> ?_⟩
 let b:Frame:={fn:=r.fn,tmps:=#[],todo:=[],defers:=[],mode:= .run,kind:= .normal,roundOf:=some B}
 have hzip:((r.params.toArray.zip vs.toArray).foldl (fun tm (x,a)=>tm.setIfInBounds x a) tmps)=(r.params.zip vs).foldl (fun tm (x:Tmp×Value)=>tm.setIfInBounds x.1 x.2) tmps:=by
  rw [← Array.foldl_toList];simp
 have hfr:Frame.round B r.fn ((r.params.toArray.zip vs.toArray).foldl (fun tm (x,a)=>tm.setIfInBounds x a) tmps) r.assign r.body .normal=Fr b ((r.params.zip vs).foldl (fun tm (x:Tmp×Value)=>tm.setIfInBounds x.1 x.2) tmps) [.code r.assign,.beginRound,.code r.body]:=by
  rw [hzip];rfl
 simp only;rw [hfr];have hm0:Marks A S L w ⟨w.heap.size,[]⟩ b.defers:=⟨[],rfl,List.Pairwise.nil,fun d hd=>by cases hd⟩
 obtain ⟨e1,st1,t1,A1,S1,w1,ds1,hq1,hl1,hr1,hs1,hx1,hm1⟩:=wpC_sound (b:=b) (k:=[.beginRound,.code r.body]) (cs:=c::cs) hwf r.fn true r.assign _ _ h hs (setParams_rel q3 hvs) rfl rfl hm0 (Nat.le_refl _);cases e1 with
 | exit i=>exact hq1.elim
 | ret=>exact hq1.elim
 | normal=>
  obtain ⟨r1,hL1,hrd,hbody⟩:=hq1;have hS1:S1 bb=some (B,d):=hx1.wh bb _ hS;obtain ⟨B1,d1,tmps1,D1,p1,p2,p3⟩:=hs1.ob bb _ hL1;rw [hS1] at p1;simp only [Option.some.injEq,Prod.mk.injEq] at p1;obtain ⟨rfl,rfl⟩:=p1;obtain ⟨hs2,hx2⟩:=hs1.setLoop hL1 hS1 p2 .busy r1.pending;have hstep2:=fr_begin (P:=P) (b:={b with defers:=ds1}) (t:=t1) (k:=[.code r.body]) (cs:=c::cs) rfl p2 hrd
  obtain ⟨e3,st3,t3,A3,S3,w3,ds3,⟨r3,hL3,hQ⟩,hl3,hr3,hs3,hx3,hm3⟩:=wpC_sound (b:={b with defers:=ds1}) (k:=[]) (cs:=c::cs) hwf r.fn true r.body _ _ hbody hs2 (hs1.relRs hx2 hr1) rfl rfl (hm1.ext hx2) (by
   have h1:=hx1.size;simp_all)
  have hS3:S3 bb=some (B,d):=hx3.wh bb _ hS1;obtain ⟨B3,d3,tmps3,D3,u1,u2,u3⟩:=hs3.ob bb _ hL3;rw [hS3] at u1;simp only [Option.some.injEq,Prod.mk.injEq] at u1;obtain ⟨rfl,rfl⟩:=u1;obtain ⟨hs4,hx4⟩:=hs3.setLoop hL3 hS3 u2 (if isNormal e3 then .ready else .done) (jumpOf e3);have hjn:(jumpOf e3).isNone=isNormal e3:=by cases e3<;>rfl
  have hlast:∃todo,Steps P (lone (Fr {b with defers:=ds1} t1 [.code r.body]) (c::cs) (putW w1 B (.loop {state:= .busy,pending:=r1.pending,fn:=r1.fn,tmps:=tmps1,params:=r1.params.toArray,assign:=r1.assign,body:=r1.body,defers:=D1})))
    (lone (Fr {b with defers:=ds3} t3 todo) (c::cs) w3)∧((todo=[]∧jumpOf e3=none)∨(∃k0,todo= .code .ret::k0∧jumpOf e3=some .ret)∨∃id k0,todo= .code (.exit id)::k0∧exitTo id k0=none∧jumpOf e3=some (.exit id)):=by
   cases e3 with
   | normal=>exact ⟨[],hl3,.inl ⟨rfl,rfl⟩⟩
   | ret=>obtain ⟨k0,h2⟩:=hl3;exact ⟨_,h2,.inr (.inl ⟨k0,rfl,rfl⟩)⟩
   | exit id=>obtain ⟨k0,h1,h2⟩:=hl3;exact ⟨_,h2,.inr (.inr ⟨id,k0,rfl,h1,rfl⟩)⟩
  obtain ⟨todo,hst3,htd⟩:=hlast;have hleave:=fr_leave (P:=P) (b:={b with defers:=ds3}) (t:=t3) (c:=c) (cs:=cs) rfl rfl u2 htd;rw [hjn] at hleave;exact ⟨_,_,.bool (isNormal e3),A3,S3,_,hQ,Go.Steps.trans hl1 (.head hstep2 (hst3.trans (Steps.one' hleave))),EncP.vl _ rfl,hs4,hx1.trans (hx2.trans (hx3.trans hx4))⟩
end
end Go.Sx
namespace Go.Sx
def fzL (L:List Ob):Nat→LV→Option (PV×List Nat)
 | _,.p x=>some (x,[])
 | n+1,.lsl b o k z=>match L[b]? with
  | some (.cells cs _)=>match part cs o (k*z) with
   | some l=>match mapOpt (fzL L n) l with
    | some ps=>some (.sl k (ps.map (·.1)),b::ps.flatMap (·.2))
    | none=>none
   | none=>none
  | _=>none
 | _,_=>none
def fzLs (L:List Ob) (xs:List LV):Option (List PV×List Nat):=
 match mapOpt (fzL L 12) xs with
 | some ps=>some (ps.map (·.1),ps.flatMap (·.2))
 | none=>none
def fzW (L:List Ob):RW→Option (RW×List Nat)
 | .one x=>match fzL L 12 x with
  | some (p,ts)=>some (.one (.p p),ts)
  | none=>none
 | .agg xs=>match fzLs L xs with
  | some (ps,ts)=>some (.agg (ps.map .p),ts)
  | none=>none
def fzR (L:List Ob):RV→Option (RV×List Nat)
 | .v x=>match fzW L x with
  | some (y,ts)=>some (.v y,ts)
  | none=>none
 | .tup xs=>match mapOpt (fzW L) xs with
  | some ys=>some (.tup (ys.map (·.1)),ys.flatMap (·.2))
  | none=>none
def fzRs (L:List Ob) (rs:List RV):Option (List RV×List Nat):=
 match mapOpt (fzR L) rs with
 | some ys=>some (ys.map (·.1),ys.flatMap (·.2))
 | none=>none
def scalarL:LV→Bool
 | .p (.vl _)=>true
 | _=>false
def scalarW:RW→Bool
 | .one x=>scalarL x
 | .agg xs=>xs.all scalarL
def scalarR:RV→Bool
 | .v x=>scalarW x
 | .tup xs=>xs.all scalarW
def fzOb:Ob→Ob
 | .cells cs _=> .cells cs true
 | o=>o
def fzObs (ts:List Nat) (L:List Ob):List Ob:=ts.foldl (fun L b=>match L[b]? with
 | some o=>L.set b (fzOb o)
 | none=>L) L
section
variable {P:Program} {T:Tab} [TOk P T] {G:Globs} {A:Nat→Prop} {S:Where} {L:List Ob} {w:World}
def Aplus (A:Nat→Prop) (S:Where) (ts:List Nat):Nat→Prop:=fun B=>A B∨∃b d,b∈ts∧S b=some (B,d)
theorem EncP.more {A':Nat→Prop} (h:∀B,A B→A' B) {x:PV} {v:Value} (he:EncP A w x v):EncP A' w x v:=he.ext fun B hB=>⟨h B hB,rfl⟩
theorem Aplus.mono {ts ts':List Nat} (h:∀b,b∈ts→b∈ts'):∀B,Aplus A S ts B→Aplus A S ts' B:=by
 rintro B (h1 | ⟨b,d,h1,h2⟩)
 ·exact .inl h1
 ·exact .inr ⟨b,d,h b h1,h2⟩
theorem fzL_enc (hs:Sim G A S L w):∀(n:Nat) (x:LV) (p:PV) (ts:List Nat) (v:Value),fzL L n x=some (p,ts)→Rel A S w x v→EncP (Aplus A S ts) w p v
 | n,.p x,p,ts,v,h,hr=>by
  cases n<;>(simp [fzL] at h;obtain ⟨rfl,rfl⟩:=h;exact EncP.more (fun B hB=> .inl hB) hr)
 | n+1,.lsl b o k z,p,ts,v,h,hr=>by
  simp only [fzL] at h;split at h
  ·rename_i cs fz hL;split at h
   ·rename_i l hp;split at h
    ·rename_i ps hm;simp at h;obtain ⟨rfl,rfl⟩:=h;obtain ⟨B,d,q,cap,p1,rfl,p2,p3⟩:=hr;obtain ⟨B',d',c,e,fr,h1,h2,h3,h4,h5,h6⟩:=hs.ob b _ hL;rw [p1] at h1;simp only [Option.some.injEq,Prod.mk.injEq] at h1;obtain ⟨rfl,rfl⟩:=h1;obtain ⟨hl,hg⟩:=mapOpt_get hm;have hll:=(part_some hp).1;have hcell:∀(i:Nat) y,l[i]? =some y→∃u,c[d+(o+i)]? =some u∧Rel A S w y u:=fun i y hi=>h6 (o+i) y (part_get hp hi);refine .sl k _ B q cap (fun i=>c.getD (q+i) undef) p2 (fun i y hi=> .inr ⟨b,d,List.mem_cons_self ..,p1⟩) ?_ ?_
     ·intro i y hi;have hlt:i<l.length:=by have:=(List.getElem?_eq_some_iff.1 hi).1;simp [hl] at this;exact this
      have hk:0<cap:=by
       rcases Nat.eq_zero_or_pos cap with h0 | h0
       ·simp_all
       ·exact h0
      obtain ⟨rfl,_⟩:=p3 hk;obtain ⟨u,q1,q2⟩:=hcell i l[i] (List.getElem?_eq_getElem hlt);rw [Nat.add_assoc];refine cell_of_heap h2 ?_;simp [q1]
     ·intro i y hi;have hlt:i<l.length:=by have:=(List.getElem?_eq_some_iff.1 hi).1;simp [hl] at this;exact this
      have hk:0<cap:=by
       rcases Nat.eq_zero_or_pos cap with h0 | h0
       ·simp_all
       ·exact h0
      obtain ⟨rfl,_⟩:=p3 hk;obtain ⟨u,q1,q2⟩:=hcell i l[i] (List.getElem?_eq_getElem hlt);obtain ⟨⟨p',ts'⟩,e1,e2⟩:=hg i l[i] (List.getElem?_eq_getElem hlt);simp only [List.getElem?_map,e1,Option.map_some,Option.some.injEq] at hi;subst hi;have:=fzL_enc hs n l[i] p' ts' u e2 q2;have hgd:c.getD (d+o+i) undef=u:=by rw [Nat.add_assoc];simp [q1]
      rw [hgd];exact EncP.more (Aplus.mono fun b' hb'=>List.mem_cons_of_mem _ (List.mem_flatMap.2 ⟨(p',ts'),List.mem_of_getElem? e1,hb'⟩)) this
    ·simp at h
   ·simp at h
  ·simp at h
 | 0,.lsl b o k z,p,ts,v,h,hr=>by simp [fzL] at h
 | n,.ref b o,p,ts,v,h,hr=>by cases n<;>simp [fzL] at h
 | n,.pref b o,p,ts,v,h,hr=>by cases n<;>simp [fzL] at h
 | n,.map b,p,ts,v,h,hr=>by cases n<;>simp [fzL] at h
 | n,.fn f b,p,ts,v,h,hr=>by cases n<;>simp [fzL] at h
 | n,.yld b,p,ts,v,h,hr=>by cases n<;>simp [fzL] at h
 | n,.ifc t b o,p,ts,v,h,hr=>by cases n<;>simp [fzL] at h
theorem fzLs_enc (hs:Sim G A S L w) {xs:List LV} {ps:List PV} {ts:List Nat} {vs:List Value} {S':Where} (h:fzLs L xs=some (ps,ts)) (hr:RelL A S w xs vs):RelL (Aplus A S ts) S' w (ps.map .p) vs:=by
 unfold fzLs at h;split at h
 ·rename_i qs hm;simp at h;obtain ⟨rfl,rfl⟩:=h;obtain ⟨hl,hg⟩:=mapOpt_get hm;refine ⟨by simp [hl,hr.1],fun i y hi=> ?_⟩;simp only [List.getElem?_map,Option.map_eq_some_iff] at hi;obtain ⟨p,⟨⟨p',ts'⟩,e1,rfl⟩,rfl⟩:=hi;have hlt:i<xs.length:=by have:=(List.getElem?_eq_some_iff.1 e1).1;omega
  obtain ⟨pt,e2,e3⟩:=hg i xs[i] (List.getElem?_eq_getElem hlt);rw [e1] at e2;simp at e2;subst e2;obtain ⟨v,q1,q2⟩:=hr.2 i xs[i] (List.getElem?_eq_getElem hlt);exact ⟨v,q1,EncP.more (Aplus.mono fun b hb=>List.mem_flatMap.2 ⟨(p',ts'),List.mem_of_getElem? e1,hb⟩) (fzL_enc hs 12 _ _ _ _ e3 q2)⟩
 ·simp at h
theorem fzW_enc (hs:Sim G A S L w) {x y:RW} {ts:List Nat} {v:Value} {S':Where} (h:fzW L x=some (y,ts)) (hr:RelW A S w x v):RelW (Aplus A S ts) S' w y v:=by
 cases x with
 | one x=>
  simp only [fzW] at h;split at h
  ·rename_i p ts' hf;simp at h;obtain ⟨rfl,rfl⟩:=h;exact fzL_enc hs 12 _ _ _ _ hf hr
  ·simp at h
 | agg xs=>
  simp only [fzW] at h;split at h
  ·rename_i ps ts' hf;simp at h;obtain ⟨rfl,rfl⟩:=h;obtain ⟨vs,rfl,hl⟩:=hr;exact ⟨vs,rfl,fzLs_enc hs hf hl⟩
  ·simp at h
theorem RelW.more {A':Nat→Prop} {S':Where} (h:∀B,A B→A' B) {L:List Ob} {x y:RW} {ts:List Nat} {v:Value} (hf:fzW L x=some (y,ts)) (hr:RelW A S w y v):RelW A' S' w y v:=by
 cases x with
 | one x=>
  simp only [fzW] at hf;split at hf
  ·simp at hf;obtain ⟨rfl,rfl⟩:=hf;exact EncP.more h hr
  ·simp at hf
 | agg xs=>
  simp only [fzW] at hf;split at hf
  ·simp at hf;obtain ⟨rfl,rfl⟩:=hf;obtain ⟨vs,rfl,h1,h2⟩:=hr;refine ⟨vs,rfl,h1,fun i x hi=> ?_⟩;obtain ⟨u,q1,q2⟩:=h2 i x hi;simp only [List.getElem?_map,Option.map_eq_some_iff] at hi;obtain ⟨p,hp,rfl⟩:=hi;exact ⟨u,q1,EncP.more h q2⟩
  ·simp at hf
theorem fzR_enc (hs:Sim G A S L w) {x y:RV} {ts:List Nat} {v:Value} {S':Where} (h:fzR L x=some (y,ts)) (hr:RelR A S w x v):RelR (Aplus A S ts) S' w y v:=by
 cases x with
 | v x=>
  simp only [fzR] at h;split at h
  ·rename_i y' ts' hf;simp at h;obtain ⟨rfl,rfl⟩:=h;exact fzW_enc hs hf hr
  ·simp at h
 | tup xs=>
  simp only [fzR] at h;split at h
  ·rename_i ys hm;simp at h;obtain ⟨rfl,rfl⟩:=h;obtain ⟨vs,rfl,h1,h2⟩:=hr;obtain ⟨hl,hg⟩:=mapOpt_get hm;refine ⟨vs,rfl,by simp [hl,h1],fun i y hi=> ?_⟩;simp only [List.getElem?_map,Option.map_eq_some_iff] at hi;obtain ⟨⟨y',ts'⟩,e1,rfl⟩:=hi;have hlt:i<xs.length:=by have:=(List.getElem?_eq_some_iff.1 e1).1;omega
   obtain ⟨pt,e2,e3⟩:=hg i xs[i] (List.getElem?_eq_getElem hlt);rw [e1] at e2;simp at e2;subst e2;obtain ⟨u,q1,q2⟩:=h2 i xs[i] (List.getElem?_eq_getElem hlt);exact ⟨u,q1,RelW.more (S:=S') (Aplus.mono fun b hb=>List.mem_flatMap.2 ⟨(y',ts'),List.mem_of_getElem? e1,hb⟩) e3 (fzW_enc hs e3 q2)⟩
  ·simp at h
def Same (w w':World):Prop:=w.heap.size≤w'.heap.size∧w'.os=w.os∧w'.tape=w.tape∧w'.output=w.output∧∀B,B<w.heap.size→w'.heap[B]? =w.heap[B]?
theorem Ext.same {A':Nat→Prop} {S':Where} {L':List Ob} {w':World} (h:Ext A S [] w A' S' L' w'):Same w w':=
 ⟨h.size,h.os,h.tape,h.output,fun B hB=>h.keep B hB fun ⟨b,ob,d,h1,_⟩=>by simp at h1⟩
theorem Ext.of_same {w':World} (h:Same w w'):Ext A S L w A S L w' where
 size:=h.1
 os:=h.2.1
 tape:=h.2.2.1
 output:=h.2.2.2.1
 wh _ _ h:=h
 nw _ _ h:=h
 len:=Nat.le_refl _
 keep B hB _:=h.2.2.2.2 B hB
 shp B c e fr hc:=⟨c,⟨fr,by rw [h.2.2.2.2 B (not_lt_heap hc)];exact hc⟩,rfl⟩
 up _ h:=h
 down _ h:= .inl h
 own _ _ h:=h
theorem Sim.of_same {w':World} (hs:Sim G A S L w) (h:Same w w'):Sim G A S L w' where
 ob b x hb:=ObRel.ext hs (Ext.of_same h) (hs.ob b x hb) fun hl B d hB=>h.2.2.2.2 B (hs.vl hb hl hB)
 dis:=hs.dis
 lt B hA:=Nat.lt_of_lt_of_le (hs.lt B hA) h.1
 inj:=hs.inj
 dom:=hs.dom
 gl g vs hg:=by
  obtain ⟨h1,h2⟩:=hs.gl g vs hg;refine ⟨h1,fun i v hi=> ?_⟩;obtain ⟨h3,h4⟩:=h2 i v hi;refine ⟨?_,h4⟩;unfold World.cell? at*;rw [h.2.2.2.2 g (hs.lt g h1)];exact h3
theorem Sim.empty (hs:Sim G A S L w) {A':Nat→Prop} (hA:∀B,A B→A' B) (hlt:∀B,A' B→B<w.heap.size):Sim G A' (fun _=>none) [] w where
 ob b o h:=by simp at h
 dis B _ ho:=by obtain ⟨b,ob,d,h1,_⟩:=ho;simp at h1
 lt:=hlt
 inj b b' o o' B d d' _ h:=by simp at h
 dom b B d h:=by simp at h
 gl g vs hg:=⟨hA g (hs.gl g vs hg).1,(hs.gl g vs hg).2⟩
theorem fzOb_mut (o:Ob):mutOb (fzOb o)=true→mutOb o=true:=by
 cases o<;>simp [fzOb,mutOb]
theorem fzObs_length (ts:List Nat):∀L:List Ob,(fzObs ts L).length=L.length:=by
 unfold fzObs
 induction ts with
 | nil=>intro L;rfl
 | cons b ts ih=>
  grind
theorem fzObs_get (ts:List Nat):∀(L:List Ob) (b:Nat) (o:Ob),(fzObs ts L)[b]? =some o→∃o0,L[b]? =some o0∧((o=o0∧(b∉ts∨∀cs,o0≠.cells cs false))∨(o=fzOb o0∧b∈ts)):=by
 unfold fzObs
 induction ts with
 | nil=>simp_all
 | cons a ts ih=>
  intro L b o h;simp only [List.foldl_cons] at h;obtain ⟨o1,h1,h2⟩:=ih _ b o h;cases hLa:L[a]? with
  | none=>
   grind
  | some oa=>
   simp only [hLa] at h1
   by_cases hab:b=a
   ·subst hab;rw [List.getElem?_set_self (List.getElem?_eq_some_iff.1 hLa).1] at h1;simp at h1;subst h1;refine ⟨oa,hLa,.inr ⟨?_,List.mem_cons_self ..⟩⟩
    rcases h2 with ⟨e,_⟩ | ⟨e,_⟩
    ·exact e
    ·rw [e];cases oa<;>rfl
   grind
end
end Go.Sx
