/- Part of MeaningExact. -/
import Derived.Test.YtkeiahlgcgabjaaGreatDoorP3
set_option linter.all false
set_option maxRecDepth 1000000
set_option maxHeartbeats 0
namespace Go.Sx
section
variable {P:lB} {T:aq} [aG P T] {G:az}
def cW(P:lB)(G:az)(ops:Array Oper)(st:St)(Q:St->Prop):Prop:=
 ∀A S w t (b:Frame) (k:pA) (cs:BY) (id:Nat),al G A S st.hp w->bL A S w st.regs t->
  ∃st' U O S' w',Q st'/\Steps P (lone (Fr b t (.code (.region id ops true)::k)) cs w) (lone (Fr b U k) cs w')/\bL O S' w' st'.regs U/\al G O S' st'.hp w'/\Ext A S st.hp w O S' st'.hp w'
def eo.of_steps{base:Bs}{b:Frame}{k:pA}{cs:BY}{m i:Machine}{A:Nat->Prop}{S:ay}{L:ag}{w:World}{Q:Ex->St->Prop}(h:Steps P m i)(g:eo P G base b k cs i A S L w Q):eo P G base b k cs m A S L w Q:=by obtain⟨e,st',U,O,S',w',B,j,l,n⟩:=g;exact⟨e,st',U,O,S',w',B,j,gF.of_steps h l,n⟩
def eo.now{base:Bs}{b:Frame}{k:pA}{cs:BY}{m:Machine}{A O:Nat->Prop}{S S':ay}{L:ag}{w w':World}{t:Array Value}{st:St}{Q:Ex->St->Prop}(M:Q .normal st)
  (h:Steps P m (lone (Fr b t k) cs w')) (C:bL O S' w' st.regs t) (B:al G O S' st.hp w') (N:Ext A S L w O S' st.hp w') (T:Marks O S' st.hp w' base b.defers):eo P G base b k cs m A S L w Q:=
 ⟨.normal,st,t,O,S',w',b.defers,M,h,C,B,N,T⟩
def eo.then{base:Bs}{b:Frame}{k k':pA}{cs:BY}{m:Machine}{A:Nat->Prop}{S:ay}{L:ag}{w:World}{Q T:Ex->St->Prop}(h:eo P G base b k' cs m A S L w Q)(C:∀i,exitTo i k'=exitTo i k)(x:∀(f:Frame) st t O S' w',Q .normal st->f.fn=b.fn->f.roundOf=b.roundOf->bL O S' w' st.regs t->al G O S' st.hp w'->Ext A S L w O S' st.hp w'->Marks O S' st.hp w' base f.defers->(∀B,{f with defers:=B}={b with defers:=B})-> eo P G base f k cs (lone (Fr f t k') cs w') O S' st.hp w' T)(V:∀i st,Q (.exit i) st->T (.exit i) st)(M:∀st,Q .ret st->T .ret st):eo P G base b k cs m A S L w T:=by obtain⟨e,st,t,O,S',w',B,N,y,D,E,R,U⟩:=h;cases e with| normal=>(obtain⟨f,W,u,F,X,z,H,Z,I,J,K,Y,a⟩:=x {b with defers:=B} st t O S' w' N rfl rfl D E R U (fun _=>rfl);refine⟨f,W,u,F,X,z,H,Z,?_,J,K,R.trans Y,a⟩;have c:gF P (lone (Fr {b with defers:=B} t k') cs w') b k cs f H u z:=by cases f<;>exact I);exact gF.of_steps y c|exit i=>obtain⟨l,j,n⟩:=y;exact⟨.exit i,st,t,O,S',w',B,V i st N,⟨l,j.trans (C i),n⟩,D,E,R,U⟩|ret=>obtain⟨l,n⟩:=y;exact⟨.ret,st,t,O,S',w',B,M st N,⟨l,n⟩,D,E,R,U⟩
def Gs{A:Nat->Prop}{S:ay}{w:World}{M:RV}{o:Value}{args N:(List RV)}{T:List Value}{g:FuncId}(U:aD A S w M o)(C:aN A S w args T)(c:cL M args=some (.fn g,N)): ∃vs:List Value,(do let d <- Deferred.ofValue o T.toArray;invoke d.target d.args:Sem Next).run P w=(callFunc g vs.toArray).run P w/\aN A S w N vs:=by unfold cL at c;split at c;{(rename_i u first captured);split at c;{rename_i a b h1 h2;simp only[Option.some.injEq,Prod.mk.injEq,dw.fn.injEq]at c;obtain⟨rfl,rfl⟩:=c;cases U;refine⟨first.toList++T++captured.toList,?_,(aN.append (aN.append (nJ h1) C) (nJ h2))⟩;simp only[Sem.run_bind,Deferred.ofValue,Sem.run_pure,Result.andThen_ok,invoke];congr 2;simp_all};simp at c};{(rename_i u O;obtain⟨x,rfl,y,hp⟩:=U;have e:aN A S w (O.map fun p=> .v (.one (.ref p.1 p.2))) x:=by refine⟨by simp[y],fun i r z=> ?_⟩;simp only[List.getElem?_map,Option.map_eq_some_iff]at z;obtain⟨⟨f,q⟩,Q,rfl⟩:=z;obtain⟨B,d,s,t⟩:=hp i f q Q;exact⟨_,t,B,d,s,rfl⟩);unfold jd;split at c;{rename_i K;simp only[K];simp at c;obtain⟨rfl,rfl⟩:=c;refine⟨T++x,?_,aN.append C e⟩;simp only[Sem.run_bind,Deferred.ofValue,Sem.run_pure,Result.andThen_ok,invoke];simp_all};rename_i K;simp only[K];simp at c;obtain⟨rfl,rfl⟩:=c;refine⟨x++T,?_,aN.append e C⟩;simp only[Sem.run_bind,Deferred.ofValue,Sem.run_pure,Result.andThen_ok,invoke];simp_all};all_goals simp_all
def Ext.rg{A:Nat->Prop}{S:ay}{L:ag}{w:World}(o:Obj):Ext A S L w A S L (bF w o) where
 size:=by simp[bF]
 os:=rfl
 tape:=rfl
 output:=rfl
 wh _ _ h:=h
 nw _ _ h:=h
 len:=vA _
 aK B hB _:=ga w o hB
 da B c e fr hc:=⟨c,⟨fr,by rw[ga w o (dg hc)];exact hc⟩,rfl⟩
 up _ h:=h
 down _ h:= .inl h
 own _ _ h:=h
def al.rg{A:Nat->Prop}{S:ay}{L:ag}{w:World}(C:al G A S L w)(o:Obj):al G A S L (bF w o) where
 ob b x hb:=dx.ext C (Ext.rg o) (C.ob b x hb) fun y B d a=>ga w o (C.vl hb y a)
 ca:=C.ca
 lt B I:=by have:=C.lt B I;simp[bF];omega
 inj:=C.inj
 cz:=C.cz
 gl g vs z:=by
  obtain⟨h,j⟩:=C.gl g vs z;refine⟨h,fun i v D=> ?_⟩;obtain⟨k,l⟩:=j i v D;refine⟨?_,l⟩;unfold World.cell? at*;rw[ga w o (C.lt g h)];exact k
def gb(w:World)(fn:FuncId)(t:Array Value)(params:Array Tmp)(assign body:Code):World:=
 bF (bF w (.deferred (some []))) (.loop {state:= .ready,pending:=none,fn:=fn,tmps:=t,params:=params,assign:=assign,body:=body,defers:=w.heap.size})
def Hm{b:Frame}{t:Array Value}{k:pA}{cs:BY}{w:World}{f:Operand}{params:Array Tmp}{assign body:Code}(h:b.roundOf=none){g:FuncId}{args:Array Value}(y:(do let d <- Deferred.ofValue (bx t f) #[.func (.yield (w.heap.size+1)) #[] #[]];invoke d.target d.args:Sem Next).run P (gb w b.fn t params assign body)= .ok (.enter g args) (gb w b.fn t params assign body)): step P (lone (Fr b t (.code (.rangeFunc f params assign body)::k)) cs w)= .next (lone (Frame.enter P g args .normal) (Fr {b with defers:={target:= .collected w.heap.size,args:=#[]}::b.defers} t (.inRangeFunc (w.heap.size+1)::k)::cs) (gb w b.fn t params assign body)):=by(apply Eo;have B:(Instr.enterLoop b.fn t params assign body none).run P w= .ok (w.heap.size+1,[{target:= .collected w.heap.size,args:=#[]}]) (gb w b.fn t params assign body):=by exact ars);obtain⟨i,K,a,j,O,M,A⟩:=b;simp only at h B y |-;(subst h;have U:(do let d <- resolve ({fn:=i,tmps:=t,todo:=Item.inRangeFunc (w.heap.size+1)::k,defers:={target:=Target.collected w.heap.size,args:=#[]}::j,mode:=FrameMode.run,kind:=M}:Frame).eval {callee:= .value f,args:=#[.const (.func (.yield (w.heap.size+1)) #[] #[])],argTypes:=#[]} 0;invoke d.target d.args:Sem Next).run P (gb w i t params assign body)= .ok (.enter g args) (gb w i t params assign body):=by(have he:({fn:=i,tmps:=t,todo:=Item.inRangeFunc (w.heap.size+1)::k,defers:={target:=Target.collected w.heap.size,args:=#[]}::j,mode:=FrameMode.run,kind:=M}:Frame).eval=bx t:=by funext x;cases x<;>rfl);exact aru);simp only[stepG,stepG.exec,Fr,YT,B,YU,stepG.apply];exact kg
def Gt{b:Frame}{t:Array Value}{k:pA}{cs:BY}{w:World}{f:Operand}{params:Array Tmp}{assign body:Code}(g:b.roundOf=none){v:Value}{w':World}(y:(do let d <- Deferred.ofValue (bx t f) #[.func (.yield (w.heap.size+1)) #[] #[]];invoke d.target d.args:Sem Next).run P (gb w b.fn t params assign body)= .ok (.value v) w'): step P (lone (Fr b t (.code (.rangeFunc f params assign body)::k)) cs w)= .next (lone (Fr {b with defers:={target:= .collected w.heap.size,args:=#[]}::b.defers} t (.endRangeFunc (w.heap.size+1)::k)) cs w'):=by(apply Eo;have B:(Instr.enterLoop b.fn t params assign body none).run P w= .ok (w.heap.size+1,[{target:= .collected w.heap.size,args:=#[]}]) (gb w b.fn t params assign body):=by exact ars);obtain⟨h,K,a,j,O,M,A⟩:=b;simp only at g B y |-;(subst g;have U:(do let d <- resolve ({fn:=h,tmps:=t,todo:=Item.inRangeFunc (w.heap.size+1)::k,defers:={target:=Target.collected w.heap.size,args:=#[]}::j,mode:=FrameMode.run,kind:=M}:Frame).eval {callee:= .value f,args:=#[.const (.func (.yield (w.heap.size+1)) #[] #[])],argTypes:=#[]} 0;invoke d.target d.args:Sem Next).run P (gb w h t params assign body)= .ok (.value v) w':=by(have he:({fn:=h,tmps:=t,todo:=Item.inRangeFunc (w.heap.size+1)::k,defers:={target:=Target.collected w.heap.size,args:=#[]}::j,mode:=FrameMode.run,kind:=M}:Frame).eval=bx t:=by funext x;cases x<;>rfl);exact aru);simp only[stepG,stepG.exec,Fr,YT,B,YU,stepG.apply];simp only[aid,U,if_true,GStep.bare];rfl
def Fm{b:Frame}{t:Array Value}{k:pA}{cs:BY}{w:World}{l:Nat}{q:Loop}(x:w.heap[l]? =some (.loop q))(O:q.state≠.busy): step P (lone (Fr b t (.endRangeFunc l::k)) cs w)= .next (lone (Fr b t ((q.pending.map Item.code).toList++k)) cs (bs w l (.loop {q with state:= .exhausted}))):=by(apply Eo;have B:(Instr.endLoop l).run P w= .ok q.pending (bs w l (.loop {q with state:= .exhausted})):=by(have y:(getObj l).run P w= .ok (.loop q) w:=by simp[getObj,Sem.run,x]);(have z:∀o:Obj,(setObj l o).run P w= .ok () (bs w l o):=by intro o;simp[setObj,Sem.run,x];rfl);(have m:(q.state==LoopState.busy)=false:=by simpa using O);simp only[Instr.endLoop,Instr.getLoop,Sem.run_bind,y,Result.andThen_ok,Sem.run_pure,m,Vp,w4,z]);simp only[stepG,stepG.exec,Fr,YT,B,YU];rfl
set_option maxHeartbeats 1000000 in
def gB(l:bf T)(fn:FuncId)(m:Bool):∀(c:Code)(st:St)(Q:Ex->St->Prop),dQ P T G (am P G) (cW P G) fn m c st Q->
  ∀{A:Nat->Prop}{S:ay}{w:World}{t:Array Value}{b:Frame}{k:pA}{cs:BY}{base:Bs},al G A S st.hp w->bL A S w st.regs t->b.fn=fn->b.roundOf.isSome=m->Marks A S st.hp w base b.defers->base.n<=w.heap.size->
  eo P G base b k cs (lone (Fr b t (.code c::k)) cs w) A S st.hp w Q
 | .skip,st,Q,h,A,S,w,t,b,k,cs,base,C,E,U,o,hm,hb=>eo.now h (Steps.cG Au) E C Ext.refl hm
 | .label _,st,Q,h,A,S,w,t,b,k,cs,base,C,E,U,o,hm,hb=>eo.now h (Steps.cG zw) E C Ext.refl hm
 | .region id ops false,st,Q,h,A,S,w,t,b,k,cs,base,C,E,U,o,hm,hb=>by
  obtain⟨st',V,O,S',w',Y,F,H,W,M⟩:=tP (b:=b) (k:=k) (cs:=cs) l ops.toList 0 rfl C E h;refine eo.now Y (.head nR ?_) H W M (hm.ext M);have:List.range ops.size=List.range' 0 ops.toList.length:=by simp[List.range_eq_range']
  simp_all
 | .region id ops true,st,Q,h,A,S,w,t,b,k,cs,base,C,E,U,o,hm,hb=>by
  obtain⟨st',V,O,S',w',Y,F,H,W,M⟩:=h A S w t b k cs id C E;exact eo.now Y F H W M (hm.ext M)
 | .seq x y,st,Q,h,A,S,w,t,b,k,cs,base,C,E,U,o,hm,hb=>by
  refine eo.of_steps (Steps.cG jW) ?_;refine eo.then (gB l fn m x st _ h C E U o hm hb) (fun i=>rfl) ?_ (fun i st h=>h) (fun st h=>h);intro p st' V O S' w' N K q H W I z _;exact gB l fn m y st' Q N W H (K.trans U) kg z (Wu hb I.size)
 | .cond c x y,st,Q,h,A,S,w,t,b,k,cs,base,C,E,U,o,hm,hb=>by
  simp only[dQ]at h;split at h
  ·rename_i u hu;have hc:eY c=true:=by
    cases c with
    |const v=>
     simp only[aQ]at hu;simp only[eY];cases J:g8 v with
     |none=>rw[J]at hu;simp[bl]at hu
     |some r=>rfl
    |_=>rfl
   have R:=gh E hc;rw[hu]at R;have X:bx t c= .bool u:=by
    generalize bx t c=v at R;cases R;rfl
   refine eo.of_steps (Steps.cG (Av X)) ?_;cases u with
   |true=>exact gB l fn m x st Q (h.1 rfl) C E U o hm hb
   |false=>exact gB l fn m y st Q (h.2 rfl) C E U o hm hb
  exact h.elim
 | .block id c,st,Q,h,A,S,w,t,b,k,cs,base,C,E,U,o,hm,hb=>by
  refine eo.of_steps (Steps.cG uf) ?_;obtain⟨e,st',V,O,S',w',J,N,R,H,W,M,z⟩:=gB (k:= .inBlock id::k) (cs:=cs) l fn m c st _ h C E U o hm hb;cases e with
  |normal=>exact⟨.normal,st',V,O,S',w',J,N,Yg R (Steps.cG tF),H,W,M,z⟩
  |exit i=>
   obtain⟨s,X,Z⟩:=R;simp only[exitTo]at X
   by_cases hi:i=id
   ·subst hi;simp at X N;exact⟨.normal,st',V,O,S',w',J,N,Yg Z (Steps.cG (uB X)),H,W,M,z⟩
   have a:(id==i)=false:=by simp;exact fun e=>hi e.symm
   simp only[a,Vp,w4]at X;simp only[hi,w4]at N;exact⟨.exit i,st',V,O,S',w',J,N,⟨s,X,Z⟩,H,W,M,z⟩
  |ret=>exact⟨.ret,st',V,O,S',w',J,N,R,H,W,M,z⟩
 | .loop c,st,Q,h,A,S,w,t,b,k,cs,base,C,E,U,o,hm,hb=>by
  obtain⟨n,h⟩:=h;refine eo.of_steps (Steps.cG Ax) ?_;have ap:=gB l fn m c;clear l
  induction n generalizing st A S w t b with
  |zero=>exact h.elim
  |succ n aw=>
   simp only[mJ]at h;refine eo.then (k':= .inLoop c::k) (ap st _ h C E U o hm hb) (fun i=>rfl) ?_ (fun i st h=>h) (fun st h=>h);intro p st' V O S' w' N K q H W I z _;exact eo.of_steps (Steps.cG yb) (aw st' _ _ _ _ _ W H (K.trans U) kg z (Wu hb I.size) N)
 | .exit id,st,Q,h,A,S,w,t,b,k,cs,base,C,E,U,o,hm,hb=>⟨.exit id,st,t,A,S,w,b.defers,h,⟨k,rfl,aaR _ _⟩,E,C,Ext.refl,hm⟩
 | .ret,st,Q,h,A,S,w,t,b,k,cs,base,C,E,U,o,hm,hb=>⟨.ret,st,t,A,S,w,b.defers,h,⟨k,aaR _ _⟩,E,C,Ext.refl,hm⟩
 | .rangeFunc f params assign body,st,Q,h,A,S,w,t,b,k,cs,base,C,E,U,o,hm,hb=>by
  obtain⟨a0,a1,h⟩:=h;have q:b.roundOf=none:=by rw[a0]at o;simp_all
  split at h
  ·rename_i g a2 hc;have a_:=C.rg (.deferred (some []));have be:Ext A S st.hp w A S st.hp (bF w (.deferred (some []))):=Ext.rg _
   let bo:LR:={fn:=fn,regs:=st.regs,params:=params.toList,assign:=assign,body:=body,state:= .ready,pending:=none}
   let br:Obj:= .loop {state:= .ready,pending:=none,fn:=b.fn,tmps:=t,params:=params,assign:=assign,body:=body,defers:=w.heap.size}
   have bU:(bF w (.deferred (some []))).heap.size=w.heap.size+1:=by simp[bF]
   have b1:Ext A S st.hp (bF w (.deferred (some []))) A (S.put st.hp.length (w.heap.size+1,0)) (st.hp++[.loop bo]) (gb w b.fn t params assign body):=by
    have:=Ext.push a_ (.loop bo) br 0;rw[bU]at this;exact this
   have b3:al G A (S.put st.hp.length (w.heap.size+1,0)) (st.hp++[.loop bo]) (gb w b.fn t params assign body):=by
    have:=al.push a_ (.loop bo) br 0;rw[bU]at this;refine this ⟨w.heap.size+1,0,t,w.heap.size,ay.dG _ _ _,?_,a_.ey b1 (C.ey be E)⟩;have hn:=eL (bF w (.deferred (some []))) br;rw[bU]at hn;rw[hn];simp[br,bo,U]
   have cb:=be.trans b1;have cc:aN A (S.put st.hp.length (w.heap.size+1,0)) (gb w b.fn t params assign body) [.v (.one (.aI st.hp.length))] [.func (.yield (w.heap.size+1)) #[] #[]]:=
    aN.cons ⟨w.heap.size+1,0,ay.dG _ _ _,rfl⟩ aN.nil
   obtain⟨vs,cd,cg⟩:=Gs (P:=P) (C.DN cb (gh E a1)) cc hc
   obtain⟨r,ci,v,O,S',w',cl,cm,cn,ct,cv⟩:∃(r:RV)(ci:ag)(v:Value)(O:Nat->Prop)(S':ay)(w':World),(match ci[st.hp.length]? with
     |some (.loop r)=>r.state≠.busy/\match ki r.pending with
      |some e=>Q e ⟨st.regs,ci.set st.hp.length .gone⟩
      |none=>False
     |_=>False)/\Steps P (lone (Fr b t (.code (.rangeFunc f params assign body)::k)) cs w) (lone (Fr {b with defers:={target:= .collected w.heap.size,args:=#[]}::b.defers} t (.endRangeFunc (w.heap.size+1)::k)) cs w')/\aD O S' w' r v/\al G O S' ci w'/\
      Ext A (S.put st.hp.length (w.heap.size+1,0)) (st.hp++[.loop bo]) (gb w b.fn t params assign body) O S' ci w':=by
    rcases h with⟨⟨cw,cI,cS,c0⟩,c1⟩|c2
    ·obtain⟨r,ci,v,O,S',w',cl,F,cn,ct,cv⟩:=c1 A _ _ vs b3 cg (Fr {b with defers:={target:= .collected w.heap.size,args:=#[]}::b.defers} t (.inRangeFunc (w.heap.size+1)::k)) cs;have cm:=Hm (P:=P) (b:=b) (t:=t) (k:=k) (cs:=cs) q (cd.trans (ta cI cS c0));have c3:(Fr {b with defers:={target:= .collected w.heap.size,args:=#[]}::b.defers} t (.inRangeFunc (w.heap.size+1)::k)).finish v=Fr {b with defers:={target:= .collected w.heap.size,args:=#[]}::b.defers} t (.endRangeFunc (w.heap.size+1)::k):=rfl;rw[c3]at F;exact⟨r,ci,v,O,S',w',cl,.head cm F,cn,ct,cv⟩
    obtain⟨r,ci,v,O,S',w',cl,c3,cn,ct,cv⟩:=c2 A _ _ vs b3 cg;exact⟨r,ci,v,O,S',w',cl,Steps.cG (Gt (P:=P) (b:=b) (t:=t) (k:=k) (cs:=cs) q (cd.trans c3)),cn,ct,cv⟩
   split at cl
   ·rename_i c4 dd;obtain⟨dh,cl⟩:=cl;split at cl
    ·rename_i e dl;have dn:st.hp.length<(st.hp++[Ob.loop bo]).length:=by simp
     have hS:S' st.hp.length=some (w.heap.size+1,0):=by exact cv.wh _ _ (ay.dG _ _ _)
     obtain⟨B,d,tmps,D,ds,d0,d1⟩:=ct.ob st.hp.length _ dd;rw[hS]at ds;simp only[pB,q0]at ds;obtain⟨rfl,rfl⟩:=ds;have d2:=Fm (P:=P) (b:={b with defers:={target:= .collected w.heap.size,args:=#[]}::b.defers}) (t:=t) (k:=k) (cs:=cs) d0 dh;have d3:∀d4 d5 d_,Obj.loop {state:=c4.state,pending:=c4.pending,fn:=c4.fn,tmps,params:=c4.params.toArray,assign:=c4.assign,body:=c4.body,defers:=D}= .cells d4 d5 d_->∃d',Obj.loop {state:= .exhausted,pending:=c4.pending,fn:=c4.fn,tmps,params:=c4.params.toArray,assign:=c4.assign,body:=c4.body,defers:=D}= .cells d' d5 d_/\d'.size=d4.size:=by
      intro d4 d5 d_ dl;cases dl
     have en:Ext O S' ci w' O S' (ci.set st.hp.length (.loop {c4 with state:= .exhausted})) (bs w' (w.heap.size+1) (.loop {state:= .exhausted,pending:=c4.pending,fn:=c4.fn,tmps,params:=c4.params.toArray,assign:=c4.assign,body:=c4.body,defers:=D})):=
      Ext.write ct dd rfl hS d0 d3
     have eq:al G O S' (ci.set st.hp.length (.loop {c4 with state:= .exhausted})) (bs w' (w.heap.size+1) (.loop {state:= .exhausted,pending:=c4.pending,fn:=c4.fn,tmps,params:=c4.params.toArray,assign:=c4.assign,body:=c4.body,defers:=D})):=
      ct.write dd rfl hS d0 d3 rfl ⟨w.heap.size+1,0,tmps,D,hS,fk w' (dg d0),ct.ey en d1⟩
     have es:=eq.drop st.hp.length;have e2:Ext O S' (ci.set st.hp.length (.loop {c4 with state:= .exhausted})) _ O S' _ _:=Ext.drop (A:=O) (S:=S') (L:=ci.set st.hp.length (.loop {c4 with state:= .exhausted})) (w:=bs w' (w.heap.size+1) (.loop {state:= .exhausted,pending:=c4.pending,fn:=c4.fn,tmps,params:=c4.params.toArray,assign:=c4.assign,body:=c4.body,defers:=D})) st.hp.length;have e_:(ci.set st.hp.length (.loop {c4 with state:= .exhausted})).set st.hp.length Ob.gone=ci.set st.hp.length .gone:=by simp
     rw[e_]at es e2;have fd:=cb.trans (cv.trans (en.trans e2));have fr:Marks A S (st.hp) (bF w (.deferred (some []))) base ({target:= .collected w.heap.size,args:=#[]}::b.defers):=by
      have fv:=hm.ext be;obtain⟨fz,fC,fD,fE⟩:=hm;refine⟨{target:= .collected w.heap.size,args:=#[]}::fz,by rw[fC];rfl,acH.2 ⟨fun d fR=> ?_,fD⟩,fun d fR=> ?_⟩
      ·grind
      rcases V0.1 fR with rfl|fR
      ·exact⟨w.heap.size,rfl,hb,eL w _,fun f_=>by have:=ch.lt C f_;omega,fun gc=>by have:=C.lt _ gc;omega⟩
      obtain⟨f_,e,X,Z,gc,gl⟩:=fE d fR;have dn:=dg Z;exact⟨f_,e,X,by rw[ga w _ dn];exact Z,gc,gl⟩
     have go:=fr.ext (b1.trans (cv.trans (en.trans e2)));have gs:=C.ey fd E;refine⟨e,⟨st.regs,ci.set st.hp.length .gone⟩,t,O,S',_,_,cl,?_,gs,es,fd,go⟩;refine gF.of_steps (cm.trans (Steps.cG d2)) ?_;cases hp:c4.pending with
     |none=>
      rw[hp]at dl;simp[ki]at dl;subst dl;exact aaR _ _
     |some j=>
      rw[hp]at dl;cases j with
      |ret=>
       simp[ki]at dl;subst dl;exact⟨k,aaR _ _⟩
      |exit id=>
       simp[ki]at dl;subst dl;exact⟨k,rfl,aaR _ _⟩
      |_=>simp[ki]at dl
    simp_all
   simp_all
  exact h.elim
 | .scope _,st,Q,h,_,_,_,_,_,_,_,_,_,_,_,_,_,_=>h.elim
 | .goto _,st,Q,h,_,_,_,_,_,_,_,_,_,_,_,_,_,_=>h.elim
 | .refuse _,st,Q,h,_,_,_,_,_,_,_,_,_,_,_,_,_,_=>h.elim
end
section
variable {P:lB} {T:aq} [aG P T] {G:az} {A:Nat->Prop} {S:ay} {L:ag} {w:World}
def Ext.eO{D:Nat}{o y:Obj}(I:¬A D)(n:w.heap[D]? =some o)(d:∀c e fr,o≠.cells c e fr)(O:w.heap.size<=D\/¬ch S L D){x:World}{C:Nat->Prop}{T:ay}{M:ag}(h:Ext C T M x A S L w)(p:x.heap.size<=D):
  Ext C T M x A S L (bs w D y) where
 size:=by simpa using h.size
 os:=h.os
 tape:=h.tape
 output:=h.output
 wh:=h.wh
 nw:=h.nw
 len:=h.len
 aK B hB hn:=by rw[ew w y w_];exact h.aK B hB hn
 da B c e fr b:=by
  obtain⟨f,⟨i,j⟩,k⟩:=h.da B c e fr b;have:B≠D:=by have:=dg b;omega
  exact⟨f,⟨i,by rw[ew w y this];exact j⟩,k⟩
 up:=h.up
 down:=h.down
 own:=h.own
def bG.eO{D:Nat}{y:Obj}(I:¬A D){x:PV}{v:Value}(h:bG A w x v):bG A (bs w D y) x v:=
 h.ext fun B a=>⟨a,ew w y fun e=>I (e ▸ a)⟩
def Rel.eO{D:Nat}{o y:Obj}(I:¬A D)(r:w.heap[D]? =some o)(g:∀c e fr,o≠.cells c e fr){x:LV}{v:Value}(h:Rel A S w x v):Rel A S (bs w D y) x v:=by cases x with| p x=>exact bG.eO I h|ref b o=>exact h|aX cs o=>(obtain⟨B,d,vs,rfl,j⟩:=h;refine⟨B,d,vs,rfl,fun i c C=> ?_⟩;obtain⟨k,l,m⟩:=j i c C;refine⟨k,?_,bG.eO I m⟩;have G:B≠D:=fun e=>I (e ▸ k);unfold World.cell? at*;rw[ew w y G];exact l)|ad b o n z=>(obtain⟨B,d,q,E,O,rfl,F,s⟩:=h;refine⟨B,d,q,E,O,rfl,F,fun hp=> ?_⟩;obtain⟨u,c,e,fr,k,H⟩:=s hp;have G:B≠D:=fun V=>by simp_all);exact⟨u,c,e,fr,by rw[ew w y G];exact k,H⟩|map b=>exact h|fn f M=>exact h|aI b=>exact h|gQ t b o=>exact h
def bZ.eO{D:Nat}{o y:Obj}(I:¬A D)(n:w.heap[D]? =some o)(d:∀c e fr,o≠.cells c e fr){x:RW}{v:Value}(h:bZ A S w x v):bZ A S (bs w D y) x v:=by cases x with| one x=>exact Rel.eO I n d h|agg xs=>obtain⟨vs,rfl,j,k⟩:=h;exact⟨vs,rfl,j,fun i x z=>let ⟨u,q,r⟩:=k i x z;⟨u,q,Rel.eO I n d r⟩⟩
def aD.eO{D:Nat}{o y:Obj}(I:¬A D)(n:w.heap[D]? =some o)(d:∀c e fr,o≠.cells c e fr){x:RV}{v:Value}(h:aD A S w x v):aD A S (bs w D y) x v:=by cases x with| v x=>exact bZ.eO I n d h|ab xs=>obtain⟨vs,rfl,j,k⟩:=h;exact⟨vs,rfl,j,fun i x z=>let ⟨u,q,r⟩:=k i x z;⟨u,q,bZ.eO I n d r⟩⟩
def al.eO(C:al G A S L w){D:Nat}{o z:Obj}(I:¬A D)(n:w.heap[D]? =some o)(f:∀c e fr,o≠.cells c e fr)(E:¬ch S L D):al G A S L (bs w D z) where
 ob b x hb:=by
  have h:=C.ob b x hb;have H:∀B d,S b=some (B,d)->bT x=true->B≠D:=by
   intro B d a F V;subst V;cases hm:bS x with
   |true=>exact E ⟨b,x,d,hb,hm,a⟩
   |false=>
    cases x with
    |cells cs fz=>
     obtain⟨Z,R,c,e,fr,j,l,_⟩:=h;exact kg
    |gone=>simp[bT]at F
    |_=>simp[bS]at hm
  cases x with
  |tc t cs buf=>
   obtain⟨B,c,fr,j,l,m,p,q,u⟩:=h;refine⟨B,c,fr,j,by rw[ew w z (H B 0 j rfl)];exact l,m,p,q,fun i y J=> ?_⟩;exact auk
  |cells cs fz=>
   obtain⟨B,d,c,e,fr,j,l,m,p,q,u⟩:=h;refine⟨B,d,c,e,fr,j,by rw[ew w z (H B d j rfl)];exact l,m,p,q,fun i y J=> ?_⟩;exact auk
  |map es=>
   obtain⟨B,d,N,O,j,l,m,p⟩:=h;refine⟨B,d,N,O,j,by rw[ew w z (H B d j rfl)];exact l,m,fun i k y J=> ?_⟩;obtain⟨e,K,M,P⟩:=p i k y J;exact⟨e,K,M,bZ.eO I n f P⟩
  |iter s pos=>
   obtain⟨B,j,l⟩:=h;exact⟨B,j,by rw[ew w z (H B 0 j rfl)];exact l⟩
  |loop r=>
   obtain⟨B,d,tmps,Q,j,l,m⟩:=h;exact⟨B,d,tmps,Q,j,by rw[ew w z (H B d j rfl)];exact l,m.1,fun i r J=>let ⟨v,K,M⟩:=m.2 i r J;⟨v,K,aD.eO I n f M⟩⟩
  |gone=>trivial
 ca:=C.ca
 lt B a:=by simpa using C.lt B a
 inj:=C.inj
 cz:=C.cz
 gl g vs T:=by
  obtain⟨j,l⟩:=C.gl g vs T;refine⟨j,fun i v J=> ?_⟩;obtain⟨m,p⟩:=l i v J;refine⟨?_,p⟩;have H:g≠D:=fun e=>I (e ▸ j);unfold World.cell? at*;rw[ew w z H];exact m
def nD{base:Bs}{fr:Frame}{cs:BY}{B:Nat->Prop}{T:ay}{M:ag}{x:World}(C:fr.mode= .returning)(z:x.heap.size<=base.n){y:eG}{t:Array Value}(E:List Deferred)(w:World)(U:fr.defers=E)(V:Marks A S L w base E)(F:al G A S L w)(H:bL A S w y t)(N:Ext B T M x A S L w): ∃w',Steps P (lone fr cs w) (lone {fr with defers:=base.tl} cs w')/\al G A S L w'/\bL A S w' y t/\Ext B T M x A S L w':=by obtain⟨I,W,u,f⟩:=V;subst W;induction I generalizing fr w with| nil=>(refine⟨w,?_,F,H,N⟩;have:{fr with defers:=base.tl}=fr:=by cases fr;simp at U;subst U;rfl);rw[this];exact aaR _ _|cons d I g=>(obtain⟨D,rfl,j,k,l,m⟩:=f d (aaO ..);have o:∀c e fr,Obj.deferred (some [])≠.cells c e fr:=by intro c e fr h;cases h);(have O:=Fl (P:=P) (cs:=cs) (ds:=I++base.tl) C U k;have J:∀R∈I,∃K,R={target:= .collected K,args:=#[]}/\base.n<=K/\(bs w D (.deferred none)).heap[K]? =some (.deferred (some []))/\¬ch S L K/\¬A K:=by(intro R p;obtain⟨K,rfl,q,s,Q,X⟩:=f R (Xr _ p);have Y:K≠D:=by intro e;have:=(acH.1 u).1 _ p;simp[e]at this);exact⟨K,rfl,q,by rw[ew w _ Y];exact s,Q,X⟩);obtain⟨w',Z,a,b,ap⟩:=g (fr:={fr with defers:=I++base.tl}) C (bs w D (.deferred none)) (F.eO m k o l) ⟨H.1,fun i r aw=>let ⟨v,q,s⟩:=H.2 i r aw;⟨v,q,aD.eO m k o s⟩⟩ (Ext.eO m k o (.inr l) N w_) (acH.1 u).2 J rfl;exact⟨w',.head O Z,a,b,ap⟩
def lC(T:aq)(G:az)(st:St):ResultVar->Option RV
 | .tmp t=>some (st.regs.getD t bl)
 | .cell a t=>match a8 T G t (st.regs.getD a bl) st.hp with
  |some (r,_)=>some r
  |none=>none
def ss:RV->Option RW
 | .v x=>some x
 | .ab _=>none
def bQ(T:aq)(G:az)(fn:Func)(st:St):Option RV:=
 match ba (lC T G st) fn.results.toList with
 |some [r]=>some r
 |some rs=>match ba ss rs with
  |some xs=>some (.ab xs)
  |none=>none
 |none=>none
def Is(B:al G A S L w){regs:eG}{t:Array Value}(C:bL A S w regs t){x:ResultVar}{r:RV}(h:lC T G ⟨regs,L⟩ x=some r): ∃v,(match x with| .tmp i=>(Pure.pure (t.getD i undef):Sem Value)| .cell a ty=>(do loadVar ty (<- asAddr (t.getD a undef)))).run P w= .ok v w/\aD A S w r v:=by cases x with| tmp i=>simp[lC]at h;subst h;exact⟨_,rfl,by have:=gh C (x:= .tmp i) rfl;simpa[aQ,bx] using this⟩|cell a ty=>simp only[lC]at h;split at h;{(rename_i y n hl;simp at h;subst h;have s:aD A S w (regs.getD a bl) (t.getD a undef):=by have:=gh C (x:= .tmp a) rfl;simpa[aQ,bx] using this);obtain⟨_,W,v,e,j,k⟩:=x5 (P:=P) B hl s;exact⟨v,by simp only[e,asAddr,Sem.run_bind,Sem.run_pure,Result.andThen_ok,j],k⟩};simp at h
def u4(t:Array Value):ResultVar->Sem Value
 | .tmp i=>pure (t.getD i undef)
 | .cell a ty=>do loadVar ty (<- asAddr (t.getD a undef))
def Gu(B:al G A S L w){regs:eG}{t:Array Value}(C:bL A S w regs t){x:ResultVar}{r:RV}(h:lC T G ⟨regs,L⟩ x=some r): ∃v,(u4 t x).run P w= .ok v w/\aD A S w r v:=by obtain⟨v,i,j⟩:=Is (P:=P) B C h;refine⟨v,?_,j⟩;cases x<;>exact i
def ug(B:al G A S L w){regs:eG}{t:Array Value}(C:bL A S w regs t):∀{xs:List ResultVar}{rs:eG},ba (lC T G ⟨regs,L⟩) xs=some rs->
  ∃vs:List Value,(xs.mapM (u4 t)).run P w= .ok vs w/\aN A S w rs vs
 | [],rs,h=>by simp[ba]at h;subst h;exact⟨[],s_,aN.nil⟩
 |x::xs,rs,h=>by
  simp only[ba]at h;split at h
  ·rename_i y z h1 h2;simp at h;subst h;obtain⟨v,k,l⟩:=Gu (P:=P) B C h1;obtain⟨vs,m,n⟩:=ug B C h2;exact⟨v::vs,by simp_all,aN.cons l n⟩
  simp at h
def xN(fn:Func)(t:Array Value):results fn t=(do let vs <- fn.results.mapM (u4 t);pure (if h:vs.size=1 then vs[0] else .tuple vs)):=by rfl
def zx:∀{rs:eG}{xs:List RW}{vs:List Value},ba ss rs=some xs->aN A S w rs vs->vs.length=xs.length/\∀(i:Nat) x,xs[i]? =some x->∃u,vs[i]? =some u/\bZ A S w x u
 | [],xs,vs,h,C=>by simp[ba]at h;subst h;rw[C.dR];simp_all
 |r::rs,xs,vs,h,C=>by
  obtain⟨v,k,rfl,j,l⟩:=C.dc;simp only[ba]at h;split at h
  ·rename_i y z m n;simp at h;subst h;obtain⟨e,f⟩:=zx n l;have hy:bZ A S w y v:=by
    cases r with
    |v x=>simp[ss]at m;subst m;exact j
    |ab _=>simp[ss]at m
   grind
  simp at h
def qc(B:al G A S L w){fn:Func}{regs:eG}{t:Array Value}(C:bL A S w regs t){r:RV}(h:bQ T G fn ⟨regs,L⟩=some r): ∃v,(results fn t).run P w= .ok v w/\aD A S w r v:=by unfold bQ at h;split at h;{rename_i y hm;simp at h;subst h;obtain⟨vs,k,l⟩:=ug (P:=P) B C hm;obtain⟨v,m,rfl,n,o⟩:=l.dc;have:=o.dR;subst this;refine⟨v,?_,n⟩;rw[xN];simp only[Sem.run_bind,ah0,Sem.run_map,k,Result.andThen_ok,Sem.run_pure];simp};{rename_i rs H hm;split at h;{(rename_i xs hx;simp at h;subst h;obtain⟨vs,k,l⟩:=ug (P:=P) B C hm;obtain⟨e,f⟩:=zx hx l;have hlen:vs.length≠1:=by intro y;have:=l.1;rw[y]at this;match rs,this,H with| [a],_,H=>exact H a rfl);refine⟨.tuple vs.toArray,?_,vs.toArray,rfl,by simp[e],fun i x z=>by simp_all⟩;rw[xN];simp only[Sem.run_bind,ah0,Sem.run_map,k,Result.andThen_ok,Sem.run_pure];simp[hlen]};simp at h};simp at h
def dm(fn:Func)(args:eG):eG:=args++List.replicate (fn.ntmps - args.length) bl
def qr{fn:Func}{args:eG}{vs:List Value}(h:aN A S w args vs):bL A S w (dm fn args) (vs.toArray++Array.replicate (fn.ntmps - vs.toArray.size) undef):=by refine⟨by simp[dm,h.1],fun i r y=> ?_⟩;unfold dm at y;by_cases K:i<args.length;{rw[Ws K]at y;obtain⟨v,j,k⟩:=h.2 i r y;grind};(rw[Xo w_]at y;have L:i - args.length<fn.ntmps - args.length:=by have:=(se.1 y).1;simpa using this);rw[List.getElem?_replicate,if_pos L]at y;simp at y;subst y;refine⟨undef,?_,jC⟩;rw[Array.getElem?_append_right (by simp[h.1];omega)];simp[h.1,L]
def am.It(l:bf T){f:FuncId}{fn:Func}{c:Code}{args:eG}{Q:RV->ag->Prop}(U:P.funcs[f]? =some fn)(O:fn.body=some c) (x:fn.name≠ "runtime.NumGoroutine")
  (h:dQ P T G (am P G) (cW P G) f false c ⟨dm fn args,L⟩ fun e st=>match e with
   | .exit _=>False
   |_=>∃r,bQ T G fn st=some r/\Q r st.hp):am P G (.fn f) args L Q:=by
 refine .inl ⟨⟨fn,U,by simp[O],x⟩,fun A S w vs B u g cs=> ?_⟩;let b:Frame:={fn:=f,tmps:=#[],todo:=[],defers:=[],mode:= .run,kind:= .normal,roundOf:=none};have F:Frame.enter P f vs.toArray .normal=Fr b (vs.toArray++Array.replicate (fn.ntmps - vs.toArray.size) undef) [.code c]:=by exact alB
 rw[F];have V:Marks A S L w ⟨w.heap.size,[]⟩ b.defers:=⟨[],rfl,YS,fun d W=>by cases W⟩
 obtain⟨e,st,t,R,S',w',C,M,y,H,X,N,Y⟩:=gB (b:=b) (k:=[]) (cs:=g::cs) l f false c _ _ h B (qr u) rfl rfl V (vA _);have fin:∀(fr:Frame),(fr.mode= .returning)->fr.defers=C->fr.fn=f->fr.kind= .normal->fr.tmps=t->(∃r,bQ T G fn st=some r/\Q r st.hp)->Steps P (lone (Fr b (vs.toArray++Array.replicate (fn.ntmps - vs.toArray.size) undef) [.code c]) (g::cs) w) (lone fr (g::cs) w')->
   ∃r n v R S' w',Q r n/\Steps P (lone (Fr b (vs.toArray++Array.replicate (fn.ntmps - vs.toArray.size) undef) [.code c]) (g::cs) w) (lone (g.finish v) cs w')/\aD R S' w' r v/\al G R S' n w'/\Ext A S L w R S' n w':=by
  intro fr j m o p q ⟨r,Z,a⟩ D;obtain⟨z,s,E,I,J⟩:=nD (P:=P) (cs:=g::cs) j (vA _) C w' m Y X H N;obtain⟨v,K,ap⟩:=qc (P:=P) (fn:=fn) (regs:=st.regs) E I Z;have aw:({fr with defers:=[]}:Frame).leaving P z (.returned v):=⟨j,rfl,p,fn,by simp_all,by simp_all⟩
  exact⟨r,st.hp,v,R,S',z,a,D.trans (s.trans (Steps.cG (aie aw))),ap,E,J⟩
 cases e with| exit i=>exact M.elim|normal=>exact fin {Fr {b with defers:=C} t []with mode:= .returning} rfl rfl rfl rfl rfl M (Yg y (Steps.cG (Bc rfl)))|ret=>obtain⟨a0,m⟩:=y;exact fin {Fr {b with defers:=C} t (.code .ret::a0) with mode:= .returning} rfl rfl rfl rfl rfl M (m.trans (Steps.cG (rB rfl)))
end
section
variable {P:lB} {T:aq} [aG P T] {G:az} {L:ag}
def g1:Ex->Bool
 | .normal=>true
 |_=>false
def gk:Ex->Option Code
 | .normal=>none
 | .exit id=>some (.exit id)
 | .ret=>some .ret
def gZ:eG->List Tmp->eG->eG
 |regs,p::x,a::M=>gZ (regs.set p a) x M
 |regs,_,_=>regs
def tb{A:Nat->Prop}{S:ay}{w:World}:∀{y:List Tmp}{M:eG}{vs:List Value}{regs:eG}{t:Array Value},bL A S w regs t->aN A S w M vs->
  bL A S w (gZ regs y M) ((y.zip vs).foldl (fun K (x:Tmp×Value)=>K.setIfInBounds x.1 x.2) t)
 | [],M,vs,regs,t,C,P=>by cases M<;>simpa[gZ] using C
 |p::y,[],vs,regs,t,C,P=>by rw[P.dR];simpa[gZ] using C
 |p::y,a::M,vs,regs,t,C,P=>by
  obtain⟨v,k,rfl,h,i⟩:=P.dc;simp only[gZ,List.zip_cons_cons,aaG];exact tb (C.put (dst:=some p) h) i
def zy{b:Frame}{t:Array Value}{k:pA}{cs:BY}{w:World}{l:Nat}{q:Loop}(d:b.roundOf=some l)(x:w.heap[l]? =some (.loop q))(O:q.state= .ready): step P (lone (Fr b t (.beginRound::k)) cs w)= .next (lone (Fr b t k) cs (bs w l (.loop {q with state:= .busy}))):=by(apply Eo;have B:(Instr.beginRound l).run P w= .ok () (bs w l (.loop {q with state:= .busy})):=by(have y:(getObj l).run P w= .ok (.loop q) w:=by simp[getObj,Sem.run,x]);(have z:∀o:Obj,(setObj l o).run P w= .ok () (bs w l o):=by intro o;simp[setObj,Sem.run,x];rfl);simp only[Instr.beginRound,Instr.getLoop,Sem.run_bind,y,Result.andThen_ok,Sem.run_pure,z,O]);(have A:∀s,(do (b.roundOf.elim (stuck s) Instr.beginRound:Sem Unit);pure Next.skip:Sem Next).run P w= .ok .skip (bs w l (.loop {q with state:= .busy})):=fun s=>by simp only[d,Option.elim,Sem.run_bind,B,Result.andThen_ok,Sem.run_pure]);obtain⟨f,K,a,j,Q,M,C⟩:=b;simp only at d A;subst d;simp only[stepG,stepG.exec,Fr,stepG.apply,YT,A,YU,if_true];rfl
def zA{b:Frame}{t:Array Value}{todo:pA}{c:Frame}{cs:BY}{w:World}{l:Nat}{q:Loop}{j:Option Code}(d:b.roundOf=some l)(C:b.kind= .normal)(x:w.heap[l]? =some (.loop q))(z:(todo=[]/\j=none)\/(∃k,todo= .code .ret::k/\j=some .ret)\/∃e k,todo= .code (.exit e)::k/\exitTo e k=none/\j=some (.exit e)): step P (lone (Fr b t todo) (c::cs) w)= .next (lone (c.finish (.bool j.isNone)) cs (bs w l (.loop {q with state:=if j.isNone then .ready else .done,pending:=j}))):=by(apply Eo;have B:(Instr.endRound l j).run P w= .ok (.bool j.isNone) (bs w l (.loop {q with state:=if j.isNone then .ready else .done,pending:=j})):=by(have y:(getObj l).run P w= .ok (.loop q) w:=by simp[getObj,Sem.run,x]);(have A:∀o:Obj,(setObj l o).run P w= .ok () (bs w l o):=by intro o;simp[setObj,Sem.run,x];rfl);simp only[Instr.endRound,Instr.getLoop,Sem.run_bind,y,Result.andThen_ok,Sem.run_pure,A]);obtain⟨f,K,a,k,O,M,D⟩:=b;simp only at d C;subst d C;(rcases z with⟨rfl,rfl⟩|⟨m,rfl,rfl⟩|⟨e,m,rfl,hx,rfl⟩);{exact au3};{exact au3};simp only[stepG,stepG.exec,Fr,hx,Option.elim,YT,B,YU,doReturn];rfl
def al.ri{A:Nat->Prop}{S:ay}{w:World}{L:ag}{b B d:Nat}{r:LR}{q:Loop}(C:al G A S L w)(E:L[b]? =some (.loop r))(U:S b=some (B,d))(k:w.heap[B]? =some (.loop q))(st:LoopState)(j:Option Code): al G A S (L.set b (.loop {r with state:=st,pending:=j})) (bs w B (.loop {q with state:=st,pending:=j}))/\ Ext A S L w A S (L.set b (.loop {r with state:=st,pending:=j})) (bs w B (.loop {q with state:=st,pending:=j})):=by(obtain⟨Z,R,tmps,D,s,t,u⟩:=C.ob b _ E;rw[U]at s;simp only[pB,q0]at s;obtain⟨rfl,rfl⟩:=s;rw[k]at t;simp only[pB,Obj.loop.injEq]at t;subst t;have v:∀c e f,Obj.loop {state:=r.state,pending:=r.pending,fn:=r.fn,tmps,params:=r.params.toArray,assign:=r.assign,body:=r.body,defers:=D}= .cells c e f->∃g,Obj.loop {state:=st,pending:=j,fn:=r.fn,tmps,params:=r.params.toArray,assign:=r.assign,body:=r.body,defers:=D}= .cells g e f/\g.size=c.size:=by intro c e f V;cases V);have hx:=Ext.write (A:=A) (y:= .loop {r with state:=st,pending:=j}) C E rfl U k v;exact⟨C.write E rfl U k v rfl ⟨B,d,tmps,D,U,fk w (dg k),C.ey hx u⟩,hx⟩
def am.zB(l:bf T){f:Nat}{args:eG}{Q:RV->ag->Prop}{r:LR}(C:L[f]? =some (.loop r))(v:args.length=r.params.length)
  (h:dQ P T G (am P G) (cW P G) r.fn true r.assign ⟨gZ r.regs r.params args,L⟩ fun e N=>match e with
   | .normal=>∃s,N.hp[f]? =some (.loop s)/\s.state= .ready/\
    dQ P T G (am P G) (cW P G) r.fn true r.body ⟨N.regs,N.hp.set f (.loop {s with state:= .busy,pending:=s.pending})⟩ fun e O=>
     ∃u,O.hp[f]? =some (.loop u)/\Q (atR (.bool (g1 e))) (O.hp.set f (.loop {u with state:=if g1 e then .ready else .done,pending:=gk e}))
   |_=>False):am P G (.yl f) args L Q:=by
 refine⟨⟨r,C⟩,fun A S w vs B d q E u U j=> ?_⟩;obtain⟨Z,R,tmps,D,s,y,z⟩:=E.ob f _ C;rw[U]at s;simp only[pB,q0]at s;obtain⟨rfl,rfl⟩:=s;rw[j]at y;simp only[pB,Obj.loop.injEq]at y;subst y;refine⟨by simp[u.1,v],fun c cs=> ?_⟩;let b:Frame:={fn:=r.fn,tmps:=#[],todo:=[],defers:=[],mode:= .run,kind:= .normal,roundOf:=some B};have m:((r.params.toArray.zip vs.toArray).foldl (fun K (x,a)=>K.setIfInBounds x a) tmps)=(r.params.zip vs).foldl (fun K (x:Tmp×Value)=>K.setIfInBounds x.1 x.2) tmps:=by rw[<- ahY];simp
 have g:Frame.round B r.fn ((r.params.toArray.zip vs.toArray).foldl (fun K (x,a)=>K.setIfInBounds x a) tmps) r.assign r.body .normal=Fr b ((r.params.zip vs).foldl (fun K (x:Tmp×Value)=>K.setIfInBounds x.1 x.2) tmps) [.code r.assign,.beginRound,.code r.body]:=by rw[m];rfl
 simp only;rw[g];have V:Marks A S L w ⟨w.heap.size,[]⟩ b.defers:=⟨[],rfl,YS,fun d W=>by cases W⟩
 obtain⟨n,N,F,H,X,I,J,Y,K,M,O,o,p⟩:=gB (b:=b) (k:=[.beginRound,.code r.body]) (cs:=c::cs) l r.fn true r.assign _ _ h E (tb z u) rfl rfl V (vA _);cases n with
 |exit i=>exact Y.elim
 |ret=>exact Y.elim
 |normal=>
  obtain⟨ap,aw,a0,a1⟩:=Y;have a2:X f=some (B,d):=o.wh f _ U;obtain⟨a_,be,bo,br,bU,b1,b3⟩:=O.ob f _ aw;rw[a2]at bU;simp only[pB,q0]at bU;obtain⟨rfl,rfl⟩:=bU;obtain⟨cb,cc⟩:=O.ri aw a2 b1 .busy ap.pending;have cd:=zy (P:=P) (b:={b with defers:=J}) (t:=F) (k:=[.code r.body]) (cs:=c::cs) rfl b1 a0
  obtain⟨cg,ci,cl,cm,cn,ct,cv,⟨cw,cI,cS⟩,c0,c1,c2,c3,c4⟩:=gB (b:={b with defers:=J}) (k:=[]) (cs:=c::cs) l r.fn true r.body _ _ a1 cb (O.ey cc M) rfl rfl (p.ext cc) (by
   have dd:=o.size;simp_all)
  have dh:cn f=some (B,d):=c3.wh f _ a2;obtain⟨dl,dn,ds,d0,d1,d2,d3⟩:=c2.ob f _ cI;rw[dh]at d1;simp only[pB,q0]at d1;obtain⟨rfl,rfl⟩:=d1;obtain⟨d4,d5⟩:=c2.ri cI dh d2 (if g1 cg then .ready else .done) (gk cg);have d_:(gk cg).isNone=g1 cg:=by cases cg<;>rfl
  have d':∃todo,Steps P (lone (Fr {b with defers:=J} F [.code r.body]) (c::cs) (bs I B (.loop {state:= .busy,pending:=ap.pending,fn:=ap.fn,tmps:=bo,params:=ap.params.toArray,assign:=ap.assign,body:=ap.body,defers:=br})))
    (lone (Fr {b with defers:=cv} cl todo) (c::cs) ct)/\((todo=[]/\gk cg=none)\/(∃en,todo= .code .ret::en/\gk cg=some .ret)\/∃en eq,todo= .code (.exit en)::eq/\exitTo en eq=none/\gk cg=some (.exit en)):=by
   cases cg with
   |normal=>exact⟨[],c0,.inl ⟨rfl,rfl⟩⟩
   |ret=>obtain⟨eq,es⟩:=c0;exact⟨_,es,.inr (.inl ⟨eq,rfl,rfl⟩)⟩
   |exit en=>obtain⟨eq,dd,es⟩:=c0;exact⟨_,es,.inr (.inr ⟨en,eq,rfl,dd,rfl⟩)⟩
  obtain⟨todo,e2,e_⟩:=d';have fd:=zA (P:=P) (b:={b with defers:=cv}) (t:=cl) (c:=c) (cs:=cs) rfl rfl d2 e_;rw[d_]at fd;exact⟨_,_,.bool (g1 cg),cm,cn,_,cS,Yg K (.head cd (e2.trans (Steps.cG fd))),bG.vl _ rfl,d4,o.trans (cc.trans (c3.trans d5))⟩
end
def b2(L:ag):Nat->LV->Option (PV×ak)
 |_,.p x=>some (x,[])
 |n+1,.ad b o k z=>match L[b]? with
  |some (.cells cs _)=>match part cs o (k*z) with
   |some l=>match ba (b2 L n) l with
    |some y=>some (.sl k (y.map (·.1)),b::y.flatMap (·.2))
    |none=>none
   |none=>none
  |_=>none
 |_,_=>none
def kj(L:ag)(xs:lW):Option (List PV×ak):=
 match ba (b2 L 12) xs with
 |some x=>some (x.map (·.1),x.flatMap (·.2))
 |none=>none
def dy(L:ag):RW->Option (RW×ak)
 | .one x=>match b2 L 12 x with
  |some (p,ts)=>some (.one (.p p),ts)
  |none=>none
 | .agg xs=>match kj L xs with
  |some (y,ts)=>some (.agg (y.map .p),ts)
  |none=>none
def bg(L:ag):RV->Option (RV×ak)
 | .v x=>match dy L x with
  |some (y,ts)=>some (.v y,ts)
  |none=>none
 | .ab xs=>match ba (dy L) xs with
  |some w=>some (.ab (w.map (·.1)),w.flatMap (·.2))
  |none=>none
def ep(L:ag)(v:eG):Option (List RV×ak):=
 match ba (bg L) v with
 |some w=>some (w.map (·.1),w.flatMap (·.2))
 |none=>none
def oj:LV->Bool
 | .p (.vl _)=>true
 |_=>false
def uC:RW->Bool
 | .one x=>oj x
 | .agg xs=>xs.all oj
def ei:RV->Bool
 | .v x=>uC x
 | .ab xs=>xs.all uC
def gq:Ob->Ob
 | .cells cs _=> .cells cs true
 |o=>o
def bv(Z:ak)(L:ag):ag:=Z.foldl (fun L b=>match L[b]? with
 |some o=>L.set b (gq o)
 |none=>L) L
section
variable {P:lB} {T:aq} [aG P T] {G:az} {A:Nat->Prop} {S:ay} {L:ag} {w:World}
def du(A:Nat->Prop)(S:ay)(Z:ak):Nat->Prop:=fun B=>A B\/∃b d,b∈Z/\S b=some (B,d)
def bG.more{O:Nat->Prop}(h:∀B,A B->O B){x:PV}{v:Value}(V:bG A w x v):bG O w x v:=V.ext fun B a=>⟨h B a,rfl⟩
def du.mono{Z W:ak}(h:∀b,b∈Z->b∈W):∀B,du A S Z B->du A S W B:=by rintro B (i|⟨b,d,i,j⟩);{exact .inl i};exact .inr ⟨b,d,h b i,j⟩
def rj(C:al G A S L w):∀(n:Nat)(x:LV)(p:PV)(ts:ak)(v:Value),b2 L n x=some (p,ts)->Rel A S w x v->bG (du A S ts) w p v
 |n,.p x,p,ts,v,h,D=>by
  cases n<;>(simp[b2]at h;obtain⟨rfl,rfl⟩:=h;exact bG.more (fun B a=> .inl a) D)
 |n+1,.ad b o k z,p,ts,v,h,D=>by
  simp only[b2]at h;split at h
  ·rename_i cs fz E;split at h
   ·rename_i l hp;split at h
    ·rename_i F hm;simp at h;obtain⟨rfl,rfl⟩:=h;obtain⟨B,d,q,H,r,rfl,s,I⟩:=D;obtain⟨Z,R,c,e,fr,j,m,J,K,M,N⟩:=C.ob b _ E;rw[r]at j;simp only[pB,q0]at j;obtain⟨rfl,rfl⟩:=j;obtain⟨O,P⟩:=jB hm;have Q:=(gY hp).1;have T:∀(i:Nat) y,l[i]? =some y->∃u,c[d+(o+i)]? =some u/\Rel A S w y u:=fun i y U=>N (o+i) y (fJ hp U);refine .sl k _ B q H (fun i=>c.getD (q+i) undef) s (fun i y U=> .inr ⟨b,d,aaO ..,r⟩) ?_ ?_
     ·intro i y U;have V:i<l.length:=by have:=(se.1 U).1;simp[O]at this;exact this
      have W:0<H:=by
       rcases aeV H with X|X
       ·simp_all
       exact X
      obtain⟨rfl,_⟩:=I W;obtain⟨u,Y,a⟩:=T i l[i] (v9 V);rw[aaF];refine cell_of_heap m ?_;simp[Y]
     intro i y U;have V:i<l.length:=by have:=(se.1 U).1;simp[O]at this;exact this
     have W:0<H:=by
      rcases aeV H with X|X
      ·simp_all
      exact X
     obtain⟨rfl,_⟩:=I W;obtain⟨u,Y,a⟩:=T i l[i] (v9 V);obtain⟨⟨g,ap⟩,aw,a0⟩:=P i l[i] (v9 V);simp only[VJ,aw,acF,pB]at U;subst U;have:=rj C n l[i] g ap u a0 a;have a1:c.getD (d+o+i) undef=u:=by rw[aaF];simp[Y]
     rw[a1];exact bG.more (du.mono fun a2 a_=>Xr _ (aaS.2 ⟨(g,ap),WI aw,a_⟩)) this
    simp at h
   simp at h
  simp at h
 | 0,.ad b o k z,p,ts,v,h,D=>by simp[b2]at h
 |n,.ref b o,p,ts,v,h,D=>by cases n<;>simp[b2]at h
 |n,.aX b o,p,ts,v,h,D=>by cases n<;>simp[b2]at h
 |n,.map b,p,ts,v,h,D=>by cases n<;>simp[b2]at h
 |n,.fn f b,p,ts,v,h,D=>by cases n<;>simp[b2]at h
 |n,.aI b,p,ts,v,h,D=>by cases n<;>simp[b2]at h
 |n,.gQ t b o,p,ts,v,h,D=>by cases n<;>simp[b2]at h
def Hn(B:al G A S L w){xs:lW}{x:rK}{Z:ak}{vs:List Value}{S':ay}(h:kj L xs=some (x,Z))(C:bh A S w xs vs):bh (du A S Z) S' w (x.map .p) vs:=by unfold kj at h;split at h;{(rename_i U hm;simp at h;obtain⟨rfl,rfl⟩:=h;obtain⟨z,D⟩:=jB hm;refine⟨by simp[z,C.1],fun i y E=> ?_⟩;simp only[VJ,CG]at E;obtain⟨p,⟨⟨F,W⟩,e,rfl⟩,rfl⟩:=E;have K:i<xs.length:=by have:=(se.1 e).1;omega);obtain⟨q,f,g⟩:=D i xs[i] (v9 K);rw[e]at f;simp at f;subst f;obtain⟨v,r,s⟩:=C.2 i xs[i] (v9 K);exact⟨v,r,bG.more (du.mono fun b O=>aaS.2 ⟨(F,W),WI e,O⟩) (rj B 12 _ _ _ _ g s)⟩};simp at h
def Az(B:al G A S L w){x y:RW}{Z:ak}{v:Value}{S':ay}(h:dy L x=some (y,Z))(C:bZ A S w x v):bZ (du A S Z) S' w y v:=by cases x with| one x=>simp only[dy]at h;split at h;{rename_i p W T;simp at h;obtain⟨rfl,rfl⟩:=h;exact rj B 12 _ _ _ _ T C};simp at h|agg xs=>simp only[dy]at h;split at h;{rename_i z W T;simp at h;obtain⟨rfl,rfl⟩:=h;obtain⟨vs,rfl,D⟩:=C;exact⟨vs,rfl,Hn B T D⟩};simp at h
def bZ.more{O:Nat->Prop}{S':ay}(h:∀B,A B->O B){L:ag}{x y:RW}{Z:ak}{v:Value}(T:dy L x=some (y,Z))(C:bZ A S w y v):bZ O S' w y v:=by cases x with| one x=>simp only[dy]at T;split at T;{simp at T;obtain⟨rfl,rfl⟩:=T;exact bG.more h C};simp at T|agg xs=>simp only[dy]at T;split at T;{simp at T;obtain⟨rfl,rfl⟩:=T;obtain⟨vs,rfl,j,k⟩:=C;refine⟨vs,rfl,j,fun i x z=> ?_⟩;obtain⟨u,q,r⟩:=k i x z;simp only[VJ,CG]at z;obtain⟨p,hp,rfl⟩:=z;exact⟨u,q,bG.more h r⟩};simp at T
def ol(B:al G A S L w){x y:RV}{Z:ak}{v:Value}{S':ay}(h:bg L x=some (y,Z))(C:aD A S w x v):aD (du A S Z) S' w y v:=by cases x with| v x=>simp only[bg]at h;split at h;{rename_i l W T;simp at h;obtain⟨rfl,rfl⟩:=h;exact Az B T C};simp at h|ab xs=>simp only[bg]at h;split at h;{(rename_i z hm;simp at h;obtain⟨rfl,rfl⟩:=h;obtain⟨vs,rfl,j,k⟩:=C;obtain⟨D,E⟩:=jB hm;refine⟨vs,rfl,by simp[D,j],fun i y F=> ?_⟩;simp only[VJ,CG]at F;obtain⟨⟨l,W⟩,e,rfl⟩:=F;have K:i<xs.length:=by have:=(se.1 e).1;omega);obtain⟨q,f,g⟩:=E i xs[i] (v9 K);rw[e]at f;simp at f;subst f;obtain⟨u,r,s⟩:=k i xs[i] (v9 K);exact⟨u,r,bZ.more (S:=S') (du.mono fun b O=>aaS.2 ⟨(l,W),WI e,O⟩) g (Az B g s)⟩};simp at h
def Same(w w':World):Prop:=w.heap.size<=w'.heap.size/\w'.os=w.os/\w'.tape=w.tape/\w'.output=w.output/\∀B,B<w.heap.size->w'.heap[B]? =w.heap[B]?
def Ext.same{O:Nat->Prop}{S':ay}{n:ag}{w':World}(h:Ext A S [] w O S' n w'):Same w w':=
 ⟨h.size,h.os,h.tape,h.output,fun B a=>h.aK B a fun⟨b,F,d,i,_⟩=>by simp at i⟩
def Ext.of_same{w':World}(h:Same w w'):Ext A S L w A S L w' where
 size:=h.1
 os:=h.2.1
 tape:=h.2.2.1
 output:=h.2.2.2.1
 wh _ _ h:=h
 nw _ _ h:=h
 len:=vA _
 aK B hB _:=h.2.2.2.2 B hB
 da B c e fr hc:=⟨c,⟨fr,by rw[h.2.2.2.2 B (dg hc)];exact hc⟩,rfl⟩
 up _ h:=h
 down _ h:= .inl h
 own _ _ h:=h
def al.of_same{w':World}(C:al G A S L w)(h:Same w w'):al G A S L w' where
 ob b x hb:=dx.ext C (Ext.of_same h) (C.ob b x hb) fun y B d a=>h.2.2.2.2 B (C.vl hb y a)
 ca:=C.ca
 lt B I:=W0 (C.lt B I) h.1
 inj:=C.inj
 cz:=C.cz
 gl g vs z:=by
  obtain⟨j,k⟩:=C.gl g vs z;refine⟨j,fun i v D=> ?_⟩;obtain⟨l,m⟩:=k i v D;refine⟨?_,m⟩;unfold World.cell? at*;rw[h.2.2.2.2 g (C.lt g j)];exact l
def al.empty(C:al G A S L w){O:Nat->Prop}(I:∀B,A B->O B)(K:∀B,O B->B<w.heap.size):al G O (fun _=>none) [] w where
 ob b o h:=by simp at h
 ca B _ z:=by obtain⟨b,F,d,i,_⟩:=z;simp at i
 lt:=K
 inj b f o y B d R _ h:=by simp at h
 cz b B d h:=by simp at h
 gl g vs x:=⟨I g (C.gl g vs x).1,(C.gl g vs x).2⟩
def uh(o:Ob):bS (gq o)=true->bS o=true:=by cases o<;>simp[gq,bS]
def p8(Z:ak):∀L:ag,(bv Z L).length=L.length:=by unfold bv;induction Z with| nil=>intro L;rfl|cons b Z d=>grind
def jE(Z:ak):∀(L:ag)(b:Nat)(o:Ob),(bv Z L)[b]? =some o->∃p,L[b]? =some p/\((o=p/\(b∉Z\/∀cs,p≠.cells cs false))\/(o=gq p/\b∈Z)):=by unfold bv;induction Z with| nil=>simp_all| cons a Z d=>(intro L b o h;simp only[aaG]at h;obtain⟨q,i,j⟩:=d _ b o h;cases k:L[a]? with| none=>grind|some l=>simp only[k]at i;by_cases G:b=a;{subst G;rw[Yb (se.1 k).1]at i;simp at i;subst i;refine⟨l,k,.inr ⟨?_,aaO ..⟩⟩;(rcases j with⟨e,_⟩|⟨e,_⟩);{exact e};rw[e];cases l<;>rfl};grind)
def fK(L:ag)(Z:ak):Prop:=∀b∈Z,∃cs fz,L[b]? =some (.cells cs fz)
def fK.flat{α:Type}{L:ag}{f:α->ak}{l:List α}(h:∀x∈l,fK L (f x)):fK L (l.flatMap f):=by intro b O;obtain⟨x,M,c⟩:=aaS.1 O;exact h x M b c
def l3{α β:Type}{f:α->Option β}{l:List α}{r:List β}(h:ba f l=some r){y:β}(hy:y∈r):∃x,x∈l/\f x=some y:=by(obtain⟨A,B⟩:=jB h;obtain⟨i,C⟩:=List.mem_iff_getElem?.1 hy;have K:i<l.length:=by have:=(se.1 C).1;omega);obtain⟨z,e,g⟩:=B i l[i] (v9 K);grind
def qs:∀(n:Nat)(x:LV)(p:PV)(ts:ak),b2 L n x=some (p,ts)->fK L ts
 |n,.p x,p,ts,h=>by cases n<;>(simp[b2]at h;obtain⟨rfl,rfl⟩:=h;intro b O;simp at O)
 |n+1,.ad b o k z,p,ts,h=>by
  simp only[b2]at h;split at h
  ·rename_i cs fz B;split at h
   ·rename_i l hp;split at h
    ·rename_i A hm;simp at h;obtain⟨rfl,rfl⟩:=h;intro g P
     rcases V0.1 P with rfl|P
     ·simp_all
     obtain⟨⟨E,W⟩,i,j⟩:=aaS.1 P;obtain⟨y,_,hy⟩:=l3 hm i;exact qs n y E W hy g j
    simp at h
   simp at h
  simp at h
 | 0,.ad b o k z,p,ts,h=>by simp[b2]at h
 |n,.ref b o,p,ts,h=>by cases n<;>simp[b2]at h
 |n,.aX b o,p,ts,h=>by cases n<;>simp[b2]at h
 |n,.map b,p,ts,h=>by cases n<;>simp[b2]at h
 |n,.fn f b,p,ts,h=>by cases n<;>simp[b2]at h
 |n,.aI b,p,ts,h=>by cases n<;>simp[b2]at h
 |n,.gQ t b o,p,ts,h=>by cases n<;>simp[b2]at h
def yd{x y:RW}{Z:ak}(h:dy L x=some (y,Z)):fK L Z:=by cases x with| one x=>simp only[dy]at h;split at h;{rename_i p W T;simp at h;obtain⟨rfl,rfl⟩:=h;exact qs 12 _ _ _ T};simp at h|agg xs=>simp only[dy]at h;split at h;{rename_i z W T;simp at h;obtain⟨rfl,rfl⟩:=h;unfold kj at T;split at T;{rename_i U hm;simp at T;obtain⟨rfl,rfl⟩:=T;refine fK.flat fun q M=> ?_;obtain⟨y,_,hy⟩:=l3 hm M;exact qs 12 y q.1 q.2 hy};simp at T};simp at h
def kQ{x y:RV}{ts:ak}(h:bg L x=some (y,ts)):fK L ts:=by cases x with| v x=>simp only[bg]at h;split at h;{rename_i l W T;simp at h;obtain⟨rfl,rfl⟩:=h;exact yd T};simp at h|ab xs=>simp only[bg]at h;split at h;{rename_i w hm;simp at h;obtain⟨rfl,rfl⟩:=h;refine fK.flat fun q M=> ?_;obtain⟨y,_,hy⟩:=l3 hm M;exact yd hy};simp at h
def Ext.freeze(C:al G A S L w){Z:ak}(f:fK L Z):Ext A S L w (du A S Z) S (bv Z L) w where
 size:=vA _
 os:=rfl
 tape:=rfl
 output:=rfl
 wh _ _ h:=h
 nw _ _ h:=h
 len:=by rw[p8];omega
 aK _ _ _:=rfl
 da _ c _ fr h:=⟨c,⟨fr,h⟩,rfl⟩
 up _ h:= .inl h
 down B h:=by
  rcases h with h|⟨b,d,hb,hS⟩
  ·exact .inl h
  obtain⟨cs,fz,D⟩:=f b hb;cases fz with
  |false=>exact .inr (.inr ⟨b,_,d,D,rfl,hS⟩)
  |true=>
   obtain⟨a,R,c,e,fr,i,j,k,l,m,n⟩:=C.ob b _ D
   simp_all
 own B _ z:=by
  obtain⟨b,o,d,i,j,k⟩:=z;obtain⟨p,g,q⟩:=jE Z L b o i;refine⟨b,p,d,g,?_,k⟩
  rcases q with⟨rfl,_⟩|⟨rfl,_⟩
  ·exact j
  exact uh p j
def al.freeze(C:al G A S L w){Z:ak}(f:fK L Z):al G (du A S Z) S (bv Z L) w where
 ob b o hb:=by
  obtain⟨p,i,j⟩:=jE Z L b o hb;have k:=dx.ext C (Ext.freeze C f) (C.ob b p i) fun _ _ _ _=>rfl
  rcases j with⟨rfl,_⟩|⟨rfl,hm⟩
  ·exact k
  obtain⟨cs,fz,D⟩:=f b hm;rw[i]at D;simp at D;subst D;obtain⟨B,d,c,e,fr,l,m,n,q,r,s⟩:=k;exact⟨B,d,c,e,fr,l,m,n,q,fun _=> .inr ⟨b,d,hm,l⟩,s⟩
 ca B I z:=by
  rcases I with I|⟨b,d,hb,hS⟩
  ·exact C.ca B I ((Ext.freeze C f).own B (C.lt B I) z)
  obtain⟨t,u,v,x,y,E⟩:=z;obtain⟨p,i,j⟩:=jE Z L t u x;obtain⟨cs,fz,D⟩:=f b hb;have T:bS p=true:=by
   rcases j with⟨rfl,_⟩|⟨rfl,_⟩
   ·exact y
   exact uh p y
  by_cases F:t=b
  ·subst F;rw[i]at D;simp at D;subst D
   rcases j with⟨rfl,h|h⟩|⟨rfl,_⟩
   ·exact h hb
   ·cases fz with
    |false=>exact h cs rfl
    |true=>simp[bS]at y
   simp[gq,bS]at y
  exact C.inj t b p _ B v d F i T D rfl E hS
 lt B I:=by
  rcases I with I|⟨b,d,hb,hS⟩
  ·exact C.lt B I
  obtain⟨cs,fz,D⟩:=f b hb;exact C.vl D rfl hS
 inj H t J K a d1 v M l U m hl n q:=by
  obtain⟨N,i,j⟩:=jE Z L H J l;obtain⟨u,O,P⟩:=jE Z L t K m;refine C.inj H t N u a d1 v M i ?_ O ?_ n q
  ·rcases j with⟨rfl,_⟩|⟨rfl,_⟩
   ·exact U
   exact uh _ U
  rcases P with⟨rfl,_⟩|⟨rfl,_⟩
  ·exact hl
  cases u<;>simp_all[gq,bT]
 cz b B d h:=by rw[p8];exact C.cz b B d h
 gl g vs Q:=⟨.inl (C.gl g vs Q).1,(C.gl g vs Q).2⟩
def aR(P:lB)(G:az)(f:FuncId)(args:eG)(Q:RV->Prop):Prop:=
 am P G (.fn f) args [] fun r L=>∃y Z,bg L r=some (y,Z)/\Q y
def cj:LV->Bool
 | .p _=>true
 |_=>false
def h7:RW->Bool
 | .one x=>cj x
 | .agg xs=>xs.all cj
def eE:RV->Bool
 | .v x=>h7 x
 | .ab xs=>xs.all h7
def Rel.gr{O:Nat->Prop}{S':ay}(h:∀B,A B->O B){x:LV}{v:Value}(hp:cj x=true)(C:Rel A S w x v):Rel O S' w x v:=by cases x<;>simp[cj]at hp;exact bG.more h C
def bZ.gr{O:Nat->Prop}{S':ay}(h:∀B,A B->O B){x:RW}{v:Value}(hp:h7 x=true)(C:bZ A S w x v):bZ O S' w x v:=by cases x with| one x=>exact Rel.gr h hp C|agg xs=>obtain⟨vs,rfl,j,k⟩:=C;refine⟨vs,rfl,j,fun i x y=> ?_⟩;obtain⟨u,q,r⟩:=k i x y;exact⟨u,q,Rel.gr h ahh r⟩
def aD.gr{O:Nat->Prop}{S':ay}(h:∀B,A B->O B){x:RV}{v:Value}(hp:eE x=true)(C:aD A S w x v):aD O S' w x v:=by cases x with| v x=>exact bZ.gr h hp C|ab xs=>obtain⟨vs,rfl,j,k⟩:=C;refine⟨vs,rfl,j,fun i x y=> ?_⟩;obtain⟨u,q,r⟩:=k i x y;exact⟨u,q,bZ.gr h ahh r⟩
def zC{x y:RW}{Z:ak}(h:dy L x=some (y,Z)):h7 y=true:=by cases x with| one x=>simp only[dy]at h;split at h;{simp at h;obtain⟨rfl,rfl⟩:=h;rfl};simp at h|agg xs=>simp only[dy]at h;split at h;{simp at h;obtain⟨rfl,rfl⟩:=h;simp[h7,cj]};simp at h
def ui{x y:RV}{Z:ak}(h:bg L x=some (y,Z)):eE y=true:=by cases x with| v x=>simp only[bg]at h;split at h;{rename_i l W T;simp at h;obtain⟨rfl,rfl⟩:=h;exact zC T};simp at h|ab xs=>simp only[bg]at h;split at h;{rename_i w hm;simp at h;obtain⟨rfl,rfl⟩:=h;simp only[eE,LA,List.mem_map];rintro x ⟨q,M,rfl⟩;obtain⟨y,_,hy⟩:=l3 hm M;exact zC hy};simp at h
def aN.fz{S':ay}{v x:eG}{Z:ak}{vs:List Value}(B:al G A S L w)(h:ep L v=some (x,Z))(C:aN A S w v vs):aN (du A S Z) S' w x vs/\fK L Z:=by unfold ep at h;split at h;{rename_i z hm;simp at h;obtain⟨rfl,rfl⟩:=h;obtain⟨D,E⟩:=jB hm;refine⟨⟨by simp[D,C.1],fun i y F=> ?_⟩,fK.flat fun q M=> ?_⟩;{(simp only[VJ,CG]at F;obtain⟨⟨l,W⟩,e,rfl⟩:=F;have K:i<v.length:=by have:=(se.1 e).1;omega);obtain⟨r,f,g⟩:=E i v[i] (v9 K);rw[e]at f;simp at f;subst f;obtain⟨u,s,t⟩:=C.2 i v[i] (v9 K);exact⟨u,s,aD.gr (S:=S') (du.mono fun b O=>aaS.2 ⟨(l,W),WI e,O⟩) (ui g) (ol B g t)⟩};obtain⟨y,_,hy⟩:=l3 hm M;exact kQ hy};simp at h
def Rel.scalar{O:Nat->Prop}{S':ay}{w':World}{x:LV}{v:Value}(hp:oj x=true)(C:Rel A S w x v):Rel O S' w' x v:=by
 cases x with
 |p x=>cases x with
  |vl u=>cases C;exact .vl _ ‹_›
  |sl n cs=>simp[oj]at hp
 |_=>simp[oj]at hp
def bZ.scalar{O:Nat->Prop}{S':ay}{w':World}{x:RW}{v:Value}(hp:uC x=true)(C:bZ A S w x v):bZ O S' w' x v:=by cases x with| one x=>exact Rel.scalar hp C|agg xs=>obtain⟨vs,rfl,h,j⟩:=C;refine⟨vs,rfl,h,fun i x y=> ?_⟩;obtain⟨u,q,r⟩:=j i x y;exact⟨u,q,Rel.scalar ahh r⟩
def aD.scalar{O:Nat->Prop}{S':ay}{w':World}{x:RV}{v:Value}(hp:ei x=true)(C:aD A S w x v):aD O S' w' x v:=by cases x with| v x=>exact bZ.scalar hp C|ab xs=>obtain⟨vs,rfl,h,j⟩:=C;refine⟨vs,rfl,h,fun i x y=> ?_⟩;obtain⟨u,q,r⟩:=j i x y;exact⟨u,q,bZ.scalar ahh r⟩
def Rel.wide{O:Nat->Prop}(h:∀B,A B->O B){x:LV}{v:Value}(C:Rel A S w x v):Rel O S w x v:=by cases x with| p x=>exact bG.more h C|aX cs o=>obtain⟨B,d,vs,rfl,e⟩:=C;refine⟨B,d,vs,rfl,fun i c y=> ?_⟩;obtain⟨j,k,l⟩:=e i c y;exact⟨h B j,k,bG.more h l⟩|_=>exact C
def bZ.wide{O:Nat->Prop}(h:∀B,A B->O B){x:RW}{v:Value}(C:bZ A S w x v):bZ O S w x v:=by cases x with| one x=>exact Rel.wide h C|agg xs=>obtain⟨vs,rfl,j,k⟩:=C;exact⟨vs,rfl,j,fun i x y=>let ⟨u,q,r⟩:=k i x y;⟨u,q,Rel.wide h r⟩⟩
def aD.wide{O:Nat->Prop}(h:∀B,A B->O B){x:RV}{v:Value}(C:aD A S w x v):aD O S w x v:=by cases x with| v x=>exact bZ.wide h C|ab xs=>obtain⟨vs,rfl,j,k⟩:=C;exact⟨vs,rfl,j,fun i x y=>let ⟨u,q,r⟩:=k i x y;⟨u,q,bZ.wide h r⟩⟩
def al.wide{O:Nat->Prop}(C:al G A S L w)(h:∀B,A B->O B)(T:∀B,O B->¬ch S L B)(y:∀B,O B->B<w.heap.size):al G O S L w where
 ob b o hb:=by
  have j:=C.ob b o hb;cases o with
  |cells cs fz=>
   obtain⟨B,d,c,e,fr,l,m,n,p,q,u⟩:=j;exact⟨B,d,c,e,fr,l,m,n,p,fun U=>h B (q U),fun i x z=>let ⟨v,E,F⟩:=u i x z;⟨v,E,Rel.wide h F⟩⟩
  |map es=>
   obtain⟨B,d,H,I,l,m,n,p⟩:=j;exact⟨B,d,H,I,l,m,n,fun i k x z=>let ⟨e,E,F,J⟩:=p i k x z;⟨e,E,F,bZ.wide h J⟩⟩
  |iter s pos=>exact j
  |loop r=>
   obtain⟨B,d,tmps,D,l,m,n⟩:=j;exact⟨B,d,tmps,D,l,m,n.1,fun i r z=>let ⟨v,E,F⟩:=n.2 i r z;⟨v,E,aD.wide h F⟩⟩
  |gone=>trivial
  |tc t cs buf=>
   obtain⟨B,c,fr,l,m,n,p,q,u⟩:=j;exact⟨B,c,fr,l,m,n,p,q,fun i x z=>let ⟨v,E,F⟩:=u i x z;⟨v,E,Rel.wide h F⟩⟩
 ca:=T
 lt:=y
 inj:=C.inj
 cz:=C.cz
 gl g vs K:=⟨h g (C.gl g vs K).1,(C.gl g vs K).2⟩
def am.lift{M:ag}{f:FuncId}{args R:eG}{Q T:RV->ag->Prop}(h:am P G (.fn f) R M Q)(key:∀(A:Nat->Prop)(S:ay)(w:World)(vs:List Value)(E:Value->World->Prop),al G A S L w->aN A S w args vs-> (∀B U,al G B U M w->aN B U w R vs->∃r n v O S' w',Q r n/\E v w'/\aD O S' w' r v/\al G O S' n w'/\Ext B U M w O S' n w')-> ∃r n v O S' w',T r n/\E v w'/\aD O S' w' r v/\al G O S' n w'/\Ext A S L w O S' n w'):am P G (.fn f) args L T:=by(rcases h with⟨U,V⟩|V);{exact .inl ⟨U,fun A S w vs B u c cs=>key A S w vs _ B u fun C W i j=>V C W w vs i j c cs⟩};exact .inr fun A S w vs B u=>key A S w vs _ B u fun C W i j=>V C W w vs i j
def am.mr{f:FuncId}{args T:eG}{Z:ak}{Q:RV->Prop}{U:RV->ag->Prop}(hz:ep L args=some (T,Z))(R:aR P G f T Q)(Y:∀r,Q r->eE r=true->U r (if ei r then L else bv Z L)):am P G (.fn f) args L U:=by
 suffices key:∀(A:Nat->Prop)(S:ay)(w:World)(vs:List Value)(E:Value->World->Prop),al G A S L w->aN A S w args vs->
   (∀C V,al G C V [] w->aN C V w T vs->∃r n v O S' w',(∃y Z,bg n r=some (y,Z)/\Q y)/\E v w'/\aD O S' w' r v/\al G O S' n w'/\Ext C V [] w O S' n w')->
   ∃r n v O S' w',U r n/\E v w'/\aD O S' w' r v/\al G O S' n w'/\Ext A S L w O S' n w' by
  rcases R with⟨V,R⟩|R
  ·exact .inl ⟨V,fun A S w vs C u c cs=>key A S w vs _ C u fun D W i j=>R D W w vs i j c cs⟩
  exact .inr fun A S w vs C u=>key A S w vs _ C u fun D W i j=>R D W w vs i j
 intro A S w vs E C u R;obtain⟨x,X⟩:=aN.fz (S':=fun _=>none) C hz u;have a:=C.freeze X;have F:al G (du A S Z) (fun _=>none) [] w:=C.empty (fun B g=> .inl g) a.lt;obtain⟨r,n,v,O,S',w',⟨y,g,H,M⟩,I,J,k,K⟩:=R (du A S Z) (fun _=>none) F x;have l:=K.same;have hp:=ui H;have s:=ol (S':=S) k H J;have m:=Y y M hp;cases o:ei y with
 |true=>
  rw[o]at m;exact⟨y,L,v,A,S,w',m,I,aD.scalar o s,C.of_same l,Ext.of_same l⟩
 |false=>
  rw[o]at m;have N:=a.of_same l
  let p:Nat->Prop:=fun B=>du A S Z B\/(w.heap.size<=B/\B<w'.heap.size)
  have q:al G p S (bv Z L) w':=N.wide (fun B t=> .inl t)
   (fun B t z=>by
    rcases t with t|⟨i,j⟩
    ·exact N.ca B t z
    have:=ch.lt a z;omega)
   (fun B t=>by
    rcases t with t|⟨i,j⟩
    ·exact N.lt B t
    exact j)
  have t:∀B,du O S' g B->B<w'.heap.size:=(k.freeze (kQ H)).lt;have z:∀B,du O S' g B->p B:=by
   intro B ap
   rcases VI B w.heap.size with aw|a0
   ·left;have a1:¬ch (fun _=>none) [] B:=by rintro⟨b,a2,d,i,_⟩;simp at i
    have a_:O B->du A S Z B:=by
     intro h
     rcases K.down B h with h|h|h
     ·exact h
     ·omega
     exact kg
    rcases ap with ap|⟨b,d,hb,hS⟩
    ·exact a_ ap
    obtain⟨be,fz,bo⟩:=kQ H b hb;cases fz with
    |false=>exact(a1 (K.own B aw ⟨b,_,d,bo,rfl,hS⟩)).elim
    |true=>
     obtain⟨br,bU,b1,e,fr,i,j,b3,cb,cc,cd⟩:=k.ob b _ bo;exact kg
   grind
  refine⟨y,bv Z L,v,p,S,w',m,I,aD.gr z hp s,q,(Ext.freeze C X).trans ?_⟩
  exact {
   size:=l.1
   os:=l.2.1
   tape:=l.2.2.1
   output:=l.2.2.2.1
   wh:=fun _ _ h=>h
   nw:=fun _ _ h=>h
   len:=vA _
   aK:=fun B ap _=>l.2.2.2.2 B ap
   da:=fun B c e fr a1=>⟨c,⟨fr,by rw[l.2.2.2.2 B (dg a1)];exact a1⟩,rfl⟩
   up:=fun B h=> .inl h
   down:=fun B h=>h.imp id fun h=> .inl h.1
   own:=fun _ _ h=>h}
end
def aL(M:ak)(hp:ag):ag:=M.foldl (fun h b=>h.set b .gone) hp
def cr:∀(M:ak)(hp:ag),(aL M hp).length=hp.length
 | [],hp=>rfl
 |b::M,hp=>by
  show(aL M (hp.set b .gone)).length=_;rw[cr M];simp
def i7:∀{M:ak}{hp:ag}{b:Nat},b∈M->(aL M hp)[b]? =(hp[b]?).map fun _=>Ob.gone
 |m::M,hp,b,h=>by
  show(aL M (hp.set m .gone))[b]? =_
  by_cases hb:b∈M
  ·rw[i7 hb]
   grind
  have hm:b=m:=by simpa[hb] using h
  subst hm;have aux:∀(M:ak)(h:ag),b∉M->(aL M h)[b]? =h[b]? :=by
   intro M
   induction M with
   |nil=>intro h _;rfl
   |cons x M d=>
    intro h y;show(aL M (h.set x .gone))[b]? =_
    grind
  grind
def dS:∀{M:ak}{hp:ag}{b:Nat},b∉M->(aL M hp)[b]? =hp[b]?
 | [],hp,b,_=>rfl
 |m::M,hp,b,h=>by
  show(aL M (hp.set m .gone))[b]? =_;rw[dS (fun V=>h (Xr _ V)),Vt]
  grind
def dt{M:ak}{hp:ag}{b:Nat}{x:Ob}(h:(aL M hp)[b]? =some x)(N:x≠.gone):b∉M/\hp[b]? =some x:=by by_cases hb:b∈M;{rw[i7 hb]at h;exact kg};rw[dS hb]at h;simp_all
def rk{M:ak}{hp:ag}{b:Nat}{F:Ob}(h:b∈M):Sx.aL M (hp.set b F)=Sx.aL M hp:=by apply Wr;intro i;by_cases hi:i∈M;{rw[i7 hi,i7 hi,W1];grind};rw[dS hi,dS hi,Vt];grind
def Iv{M O:ak}{hp:ag}(h:∀b∈M,b<hp.length->b∈O):Sx.aL O (Sx.aL M hp)=Sx.aL O hp:=by apply Wr;intro i;by_cases hi:i∈O;{rw[i7 hi,i7 hi];(rcases VI i hp.length with hl|hl);{rw[v9 hl,v9 (by rw[cr];exact hl)];rfl};rw[Yf hl,Yf (by rw[cr];exact hl)]};rw[dS hi,dS hi];by_cases hm:i∈M;{(rcases VI i hp.length with hl|hl);{exact kg};rw[Yf hl,Yf (by rw[cr];exact hl)]};rw[dS hm]
def c8(M:ak)(L L1:ag):ag:=L1.mapIdx fun k o=>if k∈M then L.getD k .gone else o
def tt{M:ak}{L L1:ag}:(c8 M L L1).length=L1.length:=by simp[c8]
def gE{M:ak}{L L1:ag}{k:Nat}(C:k∈M)(h:k<L.length)(i:k<L1.length):(c8 M L L1)[k]? =L[k]? :=by simp[c8,List.getElem?_mapIdx,v9 i,v9 h,C]
def gD{M:ak}{L L1:ag}{k:Nat}(C:k∉M):(c8 M L L1)[k]? =L1[k]? :=by simp only[c8,List.getElem?_mapIdx];exact kg
section
variable {P:lB} {T:aq} {G:az} {A A':Nat->Prop} {S S':ay} {L L1:ag} {w w':World} {M:ak}
def nK{o:Ob}(h:bS o=true):bT o=true:=by cases o<;>simp_all[bS,bT]
def al.mask(C:al G A S L w)(M:ak):al G A S (aL M L) w where
 ob b o h:=by
  by_cases x:o= .gone
  ·subst x;trivial
  exact C.ob b o (dt h x).2
 ca B I z:=by
  obtain⟨b,F,d,i,j,k⟩:=z;exact C.ca B I ⟨b,F,d,(dt i ak3).2,j,k⟩
 lt:=C.lt
 inj b f o y B d R H i j k h4 h5 l:=C.inj b f o y B d R H (dt i ak3).2 j (dt k (by rintro rfl;simp[bT]at h4)).2 h4 h5 l
 cz b B d h:=by rw[cr];exact C.cz b B d h
 gl:=C.gl
def ch.rC{B:Nat}(h:ch S (aL M L) B):∃b o d,b∉M/\L[b]? =some o/\bS o=true/\S b=some (B,d):=by obtain⟨b,F,d,i,j,k⟩:=h;obtain⟨l,m⟩:=dt i ak3;grind
def tm(C:al G A S L w){b:Nat}{o:Ob}(h:L[b]? =some o)(y:bT o=true):∃B d,S b=some (B,d)/\B<w.heap.size:=by have lt:∀{B:Nat}{x:Obj},w.heap[B]? =some x->B<w.heap.size:=fun h=>(aaT.1 h).1;have:=C.ob b o h;cases o with| cells cs fz=>obtain⟨B,d,c,e,fr,i,j,_⟩:=this;simp_all| map es=>obtain⟨B,d,u,k,i,j,_⟩:=this;simp_all| iter s pos=>obtain⟨B,i,j⟩:=this;simp_all| loop r=>obtain⟨B,d,K,D,i,j,_⟩:=this;simp_all| gone=>simp[bT]at y|tc t cs buf=>obtain⟨B,c,fr,i,j,_⟩:=this;simp_all
def tu(C:al G A S L w)(N:Ext A S (aL M L) w A' S' L1 w'){b:Nat}{o:Ob}(O:b∈M)(h:L[b]? =some o)(x:bT o=true){B d:Nat}(U:S b=some (B,d)):¬ch S (aL M L) B:=by intro z;obtain⟨c,p,e,k,l,m,n⟩:=ch.rC z;exact C.inj c b p o B e d (by grind) l m h x n U
def dx.frame(C:al G A S L w)(N:Ext A S (aL M L) w A' S' L1 w'){b:Nat}{o:Ob}(O:b∈M)(h:L[b]? =some o):dx A' S' w' b o:=by have hm:=C.mask M;by_cases hl:bT o=true;{obtain⟨B,d,U,K⟩:=tm C h hl;have E:=N.aK B K (tu C N O h hl U);have u:=N.wh b _ U;have:=C.ob b o h;cases o with| cells cs fz=>obtain⟨Z,R,c,e,fr,j,l,m,n,p,q⟩:=this;rw[U]at j;simp only[pB,q0]at j;obtain⟨rfl,rfl⟩:=j;refine⟨B,d,c,e,fr,u,E.trans l,m,n,fun T=>N.up B (p T),fun i x y=> ?_⟩;exact au6|map es=>obtain⟨Z,R,H,I,j,l,m,n⟩:=this;rw[U]at j;simp only[pB,q0]at j;obtain⟨rfl,rfl⟩:=j;refine⟨B,d,H,I,u,E.trans l,m,fun i k x y=> ?_⟩;obtain⟨e,z,F,J⟩:=n i k x y;exact⟨e,z,F,hm.pf N J⟩|iter s pos=>obtain⟨Z,j,l⟩:=this;rw[U]at j;simp only[pB,q0]at j;obtain⟨rfl,rfl⟩:=j;exact⟨B,u,E.trans l⟩|loop r=>obtain⟨Z,R,P,D,j,l,m⟩:=this;rw[U]at j;simp only[pB,q0]at j;obtain⟨rfl,rfl⟩:=j;exact⟨B,d,P,D,u,E.trans l,hm.ey N m⟩|gone=>simp[bT]at hl|tc t cs buf=>obtain⟨Z,c,fr,j,l,m,n,p,q⟩:=this;rw[U]at j;simp only[pB,q0]at j;obtain⟨rfl,rfl⟩:=j;refine⟨B,c,fr,u,E.trans l,m,n,p,fun i x y=> ?_⟩;exact au6};cases o<;>simp[bT]at hl;trivial
def yf(C:al G A S L w)(v:L.length<=L1.length)(n:∀b∈M,b<L.length)(N:Ext A S (aL M L) w A' S' L1 w')(D:al G A' S' L1 w'):Ext A S L w A' S' (c8 M L L1) w' where
 size:=N.size
 os:=N.os
 tape:=N.tape
 output:=N.output
 wh:=N.wh
 nw b hb hn:=N.nw b (by rw[cr];exact hb) hn
 len:=by rw[tt];exact v
 aK B hB hn:=N.aK B hB fun z=>by
  obtain⟨b,o,d,_,k,l,m⟩:=ch.rC z;exact hn ⟨b,o,d,k,l,m⟩
 da:=N.da
 up:=N.up
 down B hB:=by
  rcases N.down B hB with h|h|h
  ·exact .inl h
  ·omega
  obtain⟨b,o,d,_,k,l,m⟩:=ch.rC h;exact .inr (.inr ⟨b,o,d,k,l,m⟩)
 own B hB z:=by
  obtain⟨b,o,d,i,j,p⟩:=z
  by_cases hb:b∈M
  ·rw[gE hb (n b hb) (W0 (n b hb) v)]at i;obtain⟨E,e,U,_⟩:=tm C i (nK j);have:=N.wh b _ U;rw[p]at this;simp only[pB,q0]at this;obtain⟨rfl,rfl⟩:=this;exact⟨b,o,d,i,j,U⟩
  rw[gD hb]at i;obtain⟨c,q,e,_,k,l,m⟩:=ch.rC (N.own B hB ⟨b,o,d,i,j,p⟩);exact⟨c,q,e,k,l,m⟩
def yg(C:al G A S L w)(v:L.length<=L1.length)(n:∀b∈M,b<L.length)(U:∀(b:Nat) o,b∉M->L[b]? =some o->bT o=true)(N:Ext A S (aL M L) w A' S' L1 w')(D:al G A' S' L1 w'):al G A' S' (c8 M L L1) w':=by(have get:∀{b:Nat}{o:Ob},(c8 M L L1)[b]? =some o->(b∈M/\L[b]? =some o)\/(b∉M/\L1[b]? =some o):=by intro b o h;by_cases O:b∈M;{rw[gE O (n b O) (W0 (n b O) v)]at h;simp_all};rw[gD O]at h;simp_all);(have p:∀{b:Nat}{o:Ob}{B d:Nat},L[b]? =some o->bT o=true->S' b=some (B,d)->S b=some (B,d)/\B<w.heap.size:=by intro b o B d h x i;obtain⟨E,f,V,K⟩:=tm C h x;have:=N.wh b _ V;rw[i]at this;simp only[pB,q0]at this;obtain⟨rfl,rfl⟩:=this;exact⟨V,K⟩);(have Z:∀{b:Nat}{o:Ob}{B d:Nat},b∈M->L[b]? =some o->bT o=true->S b=some (B,d)->B<w.heap.size->¬ch S' L1 B:=by intro b o B d O h x V K z;exact tu C N O h x V (N.own B K z));(have j:∀{b:Nat}{o:Ob}{B d:Nat},b∈M->L[b]? =some o->bS o=true->S b=some (B,d)->B<w.heap.size->¬A' B:=by intro b o B d O h T V K I;(rcases N.down B I with W|W|W);{exact C.ca B W ⟨b,o,d,h,T,V⟩};{omega};exact tu C N O h (nK T) V W);refine⟨fun b o h=> ?_,fun B I z=> ?_,D.lt,fun b g o y B d R H k l i m q r=> ?_,fun b B d h=> ?_,D.gl⟩;{(rcases get h with⟨O,W⟩|⟨O,W⟩);{exact dx.frame C N O W};exact D.ob b o W};{obtain⟨b,o,d,k,l,i⟩:=z;(rcases get k with⟨O,W⟩|⟨O,W⟩);{obtain⟨s,t⟩:=p W (nK l) i;grind};exact D.ca B I ⟨b,o,d,W,l,i⟩};{(rcases get k with⟨O,s⟩|⟨O,s⟩);{obtain⟨t,u⟩:=p s (nK l) q;(rcases get i with⟨P,F⟩|⟨P,F⟩);{obtain⟨J,Q⟩:=p F m r;exact C.inj b g o y B d R H s l F m t J};(rcases VI g L.length with K|X);{have J:∃Q,L[g]? =some Q:=⟨_,v9 K⟩;obtain⟨Q,Y⟩:=J;have a:=U g Q P Y;obtain⟨ap,aw⟩:=p Y a r;exact C.inj b g o Q B d R H s l Y a t ap};cases T:bS y with| true=>exact Z O s (nK l) t u ⟨g,y,R,F,T,r⟩|false=>(cases y with| cells cs fz=>simp[bS]at T;subst T;obtain⟨a,J,c,e,fr,Q,Y,ap,aw,a0,a1⟩:=D.ob g _ F;grind|gone=>simp[bT]at m|_=>simp[bS]at T)};(rcases get i with⟨P,t⟩|⟨P,t⟩);{obtain⟨u,F⟩:=p t m r;exact Z P t m u F ⟨b,o,d,s,l,q⟩};exact D.inj b g o y B d R H s l t m q r};rw[tt];exact D.cz b B d h
def am.mono{c:dw}{args:eG}{Q T:RV->ag->Prop}(h:am P G c args L Q)(M:∀r L,Q r L->T r L):am P G c args L T:=by cases c with| fn f=>((rcases h with⟨h1,h2⟩|h);{exact .inl ⟨h1,fun A S w vs C u=>(h2 A S w vs C u).mono M⟩};exact .inr fun A S w vs C u=>let ⟨r,n,v,A',S',w',k,l⟩:=h A S w vs C u;⟨r,n,v,A',S',w',M _ _ k,l⟩)|yl b=>exact⟨h.1,fun A S w vs B d q C u U j=>let ⟨k,l⟩:=h.2 A S w vs B d q C u U j;⟨k,l.mono M⟩⟩
def am.frame{c:dw}{args:eG}{Q:RV->ag->Prop}(n:∀b∈M,b<L.length)(U:∀(b:Nat) o,b∉M->L[b]? =some o->bT o=true)(h:am P G c args (aL M L) Q):am P G c args L fun r p=>∃L1,Q r L1/\p=c8 M L L1:=by(have ret:∀{A:Nat->Prop}{S:ay}{w:World}{fr:Frame},al G A S L w->lh P G A S (aL M L) w fr Q->lh P G A S L w fr fun r p=>∃L1,Q r L1/\p=c8 M L L1:=by intro A S w fr C D c cs;obtain⟨r,L1,v,A',S',w',q,E,J,F,N⟩:=D c cs;exact arZ);cases c with| fn f=>((rcases h with⟨i,j⟩|h);{exact .inl ⟨i,fun A S w vs C u=>ret C (j A S w vs (C.mask M) u)⟩};refine .inr fun A S w vs C u=> ?_;obtain⟨r,L1,v,A',S',w',q,E,J,F,N⟩:=h A S w vs (C.mask M) u;exact arZ)|yl b=>obtain⟨⟨r,i⟩,j⟩:=h;refine⟨⟨r,(dt i s_).2⟩,fun A S w vs B d s C u V k=> ?_⟩;obtain⟨l,m⟩:=j A S w vs B d s (C.mask M) u V k;exact kg
end
end Go.Sx
