/- Part of MeaningExact. -/
import Derived.Test.YtkeiahlgcgabjaaGreatDoorP8
set_option linter.all false
set_option maxRecDepth 1000000
set_option maxHeartbeats 0
namespace Go.Sx
section
variable {P:lB} {T:aq} [aG P T] {G:az} {L:ag}
def lH(c:Int):Option Code:=if c=0 then none else if c=1 then some .ret else some (.exit (c - 2).toNat)
def IG(e:Ex):lH (pI e)=gk e:=by cases e with| normal=>rfl|ret=>rfl|exit id=>show lH ((id:Int)+2)=some (.exit id);unfold lH;rw[if_neg w_,if_neg w_];simp
def Ko(e:Ex):(pI e==0)=g1 e:=by cases e with| normal=>rfl|ret=>rfl|exit id=>show(((id:Int)+2)==0)=false;exact VO
abbrev oI(c:Int):RV:= .v (.one (.p (.vl (.int .i64 c))))
abbrev oB(c:Bool):RV:= .v (.one (.p (.vl (.bool c))))
def UE(d:Nat)(Q:RV->ag->Prop)(r:RV)(hp:ag):Prop:=∃(c:Int)(s:LR),r=oI c/\hp[d]? =some (.loop s)/\Q (oB (c==0)) (hp.set d (.loop {s with state:=if c==0 then .ready else .done,pending:=lH c}))
def am.GQ(l:bf T){f:Nat}{args:eG}{Q:RV->ag->Prop}{r:LR}{f9:Func}{fn:FuncId}{regs1:eG}{L1:ag}{r1:LR}(C:L[f]? =some (.loop r))(v:args.length=r.params.length)(s:dQ P T G (am P G) (cW P G) r.fn true r.assign ⟨gZ r.regs r.params args,L⟩ fun e N=>e= .normal/\N=⟨regs1,L1⟩)(i:L1[f]? =some (.loop r1))(j:r1.state= .ready)(R:cK fn=true)(H:nq fn=r.fn)(m:f9.results=#[.tmp 0])(h:Fin P G L1.length fn [.code r.body] ⟨regs1,L1.set f (.loop {r1 with state:= .busy})⟩ fun st=>∃x,bQ T G f9 st=some x/\UE f Q x st.hp):am P G (.yl f) args L Q:=by
 refine⟨⟨r,C⟩,fun A S w vs B d q E u U n=> ?_⟩;obtain⟨Z,V,tmps,D,z,F,I⟩:=E.ob f _ C;rw[U]at z;simp only[pB,q0]at z;obtain⟨rfl,rfl⟩:=z;rw[n]at F;simp only[pB,Obj.loop.injEq]at F;subst F;refine⟨by simp[u.1,v],fun c cs=> ?_⟩;let b:Frame:={fn:=r.fn,tmps:=#[],todo:=[],defers:=[],mode:= .run,kind:= .normal,roundOf:=some B};have o:((r.params.toArray.zip vs.toArray).foldl (fun K (x,a)=>K.setIfInBounds x a) tmps)=(r.params.zip vs).foldl (fun K (x:Tmp×Value)=>K.setIfInBounds x.1 x.2) tmps:=by rw[<- ahY];simp
 have g:Frame.round B r.fn ((r.params.toArray.zip vs.toArray).foldl (fun K (x,a)=>K.setIfInBounds x a) tmps) r.assign r.body .normal=Fr b ((r.params.zip vs).foldl (fun K (x:Tmp×Value)=>K.setIfInBounds x.1 x.2) tmps) [.code r.assign,.beginRound,.code r.body]:=by rw[o];rfl
 simp only;rw[g];have W:Marks A S L w ⟨w.heap.size,[]⟩ b.defers:=⟨[],rfl,YS,fun d X=>by cases X⟩;obtain⟨p,N,J,K,Y,M,O,ap,aw,a0,a1,a2,a_⟩:=gB (b:=b) (k:=[.beginRound,.code r.body]) (cs:=c::cs) l r.fn true r.assign _ _ s E (tb I u) rfl rfl W (vA _);obtain⟨rfl,rfl⟩:=ap;have be:Y f=some (B,d):=a2.wh f _ U;obtain⟨bo,br,bU,b1,b3,cb,cc⟩:=a1.ob f _ i;rw[be]at b3;simp only[pB,q0]at b3;obtain⟨rfl,rfl⟩:=b3;obtain⟨cd,cg⟩:=a1.ri i be cb .busy r1.pending;have ci:=zy (P:=P) (b:={b with defers:=O}) (t:=J) (k:=[.code r.body]) (cs:=c::cs) rfl cb j
 obtain⟨cl,cm,cn,ct,cv,cw,cI,cS,⟨c0,c1⟩,c2,c3,c4,dd,dh⟩:=h (b:={b with defers:=O}) (cs:=c::cs) s_ cd (a1.ey cg a0) H.symm R.symm (a_.ext cg) (by
   have i:=a2.size;simp_all)
 have dd:=fx.k8 cd (by rw[Wb];exact dd);rw[R]at c2;obtain⟨x,dl,k,dn,rfl,ds,d0⟩:=c0;rw[AM]at ds d0;have d1:k=pI cS:=by(unfold bQ at dl;rw[m]at dl;unfold io at dl;rw[R]at dl;have dl:(cl.regs.set 0 (oI (pI cS))).getD 0 bl=oI k:=by simpa[ba,lC] using dl);cases d2:cl.regs with| nil=>rw[d2]at dl;simp[bl]at dl|cons y d3=>rw[d2]at dl;simpa using dl.symm
 subst d1;have d4:ct f=some (B,d):=dd.wh f _ (cg.wh f _ be);obtain⟨d5,d_,d',en,eq,es,e2⟩:=c4.ob f _ ds;rw[d4]at eq;simp only[pB,q0]at eq;obtain⟨rfl,rfl⟩:=eq;obtain⟨e_,fd⟩:=c4.ri ds d4 es (if g1 cS then .ready else .done) (gk cS);have fr:(gk cS).isNone=g1 cS:=by cases cS<;>rfl
 have fv:(cI=[]/\gk cS=none)\/(∃fz,cI= .code .ret::fz/\gk cS=some .ret)\/∃fz fC,cI= .code (.exit fz)::fC/\exitTo fz fC=none/\gk cS=some (.exit fz):=by have:=c1 R;cases cS with| normal=>exact .inl ⟨this,rfl⟩|ret=>obtain⟨fC,j⟩:=this;exact .inr (.inl ⟨fC,j,rfl⟩)|exit fz=>obtain⟨_,fC,i,j⟩:=this;exact .inr (.inr ⟨fz,fC,i,j,rfl⟩)
 have fD:=zA (P:=P) (b:={b with defers:=cw}) (t:=cm) (c:=c) (cs:=cs) rfl rfl es fv;rw[fr]at fD;rw[IG,Ko]at d0;exact⟨_,_,.bool (g1 cS),cn,ct,_,d0,Yg aw (.head ci (c2.trans (Steps.cG fD))),bG.vl _ rfl,e_,a2.trans (cg.trans (dd.trans fd))⟩
end
end Go.Sx
