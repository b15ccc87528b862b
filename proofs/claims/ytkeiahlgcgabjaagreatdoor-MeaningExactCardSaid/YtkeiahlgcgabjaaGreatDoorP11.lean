/- Part of MeaningExact. -/
import Derived.Test.YtkeiahlgcgabjaaGreatDoorP9
import Derived.Test.YtkeiahlgcgabjaaGreatDoorP10
set_option linter.all false
set_option maxRecDepth 1000000
set_option maxHeartbeats 0
namespace Go.Sx
section
variable {P:lB} {T:aq} {G:az} {n:Nat} {fn:FuncId} {st:St} {Q:St->Prop}
def Fin.oK[aG P T](l:bf T){k:pA}{f:Operand}{params:Array Tmp}{assign body:Code}{g:FuncId}{m:eG}(x:eY f=true)(c:cL (aQ st.regs f) [.v (.one (.aI st.hp.length))]=some (.fn g,m))(h:am P G (.fn g) m (st.hp++[.loop {fn:=fn,regs:=st.regs,params:=params.toList,assign:=assign,body:=body,state:= .ready,pending:=none}]) fun _ hp=>∃r,hp[st.hp.length]? =some (.loop r)/\r.state≠.busy/\((r.pending=none/\Fin P G n fn k ⟨st.regs,hp.set st.hp.length .gone⟩ Q)\/(r.pending=some .ret/\Q ⟨st.regs,hp.set st.hp.length .gone⟩)))(R:cK fn=false:=by rfl): Fin P G n fn (.code (.rangeFunc f params assign body)::k) st Q:=by refine Fin.wp l ⟨rfl,x,?_⟩ R;rw[c];refine am.mono h ?_;rintro r hp ⟨s,i,j,o⟩;simp only[i];refine⟨j,?_⟩;rcases o with⟨o,h4⟩|⟨o,h4⟩<;>rw[o]<;>exact h4
end
section
variable {P:lB} {T:aq} {G:az} {n:Nat} {fn:FuncId} {Q:St->Prop} {z:Z}
noncomputable def oL(P:lB)(T:aq)(G:az)(m:Nat)(z:Z):Option (dw×List RV×ag):=match aE P T G m z with
 | .s a st=>match rr a st with
  |some (c,l,_,_)=>some (c,l,st.hp)
  |none=>none
 | .r ops b ws (i::_) _ st=>match la T ops i st,sF (aU ws i) st.hp.length,aU b i with
  |some (c,l,_),true,[]=>some (c,l,st.hp)
  |_,_,_=>none
 |_=>none
noncomputable def i'(P:lB)(T:aq)(G:az)(m:Nat)(z:Z)(r:RV)(hp:ag):Z:=match aE P T G m z with
 | .s a st=>match rr a st with
  |some (_,_,dst,g)=> .s g ⟨aT st.regs dst r,hp⟩
  |none=>z
 | .r ops b ws (i::is) a st=>match la T ops i st with
  |some (_,_,dst)=> .r ops b ws is a ⟨aT st.regs dst r,hp⟩
  |none=>z
 |_=>z
def FX.jg[aG P T](k:bf T)(m:Nat){c:dw}{ags:eG}{a:ag}{F:RV->ag->Prop}(R:am P G c ags a F)(U:∀r hp,F r hp->FX P T G n fn (i' P T G m z r hp) Q)(h:oL P T G m z=some (c,ags,a)):FX P T G n fn z Q:=by refine FX.a' k m ?_;unfold oL at h;unfold i' at U;generalize aE P T G m z=W at h U;cases W with| r ops b ws l d st=>(cases l with| nil=>simp at h|cons i is=>simp only at h U;split at h;{rename_i e v dst f H A;simp at h;obtain⟨rfl,rfl,rfl⟩:=h;rw[f]at U;simp only at U;unfold FX at U |-;exact DU.jg f H R U A};simp at h)|s d st=>simp only at h U;split at h;{rename_i e v dst g f;simp at h;obtain⟨rfl,rfl,rfl⟩:=h;rw[f]at U;unfold FX;exact(Fin.jg k f R fun r hp h=>FX.fa (U r hp h):Sx.Fin P G n fn d st Q)};simp at h
def DU.sd[aG P T]{ops:Array Oper}{b y:List (ak)}{i:Nat}{is:ak}{st:St}{Q:St->Prop}{c:dw}{m:eG}{dst:Option Tmp}{F:RV->ag->Prop}(h:la T ops i st=some (c,m,dst))(j:∀r hp,F r hp->∃l,hp=st.hp++l)(R:am P G c m st.hp F)(U:∀r hp,F r hp->DU P T G ops (aU b) (aU y) Q is ⟨aT st.regs dst r,hp⟩)(n:aU b i=[]:=by rfl):DU P T G ops (aU b) (aU y) Q (i::is) st:=by unfold la at h;split at h;{rename_i o z;split at h;{rename_i hw;split at h;{rename_i x;split at h;{rename_i f args hc;split at h;{rename_i M;split at h;{rename_i u A p;simp only[pB,q0]at h;obtain⟨rfl,rfl,rfl⟩:=h;refine⟨o,z,.inr (.inl ⟨hw,M,.inr n,x,?_⟩)⟩;simp only[hc];exact⟨_,_,p,am.mono R fun r hp q=>⟨by obtain⟨l,rfl⟩:=j r hp q;exact hI,U r hp q⟩⟩};simp at h};simp at h};simp at h};simp at h};simp at h};simp at h
noncomputable def rJ(P:lB)(T:aq)(G:az)(m:Nat)(z:Z):Option (dw×List RV×ag):=match aE P T G m z with
 | .r ops b ws (i::_) _ st=>match la T ops i st,aU b i with
  |some (c,l,_),[]=>some (c,l,st.hp)
  |_,_=>none
 |_=>none
def FX.sd[aG P T](k:bf T)(m:Nat){c:dw}{o:eG}{a:ag}{F:RV->ag->Prop}(R:am P G c o a F)(j:∀r hp,F r hp->∃l,hp=a++l)(U:∀r hp,F r hp->FX P T G n fn (i' P T G m z r hp) Q)(h:rJ P T G m z=some (c,o,a)):FX P T G n fn z Q:=by refine FX.a' k m ?_;unfold rJ at h;unfold i' at U;generalize aE P T G m z=W at h U;cases W with| r ops b ws l d st=>(cases l with| nil=>simp at h|cons i is=>simp only at h U;split at h;{rename_i e v dst f A;simp at h;obtain⟨rfl,rfl,rfl⟩:=h;rw[f]at U;simp only at U;unfold FX at U |-;exact DU.sd f j R U A};simp at h)|s d st=>simp at h
def Fin.mono{todo:pA}{st:St}{T:St->Prop}(h:Fin P G n fn todo st Q)(M:∀s,Q s->T s):Fin P G n fn todo st T:=by intro A S w t b cs base x B C U d V O;obtain⟨st',W,R,S',w',D,a,e,⟨i,j⟩,k⟩:=h (b:=b) (cs:=cs) x B C U d V O;exact⟨st',W,R,S',w',D,a,e,⟨M _ i,j⟩,k⟩
noncomputable def nf(P:lB)(T:aq)(G:az)(fn:FuncId)(m:Nat)(z:Z):Option (FuncId×List RV×ag):=match aE P T G m z with
 | .s (.code (.rangeFunc f params assign body)::_) st=>match eY f with
  |true=>match cL (aQ st.regs f) [.v (.one (.aI st.hp.length))]with
   |some (.fn g,l)=>some (g,l,st.hp++[.loop {fn:=fn,regs:=st.regs,params:=params.toList,assign:=assign,body:=body,state:= .ready,pending:=none}])
   |_=>none
  |false=>none
 |_=>none
noncomputable def pp(P:lB)(T:aq)(G:az)(m:Nat)(z:Z)(hp:ag):Z:=match aE P T G m z with
 | .s (_::k) st=> .s k ⟨st.regs,hp.set st.hp.length .gone⟩
 |z=>z
noncomputable def pq(P:lB)(T:aq)(G:az)(m:Nat)(z:Z)(hp:ag):Z:=match aE P T G m z with
 | .s _ st=> .s [.code .ret] ⟨st.regs,hp.set st.hp.length .gone⟩
 |z=>z
def FX.oK[aG P T](l:bf T)(m c:Nat){g:FuncId}{o:eG}{a:ag}{F:ag->Prop}(R:cK fn=false)(S:am P G (.fn g) o a fun _ L=>F L)(h:nf P T G fn m z=some (g,o,a))(O:(b7 P T G m z).length=c)(U:∀hp,F hp->∃t,hp[c]? =some (.loop t)/\t.state≠.busy/\((t.pending=none/\FX P T G n fn (pp P T G m z hp) Q)\/(t.pending=some .ret/\Q (cY (pq P T G m z hp))))):FX P T G n fn z Q:=by refine FX.a' l m ?_;unfold nf at h;unfold pp pq at U;unfold b7 at O;generalize aE P T G m z=W at h U O;cases W with| r _ _ _ _ _ _=>simp at h|s b st=>split at h;{rename_i f params assign body k ED heq;cases heq;split at h;{rename_i x;split at h;{rename_i u v d;simp at h;obtain⟨rfl,rfl,rfl⟩:=h;unfold FX;refine(Fin.oK (T:=T) l x d (am.mono S ?_) R:Sx.Fin P G n fn (.code (.rangeFunc f params assign body)::k) st Q);intro r hp M;subst O;obtain⟨t,e,i,j⟩:=U hp M;exact⟨t,e,i,j.imp (fun h=>⟨h.1,FX.fa h.2⟩) id⟩};simp at h};simp at h};simp at h
def Qc{f:Func}{st:St}{r:RV}(R:cK fn=false)(h:jp P T G fn 0 f (.s [.code .ret] st)=some r):∃t,bQ T G f st=some t/\∃y Z,bg st.hp t=some (y,Z)/\y=r:=by unfold jp at h;split at h;{rename_i t i;split at h;{rename_i y Z hz;simp at h;subst h;unfold b7 aE at hz;unfold ee aE at i;simp only[oU,iZ R]at i;exact⟨t,i,y,Z,hz,rfl⟩};simp at h};simp at h
end
attribute [irreducible] oL i' nf pp pq
end Go.Sx
namespace Go.Sx.E1
open Go.Proofs Go.Proofs.Tryz
variable [af]
noncomputable def pr(f:Func)(p:ak):Func:=match pT f p with
 | .code (.rangeFunc _ _ _ b)::_=>{f with body:=some b,results:=#[.tmp 0]}
 |_=>f
noncomputable def pt(fn:FuncId)(f:Func)(p:ak)(regs:eG):LR:=match pT f p with
 | .code (.rangeFunc _ x a b)::_=>{fn:=fn,regs:=regs,params:=x.toList,assign:=a,body:=b,state:= .ready,pending:=none}
 |_=>{fn:=fn,regs:=regs,params:=[],assign:= .skip,body:= .skip,state:= .ready,pending:=none}
def u0(l:List (Nat×RV))(N:Nat):eG:=bd N l fun _=>bl
def fD(f:Func)(p:Int×ag)(st:St):Prop:=∃x,bQ TT GG f st=some x/\x=oI p.1/\st.hp=p.2
def gU(c:Nat)(R:LR)(Q:Int->ag->Prop)(p:Int×ag):Prop:=p.2[c]? =some (.loop {R with state:= .busy})/\Q p.1 p.2
def wW(d:Nat)(R:LR)(args:eG)(L:ag)(Q:Int->ag->Prop):Prop:=∃c n,Q c n/\am prog GG (.yl d) args L (fun r M=>r=ob (c==0)/\M=n.set d (.loop {R with state:=if c==0 then .ready else .done,pending:=lH c}))
def e1{f:Nat}(fn:Func){args:eG}{L N:ag}{R:RV}(h:X L.length f (.s [.code (Bd fn)] ⟨dm fn args,L⟩) fun st=>∃r,bQ TT GG fn st=some r/\r=R/\st.hp=N)(i:fns.get f=some fn:=by kernel_rfl)(j:fn.body.isSome=true:=by kernel_rfl):am prog GG (.fn f) args L (fun r M=>r=R/\M=N):=vC _ (Q:=fun r M=>r=R/\M=N) h i j
def bP(c:dw)(args:eG)(L:ag)(Q:RV->ag->Prop):Prop:=∃r M,Q r M/\am prog GG c args L (fun y O=>y=r/\O=M)
def fC(f:Func)(p:RV×ag)(st:St):Prop:=∃r,bQ TT GG f st=some r/\r=p.1/\st.hp=p.2
def cH{f:Nat}(fn:Func){args:eG}{L:ag}{Q:RV->ag->Prop}(h:EX L.length f (fC fn) (fun _=> .s [.code (Bd fn)] ⟨dm fn args,L⟩) (fun p=>Q p.1 p.2))(i:fns.get f=some fn:=by kernel_rfl)(j:fn.body.isSome=true:=by kernel_rfl):bP (.fn f) args L Q:=by obtain⟨⟨r,M⟩,N,O⟩:=h;exact⟨r,M,N,e1 _ (O fun _=>bl) i j⟩
def wW.e{d:Nat}{R:LR}{args:eG}{L:ag}{Q:Int->ag->Prop}{T:RV->ag->Prop}(h:wW d R args L Q)(N:∀c M,Q c M->T (ob (c==0)) (M.set d (.loop {R with state:=if c==0 then .ready else .done,pending:=lH c}))):bP (.yl d) args L T:=by obtain⟨c,M,i,j⟩:=h;exact⟨_,_,N c M i,j⟩
section
variable {n:Nat} {fn:FuncId} {β:Type} {Φ:β->St->Prop} {ζ:(Nat->RV)->Z} {Q:β->Prop}
def fY(m:Nat)(c:Int)(L:ag){f:Func}{d:Nat}{R:LR}{T:Int->ag->Prop}(M:T c L)(h:∀J,ee prog TT GG fn m f (ζ J)=some (oI c):=by intro _;kernel_rfl)(o:∀J,b7 prog TT GG m (ζ J)=L:=by intro _;kernel_rfl)(x:L[d]? =some (.loop {R with state:= .busy}):=by kernel_rfl):EX n fn (fD f) ζ (gU d R T):=
 ⟨(c,L),⟨x,M⟩,fun J=>FX.res wf m (h J) fun st i j=>⟨_,i,rfl,j.trans (o J)⟩⟩
def pP{d N:Nat}{args I:eG}{L M:ag}{R:LR}{f:Func}{fn:FuncId}{U:Int->ag->Prop}(h:EX N fn (fD f) (fun _=> .s [.code (Bd f)] ⟨I,M.set d (.loop {R with state:= .busy})⟩) (gU d R U))(g:dq (CC 0) (d8 (CC 0) 100 5) 1000 R.fn true R.assign ⟨gZ R.regs R.params args,L⟩=some (.normal,⟨I,M⟩):=by kernel_rfl)(B:L[d]? =some (.loop R):=by kernel_rfl)(C:M[d]? =some (.loop R):=by kernel_rfl)(v:args.length=R.params.length:=by kernel_rfl)(A:R.state= .ready:=by kernel_rfl)(S:M.length=N:=by kernel_rfl)(V:cK fn=true:=by kernel_rfl)(G:nq fn=R.fn:=by kernel_rfl)(i:f.results=#[.tmp 0]:=by kernel_rfl)(O:Bd f=R.body:=by kernel_rfl):wW d R args L U:=by obtain⟨⟨c,n⟩,⟨y,P⟩,Q⟩:=h;subst S;have W:=Q fun _=>bl;have hC:bO.Ok (CC 0):=bO.gK.ok (prim:=prim) ⟨tok,wf,mix,funcOk,oJ,by intro _ _ _ _ _ h;cases h⟩ cJ.zero rfl;refine⟨c,n,P,?_⟩;refine am.GQ (T:=TT) wf (r:=R) (f9:=f) (fn:=fn) (regs1:=I) (L1:=M) (r1:=R) B v (fL _ (iP hC (iK hC 5) _ _ _ _ g) ?_) C A V G i ?_;{rintro e st ⟨rfl,rfl⟩;exact⟨rfl,rfl⟩};have X:=FX.fa W;rw[O]at X;refine Fin.mono X ?_;rintro st ⟨x,j,rfl,k⟩;exact⟨_,j,c,{R with state:= .busy},rfl,by rw[k];exact y,rfl,by rw[k]⟩
def pQ{d N:Nat}{args I:eG}{L O P Q:ag}{R:LR}{f:Func}{fn:FuncId}{e:Int}{t:RV}(h:EX N fn (fD f) (fun _=> .s [.code (Bd f)] ⟨I,O.set d (.loop {R with state:= .busy})⟩) (gU d R (fun c L=>c=e/\L=P)))(C:ob (e==0)=t:=by kernel_rfl)(n:P.set d (.loop {R with state:=if e==0 then .ready else .done,pending:=lH e})=Q:=by kernel_rfl)(g:dq (CC 0) (d8 (CC 0) 100 5) 1000 R.fn true R.assign ⟨gZ R.regs R.params args,L⟩=some (.normal,⟨I,O⟩):=by kernel_rfl)(B:L[d]? =some (.loop R):=by kernel_rfl)(D:O[d]? =some (.loop R):=by kernel_rfl)(v:args.length=R.params.length:=by kernel_rfl)(A:R.state= .ready:=by kernel_rfl)(S:O.length=N:=by kernel_rfl)(T:cK fn=true:=by kernel_rfl)(G:nq fn=R.fn:=by kernel_rfl)(i:f.results=#[.tmp 0]:=by kernel_rfl)(U:Bd f=R.body:=by kernel_rfl):am prog GG (.yl d) args L (fun r M=>r=t/\M=Q):=by obtain⟨_,_,⟨rfl,rfl⟩,V⟩:=pP h g B D v A S T G i U;rw[C,n]at V;exact V
def a3(m:Nat){c:dw}{l:eG}{a M:ag}{s:RV}(P:am prog GG c l a fun r L=>r=s/\L=M)(T:EX n fn Φ (fun J=>i' prog TT GG m (ζ J) s M) Q)(h:∀J,oL prog TT GG m (ζ J)=some (c,l,a):=by intro _;kernel_rfl):EX n fn Φ ζ Q:=
 T.mono fun J K p=>FX.jg wf m P akU (h J)
def qW(m c:Nat){g:FuncId}{l:eG}{a M:ag}{R:LR}(P:am prog GG (.fn g) l a fun _ L=>L=M)(T:EX n fn Φ (fun J=>pp prog TT GG m (ζ J) M) Q)(i:M[c]? =some (.loop {R with state:= .ready,pending:=none}):=by kernel_rfl)
  (h:∀J,nf prog TT GG fn m (ζ J)=some (g,l,a):=by intro _;kernel_rfl) (O:∀J,(b7 prog TT GG m (ζ J)).length=c:=by intro _;kernel_rfl) (S:cK fn=false:=by kernel_rfl):EX n fn Φ ζ Q:=
 T.mono fun J K p=>FX.oK wf m c S P (h J) (O J) (by rintro _ rfl;exact⟨_,i,s_,.inl ⟨rfl,p⟩⟩)
def sX(m c:Nat){f:Func}(r:RV){T:RV->Prop}{g:FuncId}{l:eG}{a M:ag}{R:LR}(P:am prog GG (.fn g) l a fun _ L=>L=M)(N:T r)(i:∀J,jp prog TT GG fn 0 f (pq prog TT GG m (ζ J) M)=some r:=by intro _;kernel_rfl)(j:M[c]? =some (.loop {R with state:= .done,pending:=some .ret}):=by kernel_rfl)(h:∀J,nf prog TT GG fn m (ζ J)=some (g,l,a):=by intro _;kernel_rfl)(O:∀J,(b7 prog TT GG m (ζ J)).length=c:=by intro _;kernel_rfl)(S:cK fn=false:=by kernel_rfl):EX n fn (fE f) ζ T:=by refine⟨r,N,fun J=>FX.oK wf m c S P (h J) (O J) ?_⟩;rintro _ rfl;refine⟨_,j,s_,.inr ⟨rfl,?_⟩⟩;have h4:=i J;unfold pq at h4 |-;generalize aE prog TT GG m (ζ J)=W at h4;cases W with| r _ _ _ _ _ _=>unfold jp ee aE at h4;simp at h4|s b st=>exact Qc S h4
def lT{f:Nat}(fn:Func){args:eG}{L N:ag}(h:X L.length f (.s [.code (Bd fn)] ⟨dm fn args,L⟩) fun st=>∃r,bQ TT GG fn st=some r/\st.hp=N)(i:fns.get f=some fn:=by kernel_rfl)(j:fn.body.isSome=true:=by kernel_rfl):am prog GG (.fn f) args L (fun _ M=>M=N):=vC _ h i j
def eJ(m:Nat){z:Z}{Q:St->Prop}{c:dw}{l:eG}{a:ag}{F:RV->ag->Prop}(P:am prog GG c l a F)(T:∀r L,F r L->X n fn (i' prog TT GG m z r L) Q)(h:oL prog TT GG m z=some (c,l,a):=by kernel_rfl):X n fn z Q:=FX.jg wf m P T h
def jv(m:Nat){z:Z}{f:Func}{r:RV}{L:ag}(h:ee prog TT GG fn m f z=some r)(o:b7 prog TT GG m z=L:=by kernel_rfl):X n fn z fun st=>∃r,bQ TT GG f st=some r/\st.hp=L:=FX.res wf m h fun st i j=>⟨r,i,j.trans o⟩
def fc(m:Nat){z:Z}{f:Func}{r R:RV}{L:ag}(h:ee prog TT GG fn m f z=some r)(C:r=R:=by kernel_rfl)(o:b7 prog TT GG m z=L:=by kernel_rfl):X n fn z fun st=>∃r,bQ TT GG f st=some r/\r=R/\st.hp=L:=FX.res wf m h fun st i j=>⟨r,i,C,j.trans o⟩
def UF(m:Nat){z:Z}{Q:St->Prop}{c:dw}{o:eG}{a:ag}{F:RV->ag->Prop}(P:am prog GG c o a F)(T:∀r L,F r L->X n fn (i' prog TT GG m z r L) Q)(h:rJ prog TT GG m z=some (c,o,a):=by kernel_rfl)(i:∀r hp,F r hp->∃l,hp=a++l:=by rintro _ _ ⟨_,rfl⟩;exact⟨_,rfl⟩):X n fn z Q:=FX.sd wf m P i T h
def UG(m:Nat){c:dw}{o:eG}{a M:ag}{s:RV}(P:am prog GG c o a fun r L=>r=s/\L=M)(T:EX n fn Φ (fun J=>i' prog TT GG m (ζ J) s M) Q)(h:∀J,rJ prog TT GG m (ζ J)=some (c,o,a):=by intro _;kernel_rfl)(i:∀r hp,r=s/\hp=M->∃l,hp=a++l:=by rintro _ _ ⟨_,rfl⟩;exact⟨_,rfl⟩):EX n fn Φ ζ Q:=
 T.mono fun J K p=>FX.sd wf m P i akU (h J)
def qU(m:Nat)(K:ak)(N:Nat)(a:pA)(L:List (Nat×RV))(hp:ag)(T:EX n fn Φ (fun J=> .s a ⟨bd N L J,hp⟩) Q)(hh:∀J,gL n K (b7 prog TT GG m (ζ J))=some hp:=by intro _;kernel_rfl)(c:∀J R,ho prog TT GG m n K N L R (ζ J)=some (a,bd N L R):=by intro _ _;kernel_rfl):EX n fn Φ ζ Q:=
 qK (p:=(L,hp)) m K T hh c
def bn(m:Nat)(r:RV)(M:ag){f:Func}{Q:RV×ag->Prop}(N:Q (r,M))(h:∀J,ee prog TT GG fn m f (ζ J)=some r:=by intro _;kernel_rfl)(o:∀J,b7 prog TT GG m (ζ J)=M:=by intro _;kernel_rfl):EX n fn (fC f) ζ Q:=
 ⟨(r,M),N,fun J=>FX.res wf m (h J) fun st i j=>⟨r,i,rfl,j.trans (o J)⟩⟩
noncomputable def sH(m:Nat)(z:Z)(k:Nat):RV:=(cY (aE prog TT GG m z)).regs.getD k bl
def sY(m:Nat){z:Z}{Q:St->Prop}{N:Nat}{p:List (Nat×RV)×ag}{a:pA}(T:∀J,X n fn (.s a (b9 N p J)) Q)(h:aE prog TT GG m z= .s a (b9 N p (sH m z)):=by kernel_rfl):X n fn z Q:=FX.a' wf m (by rw[h];exact T _)
def UH(m:Nat){z:Z}{Q:St->Prop}(N:Nat)(a:pA){α:Type}(I:α->Prop)(μ:α->Nat)(s:α->List (Nat×RV)×ag)(y:α)(G:I y)
  (h:∀x,I x->(∀k,I k->μ k<μ x->∀J,X n fn (.s a (b9 N (s k) J)) Q)->∀J,X n fn (.s a (b9 N (s x) J)) Q) (c:aE prog TT GG m z= .s a (b9 N (s y) (sH m z)):=by kernel_rfl):X n fn z Q:=sY m (yN I μ s h y G) c
def fe(m:Nat){N:Nat}{p:List (Nat×RV)×ag}{td:pA}(T:EX n fn Φ (fun J=> .s td (b9 N p J)) Q)(h:∀J,aE prog TT GG m (ζ J)= .s td (b9 N p (sH m (ζ J))):=by intro _;kernel_rfl):EX n fn Φ ζ Q:=by obtain⟨r,M,O⟩:=T;exact⟨r,M,fun J=>sY m O (h J)⟩
def fG(m N:Nat)(a:pA){α:Type}(I:α->Prop)(μ:α->Nat)(s:α->List (Nat×RV)×ag)(y:α)(G:I y)
  (h:∀x,I x->(∀k,I k->μ k<μ x->EX n fn Φ (fun J=> .s a (b9 N (s k) J)) Q)->EX n fn Φ (fun J=> .s a (b9 N (s x) J)) Q) (c:∀J,aE prog TT GG m (ζ J)= .s a (b9 N (s y) (sH m (ζ J))):=by intro _;kernel_rfl):EX n fn Φ ζ Q:=fe m (qN I μ s h y G) c
def UI(m c:Nat){g:FuncId}{l:eG}{a M:(Nat->RV)->ag}{R:(Nat->RV)->LR}(P:∀J,am prog GG (.fn g) l (a J) fun _ L=>L=M J)(T:EX n fn Φ (fun J=>pp prog TT GG m (ζ J) (M J)) Q)(i:∀J,(M J)[c]? =some (.loop {R J with state:= .ready,pending:=none}):=by intro _;kernel_rfl)
  (h:∀J,nf prog TT GG fn m (ζ J)=some (g,l,a J):=by intro _;kernel_rfl) (O:∀J,(b7 prog TT GG m (ζ J)).length=c:=by intro _;kernel_rfl) (S:cK fn=false:=by kernel_rfl):EX n fn Φ ζ Q:=
 T.mono fun J K p=>FX.oK wf m c S (P J) (h J) (O J) (by rintro _ rfl;exact⟨_,i J,s_,.inl ⟨rfl,p⟩⟩)
end
end Go.Sx.E1
namespace Go.Sx.E1
open Go.Proofs Go.Proofs.Tryz
def bb{P:lB}{α β:Type}:∀{s:Sem α}{f:α->Sem β}{x:α},bi P s=some x->bi P (s.bind f)=bi P (f x)
 | .pure a,f,x,h=>by simp[bi]at h;subst h;rfl
 | .program k,f,x,h=>by
  simp only[bi]at h;show bi P ((k P).bind f)=_;exact bb h
 | .load ..,_,_,h=>by simp[bi]at h
 | .store ..,_,_,h=>by simp[bi]at h
 | .new ..,_,_,h=>by simp[bi]at h
 | .shape ..,_,_,h=>by simp[bi]at h
 | .freeze ..,_,_,h=>by simp[bi]at h
 | .frozen ..,_,_,h=>by simp[bi]at h
 | .getObj ..,_,_,h=>by simp[bi]at h
 | .setObj ..,_,_,h=>by simp[bi]at h
 | .choose ..,_,_,h=>by simp[bi]at h
 | .sys ..,_,_,h=>by simp[bi]at h
 | .mark ..,_,_,h=>by simp[bi]at h
 | .halt ..,_,_,h=>by simp[bi]at h
def sZ{P:lB}{f g:Field}{β:Type}{B:Field->(Option Bool×PUnit)->Sem (ForInStep (Option Bool×PUnit))}{K:Option Bool×PUnit->Sem β}{c1 c2:Bool}{x y:β}(h:∀s,bi P (B f s)=some (if(!c1)=true then .done (some false,()) else .yield (none,())))(i:∀s,bi P (B g s)=some (if(!c2)=true then .done (some false,()) else .yield (none,())))(k:bi P (K (some false,()))=some x)(l:bi P (K (none,()))=some y): bi P ((forIn #[f,g] (none,()) B).bind K)=some (if c1 && c2 then y else x):=by rw[<- Array.forIn_toList];simp only[aeP,List.forIn_nil,Bind.bind];cases c1;{refine(bb (x:=((some false,()):Option Bool×PUnit)) ?_).trans (by simpa using k);exact(bb (h _)).trans rfl};cases c2;{refine(bb (x:=((some false,()):Option Bool×PUnit)) ?_).trans (by simpa using k);exact avF};refine(bb (x:=((none,()):Option Bool×PUnit)) ?_).trans (by simpa using l);exact avF
def t2(V A e i:Int):bi prog (Op.equalIn 10000 32 (.agg #[.int .i64 V,.int .i64 A]) (.agg #[.int .i64 e,.int .i64 i]))=some (V==e && A==i):=by exact aqo
def xT{hp:ag}{x y:Operand}{V A e j:Int}:bj prog TT .eql 32 x y (a [i V,i A]) (a [i e,i j]) hp=some (o (b (V==e && A==j)),hp):=by(have h:bi prog (do eqGuard .eql 32 x y (.agg #[.int .i64 V,.int .i64 A]) (.agg #[.int .i64 e,.int .i64 j]);binOp .eql 32 (.agg #[.int .i64 V,.int .i64 A]) (.agg #[.int .i64 e,.int .i64 j]))=some (.bool (V==e && A==j)):=by exact auv);exact art
def gC{s:ByteArray}{j:Int}(h:j.toNat<s.size):an s j=(s[j.toNat].toNat:Int):=by unfold an;exact kg
def fi{s:ByteArray}{l h j:Int}(i:0<=l)(k:0<=j)(m:j<h - l)(n:h<=s.size):an (aC s l h) j=an s (l+j):=by(have e:j.toNat<(aC s l h).size:=by simp[aC];omega);(have f:(l+j).toNat<s.size:=by omega);(have g:(l+j).toNat=l.toNat+j.toNat:=by omega);rw[gC e,gC f];congr 2;refine Eq.trans (ByteArray.getElem_extract (h:=by simpa[aC] using e)) ?_;exact kg
def vU(s:ByteArray):Nat->Int
 | 0=>0
 |k+1=>vU s k*256+an s k
def ah(s:ByteArray):Int:=vU s s.size
def Canon(s:ByteArray):Prop:=s.size=0\/an s 0≠0
def uc(s:BA):∀k,0<=vU s k
 | 0=>by simp[vU]
 |k+1=>by have:=uc s k;have:=dr s k;simp only[vU];omega
def CM(s:BA):∀k,vU s k<256^k
 | 0=>by simp[vU]
 |k+1=>by
  have:=CM s k;have:=dr s k;simp only[vU,W2];omega
def AQ{s:ByteArray}:∀{k:Nat},(∀j:Int,0<=j->j<k->an s j=0)->vU s k=0
 | 0,_=>by simp[vU]
 |k+1,h=>by
  have:=AQ (k:=k) (fun j i l=>h j i w_);have:=h k w_ w_;simp only[vU];omega
def Bw{s:ByteArray}{l:Nat}{h:Int}(i:h<=s.size):∀{m:Nat},(m:Int)<=h - l->vU s (l+m)=vU s l*256^m+vU (aC s l h) m
 | 0,_=>by simp[vU]
 |m+1,hm=>by
  have d:=Bw (s:=s) (l:=l) i (m:=m) w_;have e:=fi (s:=s) (l:=l) (h:=h) (j:=m) w_ w_ w_ i;rw[<- aaF];simp only[vU,W2,d,e]
  grind
def zR{s:ByteArray}{k:Int}(i:0<=k)(o:k<=s.size)(hz:∀j:Int,0<=j->j<k->an s j=0):ah (aC s k s.size)=ah s:=by obtain⟨n,rfl⟩:∃n:Nat,k=n:=⟨k.toNat,w_⟩;(have A:((aC s n s.size).size:Int)=s.size - n:=cp w_ w_ w_;have e:=Bw (s:=s) (l:=n) (h:=s.size) w_ (m:=(aC s n s.size).size) w_;have f:n+(aC s n s.size).size=s.size:=by omega);rw[f,AQ hz]at e;unfold ah;rw[e];simp
def CN(s:BA){k:Nat}:∀{m:Nat},k<=m->vU s k<=vU s m
 | 0,h=>by simp_all
 |m+1,h=>by
  rcases VI k (m+1) with h1|h1
  ·have:=CN s (m:=m) (by omega:k<=m);have:=uc s m;have:=dr s m;simp only[vU];omega
  grind
def AR{s:ByteArray}{k:Int}(h:0<=k)(i:k<s.size):vU s k.toNat*256+an s k<=ah s:=by(have:=CN s (k:=k.toNat+1) (m:=s.size) w_;simp only[vU]at this;have e:((k.toNat:Nat):Int)=k:=by omega);rw[e]at this;exact this
def kN(s:BA):0<=ah s:=uc s _
def uP(s:BA):ah s<256^s.size:=CM s _
def ur{s:ByteArray}(h:Canon s)(A:0<s.size):256^(s.size - 1)<=ah s:=by(have hb:an s 0≠0:=by rcases h with h|h;omega;exact h);(have:=dr s 0;have:∀m:Nat,256^m<=vU s (m+1):=by intro m;induction m with| zero=>show(1:Int)<=0*256+an s ((0:Nat):Int);grind|succ m d=>have:=dr s (m+1:Nat);rw[vU,W2];omega);(have h2:=this (s.size - 1);have e:s.size - 1+1=s.size:=by omega);rw[e]at h2;exact h2
def kS{a b:Nat}(h:a<=b):(256:Int)^a<=256^b:=by obtain⟨c,rfl⟩:∃c,b=a+c:=⟨b - a,w_⟩;have h1:(0:Int)<256^a:=acE w_;have h2:(0:Int)<256^c:=acE w_;rw[Int.pow_add];have:=Int.mul_le_mul_of_nonneg_left (show(1:Int)<=256^c by omega) (Int.le_of_lt h1);omega
def xU{s:ByteArray}{m:Nat}(h:Canon s)(P:ah s<256^m):s.size<=m:=by apply acC;intro x;exact avq
def nT{s:ByteArray}{m:Nat}(h:Canon s)(P:m<s.size):(256:Int)^m<=ah s:=by exact avq
def me{s:ByteArray}(h:s.size=0):ah s=0:=by unfold ah;rw[h];rfl
def aB:eF->Int
 | []=>0
 |d::l=>d+16777216*aB l
def cE(L:eF):Prop:=∀d∈L,0<=d/\d<16777216
def qf(L M:eF):aB (L++M)=aB L+16777216^L.length*aB M:=by induction L with| nil=>simp[aB]|cons d l e=>simp only[List.cons_append,aB,e,VP,W2];grind
def uQ{L:eF}(h:cE L):aB L<16777216^L.length:=by induction L with| nil=>simp[aB]|cons d l e=>have:=e (fun x M=>h x (by simp[M]));have:=h d s_;simp only[aB,VP,W2];omega
end Go.Sx.E1
namespace Go.Sx.E1
def y8{s:ByteArray}{k:Int}(i:0<=k)(j:k<=s.size)(h:k=s.size\/an s k≠0):Canon (aC s k s.size):=by have A:((aC s k s.size).size:Int)=s.size - k:=cp w_ w_ w_;(rcases aaL j with h2|h2);{right;rw[fi i w_ w_ w_];grind};left;omega
def bB(c:Int):Nat:=if c<32\/126<c then 0 else if 48<=c/\c<=57 then 1 else if 65<=c/\c<=90 then 2 else if 97<=c/\c<=122 then 3 else if c=32 then 5 else 6
def i1(c:Int):bB c<=6:=by unfold bB;grind
def kW{c:Int}(h:32<=c/\c<=126):1<=bB c/\bB c≠4:=by unfold bB;grind
def bU(s:ByteArray):Nat->Nat
 | 0=>0
 |k+1=>bU s k ||| 2^bB (an s k)
def bW(s:ByteArray):Nat:=bU s s.size
def oo(s:BA)(j:Nat):∀n,(bU s n).testBit j=true↔∃k:Nat,k<n/\bB (an s k)=j
 | 0=>by simp[bU]
 |n+1=>by
  simp only[bU,Nat.testBit_or,Wq,oo s j n,Nat.testBit_two_pow,XO]
  grind
def sI{k:Nat}(h:k<=6):2^k<128:=by have:2^k<=2^6:=Nat.pow_le_pow_right d_ h;omega
def mR(s:BA):∀n,bU s n<128
 | 0=>by simp[bU]
 |n+1=>aib (n:=7) (mR s n) (sI (i1 _))
def iD(x y:Int):Int:=IntKind.i64.wrap ((BitVec.ofInt 64 x ||| BitVec.ofInt 64 y).toNat:Int)
def andI(x y:Int):Int:=IntKind.i64.wrap ((BitVec.ofInt 64 x &&& BitVec.ofInt 64 y).toNat:Int)
def uR{x y:Nat}(M:x<9223372036854775808)(hy:y<9223372036854775808):iD x y=((x ||| y:Nat):Int):=by have h:(x ||| y)<2^63:=aib w_ w_;unfold iD;rw[show((BitVec.ofInt 64 (x:Int) ||| BitVec.ofInt 64 (y:Int)).toNat)=(x ||| y) from ?_];{exact g3 w_ w_};grind
def q4{x y:Nat}(M:x<9223372036854775808)(hy:y<9223372036854775808):andI x y=((x &&& y:Nat):Int):=by have h:(x &&& y)<2^63:=Nat.and_lt_two_pow _ w_;unfold andI;rw[show((BitVec.ofInt 64 (x:Int) &&& BitVec.ofInt 64 (y:Int)).toNat)=(x &&& y) from ?_];{exact g3 w_ w_};grind
def AS(c:Int):IntKind.i64.wrap (1*2^min (bB c:Int).toNat 64)=((2^bB c:Nat):Int):=by(have h:=i1 c;have h2:=sI h;have e:min (bB c:Int).toNat 64=bB c:=by omega);(have f:(2:Int)^bB c=((2^bB c:Nat):Int):=by simp);rw[e,Int.one_mul,f];generalize 2^bB c=m at h2 |-;exact g3 w_ w_
def y9{s:ByteArray}{i k v:Int}(h:i=(bU s k.toNat:Int))(C:0<=k)(P:v=(bB (an s k):Int)): iD i (IntKind.i64.wrap (1*2^min v.toNat 64))=(bU s (k+1).toNat:Int):=by subst h;subst P;have h1:=mR s k.toNat;have h2:=sI (i1 (an s k));rw[AS,uR w_ w_];rw[show(k+1).toNat=k.toNat+1 by omega];rfl
def zS{s:ByteArray}{i k:Int}(h:i=(bU s k.toNat:Int))(j:k<=s.size)(l:¬k<s.size):i=(bW s:Int):=by rw[h,show k=s.size by omega];rfl
def lV(B:eF):Int:=B.foldl (fun a b=>a*256+b) 0
def i2(B:eF):Prop:=∀b∈B,0<=b/\b<256
def gd(B:eF):(cT B).size=B.length:=by simp[cT,ByteArray.size]
def xv{B:eF}(h:i2 B){j:Nat}(s:j<B.length):an (cT B) j=B[j]:=by(have e:((j:Int)).toNat<(cT B).size:=by rw[gd];simpa using s);(rw[gC e];have hb:=h B[j] s_;have:(cT B)[((j:Int)).toNat]=UInt8.ofNat (B[j]).toNat:=by show(cT B).data[((j:Int)).toNat]=_;simp[cT]);(rw[this];have:(UInt8.ofNat (B[j]).toNat).toNat=(B[j]).toNat:=by rw[UInt8.toNat_ofNat'];omega);omega
def AT{B:eF}(h:i2 B):∀{k:Nat},k<=B.length->vU (cT B) k=lV (B.take k)
 | 0,_=>by simp[vU,lV]
 |k+1,C=>by
  have d:=AT h (k:=k) w_;rw[vU,d,xv h w_,ah4 w_];simp only[lV,List.foldl_append,aaG,List.foldl_nil]
def y_{B:eF}(h:i2 B):ah (cT B)=lV B:=by unfold ah;rw[gd,AT h (vA _),List.take_length]
def HP(B:eF)(a b c:Int):lV (B++[a,b,c])=((lV B*256+a)*256+b)*256+c:=by simp[lV,List.foldl_append]
def mw(n:Int):IntKind.u8.wrap n=n%256:=by rfl
def ie{n m:Int}(h:0<=m):n.fdiv m=n /m:=Int.fdiv_eq_ediv_of_nonneg n h
def GR{x:Int}:0<=x%256/\x%256<256:=by omega
def UJ{n:Int}(h:0<=n)(i:n<9223372036854775808):ah (cT [IntKind.u8.wrap (n.fdiv 72057594037927936),IntKind.u8.wrap (n.fdiv 281474976710656),IntKind.u8.wrap (n.fdiv 1099511627776),IntKind.u8.wrap (n.fdiv 4294967296),IntKind.u8.wrap (n.fdiv 16777216),IntKind.u8.wrap (n.fdiv 65536),IntKind.u8.wrap (n.fdiv 256),IntKind.u8.wrap (n.fdiv 1)])=n:=by rw[y_];{simp only[mw];rw[ie w_,ie w_,ie w_,ie w_,ie w_,ie w_,ie w_,ie w_];simp only[lV,aaG,List.foldl_nil];grind};intro b O;simp only[mw,V0,Yc,Yd]at O;omega
def oM{x y:ByteArray}(h:x.size=y.size)(O:∀j:Int,0<=j->j<x.size->an x j=an y j):x=y:=by apply ByteArray.ext;apply Array.ext;{exact h};intro k i l;have t:k<x.size:=i;have m:k<y.size:=l;have:=O k w_ w_;rw[gC (s:=x) (j:=k) (by simpa using t),gC (s:=y) (j:=k) (by simpa using m)]at this;apply aeY.1;exact_mod_cast this
def jN(x y:BA):(x++y).size=x.size+y.size:=aaI
def nF{x y:ByteArray}{j:Int}(h:0<=j)(i:j<x.size):an (x++y) j=an x j:=by(have e:j.toNat<(x++y).size:=by rw[jN];omega);(have f:j.toNat<x.size:=by omega);rw[gC e,gC f];exact kg
def tB{x y:ByteArray}{j:Int}(h:x.size<=j)(i:j<x.size+y.size):an (x++y) j=an y (j - x.size):=by(have e:j.toNat<(x++y).size:=by rw[jN];omega);(have f:(j - x.size).toNat<y.size:=by omega);rw[gC e,gC f];congr 2;(have g:(j - x.size).toNat=j.toNat - x.size:=by omega);refine(ByteArray.getElem_append_right w_).trans ?_;exact kg
structure c5(le mo cl:Int)(be en s:ByteArray):Prop where
 t:b8 s
 hle:le=s.size
 kD:le<=mo
 gw:mo<=200
 fW:0<=cl
 fH:cl<128
 hc:∀j:Int,0<=j->j<s.size->cl.toNat.testBit (bB (an s j))=true
 hb:be.size<=s.size
 he:en.size<=s.size
 iw:∀j:Int,0<=j->j<be.size->an be j=an s j
 fX:∀j:Int,0<=j->j<en.size->an en j=an s (s.size - en.size+j)
def mS(c:Int):ByteArray:=ByteArray.mk #[UInt8.ofNat c.toNat]
def F3(c:Int):(mS c).size=1:=rfl
def HQ{c:Int}(h:32<=c/\c<=126):an (mS c) 0=c:=by rw[gC (s:=mS c) (j:=0) (by rw[F3];decide)];show((UInt8.ofNat c.toNat).toNat:Int)=c;simp;omega
def lc(G:Int)(H:ByteArray)(c:Int):Prop:=∃f:Int,(32<=f/\f<=126)/\H=mS f/\∀d:Int,c<d->d<=126->G.toNat.testBit (bB d)=true->G.toNat.testBit (bB f)=true
def F4{G:Int}:lc G (mS 32) 126:=⟨32,d_,rfl,fun d h i=>by omega⟩
def GS{G c:Int}{H:ByteArray}(h:lc G H c):H.size=1:=by obtain⟨f,-,rfl,-⟩:=h;rfl
def IJ(n k:Nat):n &&& 2^k≠0↔n.testBit k=true:=by constructor;{intro h;cases hb:n.testBit k;{exfalso;apply h;apply ah5;grind};rfl};(intro h i;have:(n &&& 2^k).testBit k=true:=by rw[ZK,Nat.testBit_two_pow,h];simp);exact kg
def AU{G v c:Int}(h:0<=G)(i:G<128)(P:v=(bB c:Int)):andI G (IntKind.i64.wrap (1*2^min v.toNat 64))≠0↔G.toNat.testBit (bB c)=true:=by(subst P;have h2:=sI (i1 c);have e:G=(G.toNat:Int):=by omega);rw[e,AS,q4 w_ w_,ZH,<- IJ];omega
def GT{G c v:Int}(h:0<=G)(i:G<128)(e:32<=c/\c<=126)(P:v=(bB c:Int))(O:andI G (IntKind.i64.wrap (1*2^min v.toNat 64))≠0):lc G (mS c) (c - 1):=
 ⟨c,e,rfl,fun d j k l=>(AU h i P).1 O⟩
def GU{G c v:Int}{H:ByteArray}(i:0<=G)(j:G<128)(h:lc G H c)(P:v=(bB c:Int))(O:¬andI G (IntKind.i64.wrap (1*2^min v.toNat 64))≠0):lc G H (c - 1):=by obtain⟨f,T,V,h⟩:=h;refine⟨f,T,V,fun d k l m=> ?_⟩;by_cases hd:d=c;{subst hd;exact absurd ((AU i j P).2 m) O};grind
def GV(s:BA)(l h:Int):0<=((aC s l h).size:Int)/\((aC s l h).size:Int)<=s.size:=by(have:(aC s l h).size<=s.size:=by simp[aC];omega);omega
def pv(D G O:ByteArray):Prop:=(∀j:Int,0<=j->j<D.size->an O j=an D j)/\(∀j:Int,D.size<=j->j<O.size->an O j=an G 0)
def HS{D G O:ByteArray}(h:pv D G O)(T:G.size=1)(P:D.size<=O.size):pv D G (O++G):=by refine⟨fun j i k=>by rw[nF i w_];exact h.1 j i k,fun j i k=> ?_⟩;rw[jN]at k;by_cases s:j<O.size;{rw[nF w_ s];exact h.2 j i s};rw[tB w_ w_];grind
def vg{x y:ByteArray}(e:x=y)(h:(x.toList==y.toList)=false):False:=by simp_all
def HT{J O G n:Int}{D M s cur fill:ByteArray}(A:c5 J O G D M s)(x:n=s.size)(h:D.size<=cur.size)(o:pv D fill cur)(i:(cur.size:Int)=D.size\/(cur.size:Int)+M.size<=n)(k:¬(cur.size:Int)+M.size<n): aC cur (cur.size - (cur.size+M.size - n)) cur.size=aC M 0 (cur.size+M.size - n):=by have hb:=A.hb;have he:=A.he;apply oM;{have e:((aC cur (cur.size - (cur.size+M.size - n)) cur.size).size:Int)=cur.size - (cur.size - (cur.size+M.size - n)):=cp w_ w_ w_;have f:((aC M 0 (cur.size+M.size - n)).size:Int)=(cur.size+M.size - n) - 0:=cp w_ w_ w_;omega};intro j t u;have e:((aC cur (cur.size - (cur.size+M.size - n)) cur.size).size:Int)=cur.size - (cur.size - (cur.size+M.size - n)):=cp w_ w_ w_;rw[fi w_ t w_ w_,fi w_ t w_ w_];rw[o.1 _ w_ w_,A.iw _ w_ w_,A.fX _ w_ w_];grind
def IK{J O G n c:Int}{D M s P H:ByteArray}(A:c5 J O G D M s)(x:n=s.size)(T:lc G H c)(d:¬c>=32)(o:pv D H P)(h:D.size<=P.size)(i:(P.size:Int)=D.size\/(P.size:Int)+M.size<=n)(k:¬(P.size:Int)+M.size<n): c5 J O G D M (P++aC M (P.size+M.size - n) M.size):=by(have hb:=A.hb;have he:=A.he;obtain⟨f,Z,rfl,Y⟩:=T;have e:((aC M (P.size+M.size - n) M.size).size:Int)=M.size - (P.size+M.size - n):=cp w_ w_ w_;have g:((P++aC M (P.size+M.size - n) M.size).size:Int)=n:=by rw[jN];omega);(have l:∀j:Int,0<=j->j<n->(32<=an (P++aC M (P.size+M.size - n) M.size) j/\an (P++aC M (P.size+M.size - n) M.size) j<=126)/\G.toNat.testBit (bB (an (P++aC M (P.size+M.size - n) M.size) j))=true:=by intro j u v;by_cases w:j<P.size;{rw[nF u w];by_cases C:j<D.size;{rw[o.1 j u C,A.iw j u C];exact⟨A.t.2 j u w_,A.hc j u w_⟩};rw[o.2 j w_ w,HQ Z];have hd:=A.t.2 0 w_ w_;exact⟨Z,Y (an s 0) w_ w_ (A.hc 0 w_ w_)⟩};rw[tB w_ w_,fi w_ w_ w_ w_,A.fX _ w_ w_];exact⟨A.t.2 _ w_ w_,A.hc _ w_ w_⟩);have m:=A.t.1;have hle:=A.hle;refine⟨⟨w_,fun j p h=>(l j p w_).1⟩,w_,A.kD,A.gw,A.fW,A.fH,fun j p h=>(l j p w_).2,w_,w_,fun j p h=> ?_,fun j p h=> ?_⟩;{rw[nF p w_,o.1 j p h]};rw[g];by_cases w:n - M.size+j<P.size;{rw[nF w_ w,o.1 _ w_ w_,A.iw _ w_ w_,A.fX j p h];exact YJ};rw[tB w_ w_,fi w_ w_ w_ w_];exact YJ
def IL{J O G:Int}{D M s:ByteArray}(A:c5 J O G D M s):aC s 0 D.size=D:=by have hb:=A.hb;have e:((aC s 0 D.size).size:Int)=D.size - 0:=cp w_ w_ w_;refine oM w_ fun j h i=> ?_;rw[fi w_ h w_ w_,A.iw j h w_];exact YJ
def IM{J O G:Int}{D M s:ByteArray}(A:c5 J O G D M s):aC s (s.size - M.size) s.size=M:=by have hb:=A.he;have e:((aC s (s.size - M.size) s.size).size:Int)=s.size - (s.size - M.size):=cp w_ w_ w_;refine oM w_ fun j h i=> ?_;rw[fi w_ h w_ w_,A.fX j h w_]
def HU{J O G v w:Int}{D M s:ByteArray}(A:c5 J O G D M s)(h:¬andI v G=w)(P:v=(bW s:Int))(t:w=(bW s:Int)):False:=by(apply h;subst P;subst t;have i:=A.fW;have h1:=A.fH;have h2:bW s<128:=mR s s.size;have e:G=(G.toNat:Int):=by omega);rw[e,q4 w_ w_];congr 1;apply ah5;intro j;rw[ZK];cases hb:(bW s).testBit j;{rfl};obtain⟨k,C,f⟩:=(oo s j s.size).1 hb;have:=A.hc k w_ w_;grind
def uS{k:Nat}(h:1<=k)(i:k<=6)(j:k≠4):(110:Nat).testBit k=true:=by(have:k=1\/k=2\/k=3\/k=5\/k=6:=by omega);grind
def GW{G z c:Int}(i:0<=G)(j:G<128)(w:0<=z)(t:z<128)(d:c=andI (iD G z) 110): 0<=c/\c<128/\∀x:Int,32<=x/\x<=126->G.toNat.testBit (bB x)=true\/z.toNat.testBit (bB x)=true->c.toNat.testBit (bB x)=true:=by(have e:G=(G.toNat:Int):=by omega);(have k:z=(z.toNat:Int):=by omega);(have h3:(G.toNat ||| z.toNat)<2^7:=aib w_ w_;have h4:((G.toNat ||| z.toNat) &&& 110)<2^7:=Nat.and_lt_two_pow _ w_;have b:c=(((G.toNat ||| z.toNat) &&& 110:Nat):Int):=by(have o:iD G z=((G.toNat ||| z.toNat:Nat):Int):=by have:=uR (x:=G.toNat) (y:=z.toNat) w_ w_;grind);rw[d,o,show(110:Int)=((110:Nat):Int) from rfl,q4 w_ w_]);refine⟨w_,w_,fun x M h=> ?_⟩;have l:=kW M;have m:=i1 x;rw[b,ZH,ZK,Nat.testBit_or,uS l.1 m l.2];grind
def IP{J O G x I y l o c n m:Int}{D M P N s X:ByteArray}(A:c5 J O G D M s)(W:c5 x I y P N X)(z:(l=J/\J<=x)\/(l=x/\x<=J))(T:(o=O/\I<=O)\/(o=I/\O<=I))(d:c=andI (iD G y) 110)(B:0<=n)(C:n<=D.size)(E:n<=P.size)(F:∀j:Int,0<=j->j<n->an D j=an P j)(U:0<=m)(V:m<=M.size)(Y:m<=N.size)(H:∀j:Int,0<=j->j<m->an M (M.size - 1 - j)=an N (N.size - 1 - j)): ∃t,c5 l o c (aC D 0 n) (aC M (M.size - m) M.size) t:=by have e:((aC D 0 n).size:Int)=n - 0:=cp w_ w_ w_;have f:((aC M (M.size - m) M.size).size:Int)=M.size - (M.size - m):=cp w_ w_ w_;obtain⟨b,g,h⟩:=GW A.fW A.fH W.fW W.fH d;have a:=A.hle;have i:=A.kD;have k:=A.gw;have p:=A.hb;have q:=A.he;have K:=W.hle;have u:=W.kD;have Z:=W.gw;have r:=W.hb;have v:=W.he;(rcases z with⟨rfl,z⟩|⟨rfl,z⟩);{refine⟨s,A.t,A.hle,w_,w_,b,g,fun j w L=>h _ (A.t.2 j w L) (.inl (A.hc j w L)),w_,w_,fun j w L=> ?_,fun j w L=> ?_⟩;{rw[fi w_ w w_ w_,<- A.iw j w w_];exact YJ};rw[fi w_ w w_ w_,A.fX _ w_ w_];exact YJ};refine⟨X,W.t,W.hle,w_,w_,b,g,fun j w L=>h _ (W.t.2 j w L) (.inr (W.hc j w L)),w_,w_,fun j w L=> ?_,fun j w L=> ?_⟩;{rw[fi w_ w w_ w_,<- W.iw j w w_,<- F j w w_];exact YJ};rw[fi w_ w w_ w_];have:=H (m - 1 - j) w_ w_;rw[show(M.size:Int) - 1 - (m - 1 - j)=M.size - m+j by omega]at this;rw[this,W.fX _ w_ w_];exact YJ
def sf{s:ByteArray}{v:Int}(h:b8 s)(P:v=(bW s:Int)):c5 s.size s.size v s s s:=by subst P;have h2:bW s<128:=mR s s.size;refine⟨h,rfl,w_,h.1,w_,w_,fun j i k=> ?_,w_,w_,fun _ _ _=>rfl,fun j i k=>by congr 1;omega⟩;rw[ZH];exact(oo s _ s.size).2 ⟨j.toNat,w_,by rfl⟩
def bu(p:Bool)(J O G:Int)(D M:ByteArray):Prop:=if p then ∃s,c5 J O G D M s else J=1/\O=0/\G=0/\D=⟨#[]⟩/\M=⟨#[]⟩
def KA{x y:ByteArray}(h:(x.toList==y.toList)=true):x=y:=toList_inj.1 (Vw.1 h)
open Classical in
noncomputable def fy(L:List ByteArray)(s:ByteArray):Int:=if s∈L then(L.findIdx (fun x=>decide (x=s)):Int) else -1
def GX{L:List ByteArray}{s:ByteArray}(h:∀j:Nat,j<L.length->L.getD j default≠s):fy L s= -1:=by unfold fy;grind
def IQ{L:List ByteArray}{s:ByteArray}{k:Nat}(C:k<L.length)(h:∀j:Nat,j<k->L.getD j default≠s)(V:L.getD k default=s):fy L s=k:=by(have e:L[k]=s:=by rw[<- V];simp[C]);unfold fy;rw[if_pos (by grind)];congr 1;rw[List.findIdx_eq C];grind
def HV{L:List ByteArray}{s:ByteArray}{k:Int}(i:0<=k)(h:∀j:Nat,(j:Int)<k->L.getD j default≠s)(x:((L.getD k.toNat default).toList==s.toList)=false):∀j:Nat,(j:Int)<k+1->L.getD j default≠s:=by grind
def GY{L:List ByteArray}{s:ByteArray}{k:Int}(i:0<=k)(l:k<L.length)(h:∀j:Nat,(j:Int)<k->L.getD j default≠s)(x:((L.getD k.toNat default).toList==s.toList)=true):k=fy L s:=by rw[IQ (k:=k.toNat) w_ (fun j t=>h j w_) (KA x)];omega
def IR{L:List ByteArray}{s:ByteArray}{k:Int}(i:¬k<L.length)(h:∀j:Nat,(j:Int)<k->L.getD j default≠s): -1=fy L s:=by rw[GX (fun j t=>h j w_)]
end Go.Sx.E1
namespace Go.Sx.E1
def HW{C F:List ByteArray}{k v:Int}(i:0<=k)(h:∀j:Nat,(j:Int)<k->0<=fy C (F.getD j default))(P:v=fy C (F.getD k.toNat default))(hp:0<=v):∀j:Nat,(j:Int)<k+1->0<=fy C (F.getD j default):=by grind
end Go.Sx.E1
namespace Go.Sx.E1
def IT{C F:List ByteArray}{k q:Int}(h:∀j:Nat,(j:Int)<k->0<=fy C (F.getD j default))(i:0<=q)(l:q<k):0<=fy C (F.getD q.toNat default):=h q.toNat w_
end Go.Sx.E1
namespace Go.Sx.E1
open Go.Proofs Go.Proofs.Tryz
def eT(c:ByteArray)(s k:Nat):Int:=vU c k - vU c s*256^(k - s)
def ut(c:BA)(s:Nat):eT c s s=0:=by simp[eT]
def zT(c:BA){s k:Nat}(h:s<=k):eT c s (k+1)=eT c s k*256+an c k:=by(have e:k+1 - s=(k - s)+1:=by omega);unfold eT;rw[e,vU,W2];grind
def xV(c:BA)(s:Nat):∀m:Nat,0<=eT c s (s+m)/\eT c s (s+m)<256^m
 | 0=>by simp[ut]
 |m+1=>by
  have d:=xV c s m;have hb:=dr c (s+m:Nat);rw[<- aaF,zT c w_,W2];omega
def zU(c:BA){a k d:Int}(i:0<=a)(j:a<=k)(h:d=eT c a.toNat k.toNat):d*256+an c k=eT c a.toNat (k+1).toNat:=by(have e:(k+1).toNat=k.toNat+1:=by omega);(have f:((k.toNat:Nat):Int)=k:=by omega);rw[e,zT c w_,f,h]
def Bx(c:BA){a k:Int}(h:0<=a)(i:a<=k)(j:k<=a+3):0<=eT c a.toNat k.toNat/\eT c a.toNat k.toNat<16777216:=by(have e:k.toNat=a.toNat+(k - a).toNat:=by omega);have:=xV c a.toNat (k - a).toNat;rw[<- e]at this;have h3:=kS (a:=(k - a).toNat) (b:=3) w_;omega
def AV(c:BA){e d a:Int}(i:0<e)(s:a=if 0>e - 3 then 0 else e - 3)(h:d=eT c a.toNat e.toNat):vU c e.toNat=vU c (e - 3).toNat*16777216+d:=by subst h;by_cases h3:0>e - 3;{(have f:a=0:=by rw[if_pos h3]at s;exact s);(have g:(e - 3).toNat=0:=by omega);subst f;simp[eT,g,vU]};(have f:a=e - 3:=by rw[if_neg h3]at s;exact s);(subst f;have g:e.toNat - (e - 3).toNat=3:=by omega);simp only[eT,g];omega
def HX{c s:ByteArray}{e d a k:Int}(C:k=e)(f:ah c=ah s)(V:e=c.size)(i:0<e)(t:a=if 0>e - 3 then 0 else e - 3)(h:d=eT c a.toNat k.toNat):ah s=vU c (e - 3).toNat*16777216^[d].length+aB [d]:=by(rw[C]at h;have:=AV c i t h;rw[<- f];unfold ah;have g:e.toNat=c.size:=by omega);rw[g]at this;simp[aB];omega
def of_next{c s:ByteArray}{q d a k:Int}{L:eF}(C:k=q)(x:ah s=vU c q.toNat*16777216^L.length+aB L)(i:0<q)(t:a=if 0>q - 3 then 0 else q - 3)(h:d=eT c a.toNat k.toNat):ah s=vU c (q - 3).toNat*16777216^(L++[d]).length+aB (L++[d]):=by rw[C]at h;have:=AV c i t h;rw[qf,x,this];simp only[WJ,VP,WY,W2,aB,X_];grind
def kP{L:eF}{d:Int}(h:cE L)(i:0<=d/\d<16777216):cE (L++[d]):=by intro x M;(rcases aaV.1 M with h2|h2);{exact h x h2};exact kg
def qw{d:Int}(i:0<=d/\d<16777216):cE [d]:=kP (L:=[]) (fun _ h=>by simp at h) i
def jG:cE []:=fun _ h=>by simp at h
def AW{c s:ByteArray}{q:Int}{L:eF}(x:ah s=vU c q.toNat*16777216^L.length+aB L)(h:¬q>0):aB L=ah s:=by(have e:q.toNat=0:=by omega);rw[x,e];simp[vU]
def vY(n:Nat):(16777216:Int)^n=256^(3*n):=by rw[Int.pow_mul];congr 1
def KB{c s:ByteArray}{q:Int}{L:eF}(d:ah c=ah s)(h:Canon c)(M:q=c.size - 3*L.length)(i:1<=L.length)(j: -2<=q)(k:¬q>0)(x:aB L=ah s):L.length=0\/16777216^(L.length - 1)<=aB L:=by right;rw[x,<- d,vY];have:=ur h w_;have:=kS (a:=3*(L.length - 1)) (b:=c.size - 1) w_;omega
def Qk{c s:ByteArray}(h:Canon c)(d:ah c=ah s)(P:ah s<4722366482869645213696):(c.size:Int)<=9:=by have:=xU (m:=9) h w_;omega
def oq{V:eF}{n:Nat}(h:V.length<=n):(0:Int)=V.getD n 0:=by exact kg
def q5(L:eF)(k:Nat):aB (L.take (k+1))=aB (L.take k)+16777216^k*L.getD k 0:=by(rcases VI k L.length with h|h);{rw[ah4 h,qf,WZ,Nat.min_eq_left w_];simp[aB,List.getD,h]};rw[<- oq h,Wt w_,Wt h];simp
def nM{U V M:eF}{k b e w:Int}(f:Int)(h:0<=k)(x:(M.length:Int)=k)(n:aB M=aB (U.take k.toNat) - aB (V.take k.toNat)+b*16777216^k.toNat)(t:w=V.getD k.toNat 0)(W:e=U.getD k.toNat 0 - b - w+f*16777216): aB (M++[e])=aB (U.take (k+1).toNat) - aB (V.take (k+1).toNat)+f*16777216^(k+1).toNat:=by(have g:(k+1).toNat=k.toNat+1:=by omega);(have i:M.length=k.toNat:=by omega);rw[g,q5,q5,qf,i,n,W,t,W2];simp only[aB];grind
def F5{U V M:eF}{k b:Int}(h:cE U)(P:cE V)(C:k=U.length)(n:V.length<=U.length)(Q:aB V<=aB U)(x:(M.length:Int)=k)(O:b=0\/b=1)(T:cE M)(o:aB M=aB (U.take k.toNat) - aB (V.take k.toNat)+b*16777216^k.toNat):aB M=aB U - aB V:=by(have e:k.toNat=U.length:=by omega);rw[e,Wt (vA _),Wt n]at o;have h1:=uQ T;grind
def c_{L:eF}(n:Nat)(h:cE L):0<=L.getD n 0/\L.getD n 0<16777216:=by(rcases VI n L.length with h1|h1);{(have:L.getD n 0=L[n]:=by simp[h1]);rw[this];exact h _ s_};exact kg
def xw{L:eF}(h:cE L)(n:Nat):0<=L.getD n 0/\L.getD n 0<16777216:=c_ n h
def tC{U V:eF}{k b e w:Int}(f:Int)(C:k=0)(O:b=0)(t:w=V.getD k.toNat 0)(W:e=U.getD k.toNat 0 - b - w+f*16777216):
  aB [e]=aB (U.take (k+1).toNat) - aB (V.take (k+1).toNat)+f*16777216^(k+1).toNat:=
 nM (U:=U) (V:=V) (M:=[]) (k:=k) (b:=b) (e:=e) (w:=w) f w_ VO (by subst C O;simp[aB]) t W
def uu{a b:Nat}(h:a<=b):(16777216:Int)^a<=16777216^b:=by rw[vY,vY];exact kS w_
def KC{U V:eF}(N:cE U)(n:V.length=0\/16777216^(V.length - 1)<=aB V)(h:aB V<=aB U):V.length<=U.length:=by(rcases n with h1|h1);{omega};have:=uQ N;apply acC;intro x;have:=uu (a:=U.length) (b:=V.length - 1) w_;omega
def toList_eq(b:BA):b.toList=b.data.toList:=by unfold ByteArray.toList;rw[rp b _ 0 [] rfl];simp
def l4(b:BA):b.toList.length=b.size:=by rw[toList_eq];rfl
def uV:List UInt8->Int
 | []=>0
 |a::l=>(a.toNat:Int)*256^l.length+uV l
def nU:∀l:List UInt8,0<=uV l/\uV l<256^l.length
 | []=>by simp[uV]
 |a::l=>by
  have d:=nU l;have s:=a.toNat_lt;simp only[uV,VP,W2];have h1:(a.toNat:Int)*256^l.length<=255*256^l.length:=acB w_ w_
  grind
def IU(l:List UInt8)(a:UInt8):uV (l++[a])=uV l*256+a.toNat:=by induction l with| nil=>simp[uV]|cons b l d=>simp only[List.cons_append,uV,d,WJ,VP,WY,W2,X_];grind
def CP(s:BA):∀k:Nat,k<=s.size->vU s k=uV (s.toList.take k)
 | 0,_=>by simp[vU,uV]
 |k+1,h=>by
  have hl:k<s.toList.length:=by rw[l4];omega
  rw[vU,CP s k w_,ah4 hl,IU]
  congr 1
  have e:((k:Int)).toNat<s.size:=by omega
  rw[gC e]
  congr 2
  simp only[toList_eq];rfl
def mi(s:BA):ah s=uV s.toList:=by unfold ah;rw[CP s _ (vA _),Wt (by rw[l4];omega)]
def uv:∀{x y:List UInt8},x.length=y.length->(Op.bytesLess x y=true↔uV x<uV y)
 | [],[],_=>by simp[Op.bytesLess,uV]
 |a::x,b::y,h=>by
  have hl:x.length=y.length:=by simpa using h
  have d:=uv hl;have hx:=nU x;have hy:=nU y;simp only[Op.bytesLess,uV,Wq,Cz,XO,Vw,d,hl];rw[hl]at hx;have hp:(0:Int)<256^y.length:=acE w_
  rcases aia a.toNat b.toNat with h1|h1|h1
  ·have:a<b:=h1;have h2:=acB (show(a.toNat:Int)+1<=b.toNat by omega) (Int.le_of_lt hp)
   grind
  ·have e:a=b:=aeY.1 h1
   simp_all
  have h2:=acB (show(b.toNat:Int)+1<=a.toNat by omega) (Int.le_of_lt hp);rw[Int.add_mul]at h2;constructor
  ·rintro(h|⟨h,_⟩)
   ·have:a.toNat<b.toNat:=h;omega
   simp_all
  omega
 | [],_::_,h=>by simp at h
 |_::_,[],h=>by simp at h
def HY{c d s t:ByteArray}(A:¬(c.size:Int)≠d.size)(i:ah c=ah s)(j:ah d=ah t)(h:Op.bytesLess c.toList d.toList=true):ah s<ah t:=by rw[<- i,<- j,mi,mi];exact(uv (by rw[l4,l4];omega)).1 h
def KD{c d s t:ByteArray}(i:ah c=ah s)(j:ah d=ah t)(h:(c.toList==d.toList)=true):ah s=ah t:=by rw[<- i,<- j,mi,mi,Vw.1 h]
def Bz:∀{x y:List UInt8},x.length=y.length->uV x=uV y->x=y
 | [],[],_,_=>rfl
 |a::x,b::y,h,he=>by
  have hl:x.length=y.length:=by simpa using h
  have hx:=nU x;have hy:=nU y;rw[hl]at hx;have hp:(0:Int)<256^y.length:=acE w_;simp only[uV,hl]at he
  rcases aia a.toNat b.toNat with h1|h1|h1
  ·have h2:=acB (show(a.toNat:Int)+1<=b.toNat by omega) (Int.le_of_lt hp)
   grind
  ·have e:a=b:=aeY.1 h1;subst e;rw[Bz hl w_]
  have h2:=acB (show(b.toNat:Int)+1<=a.toNat by omega) (Int.le_of_lt hp)
  grind
 | [],_::_,h,_=>by simp at h
 |_::_,[],h,_=>by simp at h
def HZ{c d s t:ByteArray}(A:¬(c.size:Int)≠d.size)(i:ah c=ah s)(j:ah d=ah t)(h:Op.bytesLess c.toList d.toList=false)(V:(c.toList==d.toList)=false):ah t<ah s:=by(rw[<- i,<- j,mi,mi];have hl:c.toList.length=d.toList.length:=by rw[l4,l4];omega);(have n1:¬uV c.toList<uV d.toList:=fun o=>by rw[(uv hl).2 o]at h;simp at h);(have n:uV c.toList≠uV d.toList:=fun o=>by rw[Vw.2 (Bz hl o)]at V;simp at V);omega
def zV{c d s t:ByteArray}(T:Canon d)(i:ah c=ah s)(j:ah d=ah t)(h:(c.size:Int)<d.size):ah s<ah t:=by have:=uP c;have:=nT (s:=d) (m:=c.size) T w_;omega
variable [af]
def I0:Extern.find f560=some Extern.BytealgIndexByte.indexByte:=by kernel_rfl
def I1:(Extern.findNext f560).isNone=true:=by kernel_rfl
def I2:Extern.find f531=some Extern.BytealgCount.count:=by kernel_rfl
def I3:(Extern.findNext f531).isNone=true:=by kernel_rfl
def Vy:Extern.find f555=some Extern.AbiNoEscape.same:=by kernel_rfl
def Vz:(Extern.findNext f555).isNone=true:=by kernel_rfl
def I4:Extern.find f556=some (Extern.BytealgMakeNoZero.makeNoZero #[3] #[172]):=by kernel_rfl
def I5:(Extern.findNext f556).isNone=true:=by kernel_rfl
def I6:Extern.find f527=some Extern.BytealgIndex.index:=by kernel_rfl
def I7:(Extern.findNext f527).isNone=true:=by kernel_rfl
def z'{f:FuncId}{fn:Func}{e:Array Value->Sem Value}{args:Array Value}{w:World}(T:prog.funcs[f]? =some fn)(O:fn.body=none) (x:fn.name≠ "runtime.NumGoroutine") (i:Extern.find fn=some e) (j:(Extern.findNext fn).isNone=true): (callFunc f args).run prog w=(do pure (.value (<- e args)):Sem Next).run prog w:=by have h:=ah8.1 j;simp only[callFunc,Sem.run_bind];exact kg
def lI(x:ByteArray)(c:Int):Int:=match (List.range x.size).find? fun i=>x[i]! ==UInt8.ofNat c.toNat with
 |some i=>i
 |none=> -1
def Lj(a:ByteArray)(c:Int):Extern.BytealgIndexByte.indexByte #[.string a,.int .u8 c]=pure (goInt (lI a c)):=by unfold lI;show(match (List.range a.size).find? fun i=>a[i]! ==UInt8.ofNat c.toNat with| some i=>(pure (goInt i):Sem Value)|none=>pure (goInt (-1)))=_;exact WX
def wA(x:ByteArray)(c:Int):Int:=x.foldl (fun(n:Int) y=>if y==UInt8.ofNat c.toNat then n+1 else n) ((0:Nat):Int)
def VX(a:ByteArray)(c:Int):Extern.BytealgCount.count #[.string a,.int .u8 c]=pure (goInt (wA a c)):=rfl
def wB{f:FuncId}{fn:Func}{e:Array Value->Sem Value}{vs:List Value}{r:Value}(T:prog.funcs[f]? =some fn)(O:fn.body=none) (x:fn.name≠ "runtime.NumGoroutine") (h:Extern.find fn=some e) (i:(Extern.findNext fn).isNone=true) (C:∀A S w,al GG A S [] w->(e vs.toArray).run prog w= .ok r w) (B:single r=true):aR prog GG f (vs.map atR) (·=atR r):=by(refine .inr fun A S w l Y V=> ?_;have y:l=vs:=by apply Wr;intro k;cases D:vs[k]? with| none=>rw[List.getElem?_eq_none_iff]at D |-;rw[V.1];simpa using D|some v=>obtain⟨u,h,i⟩:=V.2 k (atR v) (by simp[D]);rw[h];cases i;rfl);subst y;refine⟨atR r,[],r,A,S,w,⟨atR r,[],rfl,rfl⟩,?_,bG.vl _ B,Y,Ext.refl⟩;rw[z' T O x h i];simp[C A S w Y]
def CW(x:ByteArray)(y:Int):aR prog GG 560 [atR (.string x),atR (.int .u8 y)] (·=atR (goInt (lI x y))):=
 wB (vs:=[.string x,.int .u8 y]) Tryz.func560 rfl (funcOk 560 _ k_).2 I0 I1 (fun A S w h=>by show(Extern.BytealgIndexByte.indexByte #[.string x,.int .u8 y]).run _ _=_;rw[Lj];rfl) rfl
def QK(x:ByteArray)(y:Int):aR prog GG 531 [atR (.string x),atR (.int .u8 y)] (·=atR (goInt (wA x y))):=
 wB (vs:=[.string x,.int .u8 y]) Tryz.func531 rfl (funcOk 531 _ k_).2 I2 I3 (fun A S w h=>by rfl) rfl
def D9(x y:ByteArray):Int:=match (List.range (x.size+1 - y.size)).find? fun i=>x.extract i (i+y.size)==y with
 |some i=>i
 |none=> -1
def AZ(s t:String)(a b:Value):Sem Value:=do
  let a <- Extern.Bytes.bytesOf a
  let b <- Extern.Bytes.bytesOf b
  if b.size<2 || (b.size:Int)>(<- Extern.BytealgIndex.maxLen) then
   unsupported (.noEntry s)
  if a.size>=2^32 - 15 then
   unsupported (.noEntry t)
  match (List.range (a.size+1 - b.size)).find? fun i=>a.extract i (i+b.size)==b with
  |some i=>pure (goInt i)
  |none=>pure (goInt (-1))
def H9(a b:Value):∃s t,Extern.BytealgIndex.index #[a,b]=AZ s t a b:=⟨_,_,rfl⟩
def CX(x y:ByteArray)(i:2<=y.size)(T:(y.size:Int)<=af.m)(M:x.size<1000):aR prog GG 527 [atR (.string x),atR (.string y)] (·=atR (goInt (D9 x y))):=by(refine wB (vs:=[.string x,.string y]) Tryz.func527 rfl (funcOk 527 _ k_).2 I6 I7 (fun A S w h=> ?_) rfl;have z:=(h.gl 0 [.int .i64 af.m] rfl).2 0 _ rfl;have j:(Extern.BytealgIndex.maxLen).run prog w= .ok af.m w:=by(have u:∀s,(prog.globals.findIdx? fun g=>g.name==s)=some 0->(globalAddr s).run prog w= .ok ⟨0,0,none⟩ w:=fun s B=>by simp only[globalAddr,Sem.run_bind];simp[B]);unfold Extern.BytealgIndex.maxLen;simp only[Sem.run_bind];rw[u];{simp only[Result.andThen_ok,run_load,z.1,asInt,asIntOf];simp};kernel_rfl);(have hb:(x.size:Nat)<2^32 - 15:=by(have:(2:Nat)^32=4294967296:=by decide);omega);(have v:¬(x.size>=2^32 - 15):=by omega);(have k:¬(y.size<2):=by omega);(have t:¬((y.size:Int)>af.m):=by omega);obtain⟨C,D,E⟩:=H9 (.string x) (.string y);rw[E,AZ];simp only[Extern.Bytes.bytesOf,Sem.run_bind,Sem.run_pure,Result.andThen_ok,j,k,t,decide_false,Bool.or_self,Vp,w4,v];unfold D9;exact WX
def CY(x:RV)(L:ag):am prog GG (.fn 555) [x] L (fun r n=>r=x/\n=L):=by refine .inr fun A S w k Y V=> ?_;obtain⟨v,vs,rfl,h,i⟩:=V.dc;obtain rfl:=i.dR;refine⟨x,L,v,A,S,w,⟨rfl,rfl⟩,?_,h,Y,Ext.refl⟩;rfl
def xx(b:Nat):∀(n t:Nat)(acc:Array Value),(Extern.BytealgMakeNoZero.digits n t acc).size=acc.size+n
 | 0,t,acc=>by rfl
 |n+1,t,acc=>by simp[Extern.BytealgMakeNoZero.digits,xx b n];omega
def A0(s t:String)(q:Question)(n:Int):Sem Value:=do
   let .slice elem <- underlying 172|stuck s
   if(n:Int)<0 || (n:Int)>2^48 then runtimePanic (.error t)
   let cap <- choose (.appendCap (n:Int).toNat 0 elem)
   askRoom cap
   let bytes <- choose q
   let a <- newRow elem (Extern.BytealgMakeNoZero.digits cap bytes #[])
   pure (.slice (some a) (n:Int).toNat cap)
def Lk(n:Int):∃s t q,Extern.BytealgMakeNoZero.makeNoZero #[3] #[172] #[.int .i64 n]=A0 s t q n/\∀w:World,(choose q).run prog w= .ok (w.tape w.drawn q) {w with drawn:=w.drawn+1}:=⟨_,_,_,rfl,fun _=>rfl⟩
def CZ(n:Nat)(y:n<=1000)(L:ag):am prog GG (.fn 556) [atR (.int .i64 n)] L (fun r o=>r= .v (.one (.ad L.length 0 n 1))/\o=L++[.tc 5 [] true]):=by(refine .inr fun A S w k Y V=> ?_;obtain⟨v,vs,rfl,h,j⟩:=V.dc;obtain rfl:=j.dR;cases h;have:=tok;have hu:(underlying 172).run prog w= .ok (.slice 5) w:=bp (T:=TT) k_;have l:¬((n:Int)<0):=by omega);(have m:¬((n:Int)>2^48):=by(have:(2:Int)^48=281474976710656:=by decide);omega);let cap:=n+w.tape w.drawn (.appendCap n 0 5)%(2^63 - n);obtain⟨s,t,q,z,M⟩:=Lk n;let d:=w.tape (w.drawn+1) q;(have B:(Extern.BytealgMakeNoZero.makeNoZero #[3] #[172] #[.int .i64 n]).run prog w= .ok (.slice (some ⟨w.heap.size,0,none⟩) n cap) (bF {w with drawn:=w.drawn+1+1} (.cells (Extern.BytealgMakeNoZero.digits cap d #[]) 5)):=by(rw[z,A0];simp only[Sem.run_bind,hu,Result.andThen_ok,l,m,decide_false,Bool.or_self,Vp,w4,Sem.run_pure,ZH];have Z:∀w',(askRoom cap).run prog w'= .ok () w':=by intro w';unfold askRoom;split<;>rfl);have o:(choose (.appendCap n 0 5)).run prog w= .ok cap {w with drawn:=w.drawn+1}:=rfl;simp only[o,Result.andThen_ok,Z,M,newRow,Sem.run_bind,run_newObj,Sem.run_pure];rfl);have C:al GG A S L {w with drawn:=w.drawn+1+1}:=(Y.drew).drew;have N:Ext A S L w A S L {w with drawn:=w.drawn+1+1}:=Ext.drew.trans Ext.drew;obtain⟨S',u,D,E⟩:=x' (cs:=[]) (c:=Extern.BytealgMakeNoZero.digits cap d #[]) C 5 (Xq _) (fun i x z=>by simp at z);refine⟨.v (.one (.ad L.length 0 n 1)),L++[.tc 5 [] true],_,A,S',_,⟨rfl,rfl⟩,?_,⟨w.heap.size,0,0,cap,u,rfl,aeN ..,fun _=>⟨rfl,_,5,(0,0),eL {w with drawn:=w.drawn+1+1} _,?_⟩⟩,D,N.trans E⟩;{rw[z' Tryz.func556 rfl (funcOk 556 _ k_).2 I4 I5];exact kg};rw[xx d];simp
def C0:RV->Option Int
 | .v (.one (.p (.vl (.int .u8 c))))=>some c
 |_=>none
def sL(g:ByteArray->Int->Int):eG->Option RV
 | [x,y]=>match jq x,C0 y with
  |some x,some y=>some (atR (goInt (g x y)))
  |_,_=>none
 |_=>none
def mV(f:FuncId)(args:eG):Option RV:=match Nat.beq f 560 with
 |true=>sL lI args
 |false=>match Nat.beq f 531 with
  |true=>sL wA args
  |false=>prim f args
def A1{g:ByteArray->Int->Int}{f:FuncId}(z:∀x y,aR prog GG f [atR (.string x),atR (.int .u8 y)] (·=atR (goInt (g x y)))){args:eG}{r:RV}(h:sL g args=some r):aR prog GG f args (·=r):=by unfold sL at h;split at h;{split at h;{rename_i x y a b hx hy;simp at h;subst h;unfold jq at hx;unfold C0 at hy;split at hx;{simp at hx;subst hx;split at hy;{simp at hy;subst hy;exact z _ _};simp at hy};simp at hx};simp at h};simp at h
def uW:∀f args r,mV f args=some r->aR prog GG f args (·=r):=by intro f args r h;unfold mV at h;split at h;{rename_i T;have:=Wv T;subst this;exact A1 CW h};split at h;{rename_i T;have:=Wv T;subst this;exact A1 QK h};exact oJ f args r h
def pC(f:FuncId)(args:eG)(hp:ag):Option (RV×ag):=match Nat.beq f 555 with
 |true=>match args with
  | [x]=>some (x,hp)
  |_=>none
 |false=>match Nat.beq f 556 with
  |true=>match args with
   | [.v (.one (.p (.vl (.int .i64 (.ofNat n)))))]=>match Nat.ble n 1000 with
    |true=>some (.v (.one (.ad hp.length 0 n 1)),hp++[.tc 5 [] true])
    |false=>none
   |_=>none
  |false=>none
def o7:∀f args hp r R,pC f args hp=some (r,R)->am prog GG (.fn f) args hp fun y n=>y=r/\n=R:=by intro f args hp r R h;unfold pC at h;split at h;{rename_i T;have:=Wv T;subst this;split at h;{simp at h;obtain⟨rfl,rfl⟩:=h;exact CY _ _};simp at h};split at h;{rename_i T;have:=Wv T;subst this;split at h;{split at h;{rename_i hn;simp at h;obtain⟨rfl,rfl⟩:=h;exact CZ _ (aaK hn) _};simp at h};simp at h};simp at h
noncomputable def CD:bO:={P:=prog,T:=TT,G:=GG,func:=fun f=>fns.get f,own:=sG,val:=k9 aM 0 mV,ext:=pC}
def co{f:FuncId}{args:eG}{r:RV}(h:h_ (d8 CD 30000 200) f args=some r):aR prog GG f args (·=r):=
 aR.g6 (C:=CD) (bO.gK.ok (prim:=mV) ⟨tok,wf,mix,funcOk,uW,o7⟩ cJ.zero rfl) h
def EG:CD.Ok:=bO.gK.ok (prim:=mV) ⟨tok,wf,mix,funcOk,uW,o7⟩ cJ.zero rfl
noncomputable def o8(f:FuncId)(args:eG):Option RV:=match Nat.beq f 206 with
 |true=>u' CD (d8 CD 30000 200) 30000 206 args
 |false=>mV f args
def A2:∀f args r,o8 f args=some r->aR prog GG f args (·=r):=by intro f args r h;unfold o8 at h;split at h;{rename_i T;have:=Wv T;subst this;exact GP EG (iK EG 200) h};exact uW f args r h
noncomputable def CE:bO:={P:=prog,T:=TT,G:=GG,func:=fun f=>fns.get f,own:=sG,val:=k9 aM 0 o8,ext:=pC}
def pU{f:FuncId}{args:eG}{r:RV}(h:h_ (d8 CE 30000 200) f args=some r):aR prog GG f args (·=r):=
 aR.g6 (C:=CE) (bO.gK.ok (prim:=o8) ⟨tok,wf,mix,funcOk,A2,o7⟩ cJ.zero rfl) h
def Ll(h:(2:Int)<=af.m):aR prog GG 527 [o (sv ⟨#[97,62,61,45,49,48,48,48]⟩),o (sv ⟨#[62,61]⟩)] (fun r=>r=o (i 1)):=
 CX ⟨#[97,62,61,45,49,48,48,48]⟩ ⟨#[62,61]⟩ d_ h d_
def Lm(h:(2:Int)<=af.m):aR prog GG 527 [o (sv ⟨#[98,62,61,53]⟩),o (sv ⟨#[62,61]⟩)] (fun r=>r=o (i 1)):=
 CX ⟨#[98,62,61,53]⟩ ⟨#[62,61]⟩ d_ h d_
def Ln:aR prog GG 510 [o (sv ⟨#[62,61,45,49,48,48]⟩),o (.p (.vl (.int .u8 62)))] (fun r=>r=o (i 0)):=co k_
def Lo:aR prog GG 510 [o (sv ⟨#[62,61]⟩),o (.p (.vl (.int .u8 62)))] (fun r=>r=o (i 0)):=co k_
def c'{n:Int}(h:0<=n)(i:n<18446744073709551616):IntKind.u64.wrap n=n:=by exact agz
def tn(k:Int):Int:=([1,10,100,1000,10000,100000,1000000]:eF).getD k.toNat 1
def ln(k:Int):Int:=([31,28,31,30,31,30,31,31,30,31,30,31]:eF).getD k.toNat 31
def rv{k:Int}(h:0<=k)(i:k<=6):1<=tn k/\tn k<=1000000:=by(have:k=0\/k=1\/k=2\/k=3\/k=4\/k=5\/k=6:=by omega);rcases this with rfl|rfl|rfl|rfl|rfl|rfl|rfl<;>decide
def I8{k:Int}(h:0<=k)(i:k<=11):28<=ln k/\ln k<=31:=by(have:k=0\/k=1\/k=2\/k=3\/k=4\/k=5\/k=6\/k=7\/k=8\/k=9\/k=10\/k=11:=by omega);rcases this with rfl|rfl|rfl|rfl|rfl|rfl|rfl|rfl|rfl|rfl|rfl|rfl<;>decide
def iT{t e g N:Nat}{k:Int}{j:IntKind}{hp:ag}(z:TT.au t=some (.array N e))(A:a6 TT e=some 1)(h:0<=k)(i:k<N): a5 TT t (.v (.one (.p (.vl (.pointer (some ⟨g,0,none⟩)))))) (.v (.one (.p (.vl (.int j k))))) hp=some (.v (.one (.p (.vl (.pointer (some ⟨g,k.toNat,none⟩))))),hp):=by simp[a5,z,A,em,nY,h,i]
def l6{t:Nat}{k:Int}{hp:ag}(A:a6 TT t=some 1)(x:ej TT t=some false)(h:0<=k)(j:k<=6): a8 TT GG t (.v (.one (.p (.vl (.pointer (some ⟨1,k.toNat,none⟩)))))) hp=some (o (i (tn k)),hp):=by(have:k=0\/k=1\/k=2\/k=3\/k=4\/k=5\/k=6:=by omega);rcases this with rfl|rfl|rfl|rfl|rfl|rfl|rfl<;>(simp only[a8,dO,A,x];rfl)
def y'{t:Nat}{k:Int}{hp:ag}(A:a6 TT t=some 1)(x:ej TT t=some false)(h:0<=k)(j:k<=11): a8 TT GG t (.v (.one (.p (.vl (.pointer (some ⟨6,k.toNat,none⟩)))))) hp=some (o (i (ln k)),hp):=by(have:k=0\/k=1\/k=2\/k=3\/k=4\/k=5\/k=6\/k=7\/k=8\/k=9\/k=10\/k=11:=by omega);rcases this with rfl|rfl|rfl|rfl|rfl|rfl|rfl|rfl|rfl|rfl|rfl|rfl<;>(simp only[a8,dO,A,x];rfl)
def za{n s:Int}(h:aP n s=true): -1000000000000000<=n/\n<=1000000000000000:=by simp[aP]at h;omega
def zb{n s:Int}(h:aP n s=true):0<=s/\s<=6:=by simp[aP]at h;omega
def lp{n s:Int}(i:0<=s)(j:s<=6)(x: -1000000000000000<=n)(k:n<=1000000000000000)(h:s=0\/¬n.tmod 10=0):aP n s=true:=by simp only[aP,Cz,Wq,XO,Vw,bne_iff_ne];exact⟨i,j,x,k,h⟩
section
variable {t:lA} {x y:Operand} {a b:Int} {hp:ag} {j:IntKind}
end
def EH{n:Int}:IntKind.u8.wrap n=n%256:=by simp[IntKind.wrap,IntKind.bits,IntKind.signed]
def D_{n:Int}:IntKind.u32.wrap n=n%4294967296:=by simp[IntKind.wrap,IntKind.bits,IntKind.signed]
def D'{n:Int}:IntKind.u64.wrap n=n%18446744073709551616:=by simp[IntKind.wrap,IntKind.bits,IntKind.signed]
def aO{P:Prop}(h:P:=by first| omega| (simp(disch:=omega) only [EH,D_,D',AI,vB];omega)|(simp(disch:=omega) only [EH,D_,D',AI,vB]at*;omega)):P:=h
def wrap_u32{n:Int}(h:0<=n)(i:n<4294967296):IntKind.u32.wrap n=n:=by exact agz
def Vo{n:Int}:0<=IntKind.u8.wrap n/\IntKind.u8.wrap n<=255:=by exact akh
def nV{n:Int}:0<=IntKind.u32.wrap n/\IntKind.u32.wrap n<=4294967295:=by exact akh
def l7{n:Int}:0<=IntKind.u64.wrap n/\IntKind.u64.wrap n<=18446744073709551615:=by exact akh
def pL:eF:=[1,10,100,1000,10000,100000,1000000,10000000,100000000,1000000000,10000000000,100000000000,1000000000000,10000000000000,100000000000000,1000000000000000,10000000000000000,100000000000000000,1000000000000000000,10000000000000000000]
def pn(k:Int):Int:=pL.getD k.toNat 0
def QR{g t:Nat}{vs:List Value}{k:Nat}{v:Value}{hp:ag}(A:a6 TT t=some 1)(x:ej TT t=some false)(h:GG g=some vs)(C:vs[k]? =some v)(i:single v=true):a8 TT GG t (.v (.one (.p (.vl (.pointer (some ⟨g,k,none⟩)))))) hp=some (.v (.one (.p (.vl v))),hp):=by simp[a8,dO,A,x,fo,h,Hz C,gg]
def F9{t:Nat}{k:Int}{hp:ag}(A:a6 TT t=some 1)(x:ej TT t=some false)(h:0<=k)(i:k<=19): a8 TT GG t (.v (.one (.p (.vl (.pointer (some ⟨9,k.toNat,none⟩)))))) hp=some (.v (.one (.p (.vl (.int .u64 (pn k))))),hp):=by(have C:k.toNat<pL.length:=by show _<20;omega);refine QR A x (vs:=pL.map fun n=> .int .u64 n) rfl ?_ rfl;rw[VJ,v9 C];simp[pn,VS,v9 C]
def oe(x:Nat):1<=(ByteArray.mk (List.map UInt8.ofNat [x]).toArray).size/\(ByteArray.mk (List.map UInt8.ofNat [x]).toArray).size<=1:=by simp[ByteArray.size]
def s4(x:Nat):(ByteArray.mk (List.map UInt8.ofNat [x]).toArray).size=1:=by simp[ByteArray.size]
def g2(s:BA)(l h:Int):0<=(aC s l h).size/\(aC s l h).size<=s.size:=by simp only[aC,ByteArray.size_extract];omega
def Aa(a b:BA):a.size+b.size<=(a++b).size/\(a++b).size<=a.size+b.size:=by simp[aaI]
def et:ak:=[48,48,48,49,48,50,48,51,48,52,48,53,48,54,48,55,48,56,48,57,49,48,49,49,49,50,49,51,49,52,49,53,49,54,49,55,49,56,49,57,50,48,50,49,50,50,50,51,50,52,50,53,50,54,50,55,50,56,50,57,51,48,51,49,51,50,51,51,51,52,51,53,51,54,51,55,51,56,51,57,52,48,52,49,52,50,52,51,52,52,52,53,52,54,52,55,52,56,52,57,53,48,53,49,53,50,53,51,53,52,53,53,53,54,53,55,53,56,53,57,54,48,54,49,54,50,54,51,54,52,54,53,54,54,54,55,54,56,54,57,55,48,55,49,55,50,55,51,55,52,55,53,55,54,55,55,55,56,55,57,56,48,56,49,56,50,56,51,56,52,56,53,56,54,56,55,56,56,56,57,57,48,57,49,57,50,57,51,57,52,57,53,57,54,57,55,57,56,57,57]
def s5:ak:=[48,49,50,51,52,53,54,55,56,57,97,98,99,100,101,102,103,104,105,106,107,108,109,110,111,112,113,114,115,116,117,118,119,120,121,122]
def gV:ak:=[0,1,2,2,3,3,3,3,4,4,4,4,4,4,4,4,5,5,5,5,5,5,5,5,5,5,5,5,5,5,5,5,6,6,6,6,6,6,6,6,6,6,6,6,6,6,6,6,6,6,6,6,6,6,6,6,6,6,6,6,6,6,6,6,7,7,7,7,7,7,7,7,7,7,7,7,7,7,7,7,7,7,7,7,7,7,7,7,7,7,7,7,7,7,7,7,7,7,7,7,7,7,7,7,7,7,7,7,7,7,7,7,7,7,7,7,7,7,7,7,7,7,7,7,7,7,7,7,8,8,8,8,8,8,8,8,8,8,8,8,8,8,8,8,8,8,8,8,8,8,8,8,8,8,8,8,8,8,8,8,8,8,8,8,8,8,8,8,8,8,8,8,8,8,8,8,8,8,8,8,8,8,8,8,8,8,8,8,8,8,8,8,8,8,8,8,8,8,8,8,8,8,8,8,8,8,8,8,8,8,8,8,8,8,8,8,8,8,8,8,8,8,8,8,8,8,8,8,8,8,8,8,8,8,8,8,8,8,8,8,8,8,8,8,8,8,8,8,8,8,8,8,8,8,8,8]
def ff(l:ak):ByteArray:=⟨(l.map UInt8.ofNat).toArray⟩
def iY(l:ak):(ff l).size=l.length:=by simp[ff,ByteArray.size]
def cC(k:Int):Int:=an (ff et) k
def b_(k:Int):Int:=an (ff gV) k
def F_{l:ak}{p:Int->Prop}(h:∀x∈l,p (UInt8.ofNat x).toNat){k:Int}(C:k.toNat<l.length):p (an (ff l) k):=by(have hx:(ff l)[k.toNat]? =some (UInt8.ofNat (l[k.toNat])):=by(have A:k.toNat<(ff l).size:=by rw[iY];exact C);rw[getElem?_pos (ff l) k.toNat A];show some ((List.map UInt8.ofNat l).toArray[k.toNat]'(by simpa using C))=_;simp);simp only[an,hx];exact h _ (aaN C)
def iU{k:Int}(h:0<=k)(i:k<=255):0<=b_ k/\b_ k<=8:=F_ (p:=fun x=>0<=x/\x<=8) d_ (by show _<256;omega)
section
variable {t:lA} {hp:ag} {j:IntKind}
def fN{k:Int}(z:TT.au t=some .string)(h:0<=k)(i:k<=199):cD prog TT t (.v (.one (.p (.vl (vs et))))) (.v (.one (.p (.vl (.int j k))))) hp=some (.v (.one (.p (.vl (.int .u8 (cC k))))),hp):=kM (s:=ff et) z h (by rw[iY];show _<(200:Int);omega)
def iV{k:Int}(z:TT.au t=some .string)(h:0<=k)(i:k<=255):cD prog TT t (.v (.one (.p (.vl (vs gV))))) (.v (.one (.p (.vl (.int j k))))) hp=some (.v (.one (.p (.vl (.int .u8 (b_ k))))),hp):=kM (s:=ff gV) z h (by rw[iY];show _<(256:Int);omega)
def H_{l h:Int}(z:TT.au t=some .string)(j:0<=l)(k:l<=h)(m:h<=200):aZ prog TT t (.v (.one (.p (.vl (vs et))))) (some (o (i l))) (some (o (i h))) none hp=some (o (sv (aC (ff et) l h)),hp):=kL (s:=ff et) z j k (by rw[iY];exact m)
def H'{l h:Int}(z:TT.au t=some .string)(j:0<=l)(k:l<=h)(m:h<=36):aZ prog TT t (.v (.one (.p (.vl (vs s5))))) (some (o (i l))) (some (o (i h))) none hp=some (o (sv (aC (ff s5) l h)),hp):=kL (s:=ff s5) z j k (by rw[iY];exact m)
end
def Ia{x:Int}(h:0<=x)(i:x<=64):0<=(x*78913).fdiv 262144/\(x*78913).fdiv 262144<=19:=by rw[Int.fdiv_eq_ediv_of_nonneg _ d_];omega
def dA(x:Int):rK:=[.vl (.int .u8 x)]
def fj{t:lA}{b k:Nat}{v:Int}{L:eF}{hp:ag}(A:a6 TT t=some 1)(O:hp[b]? =some (.cells (pc (L.flatMap dA)) false))(C:k<L.length): cf TT t (.v (.one (.ref b k))) (.v (.one (.p (.vl (.int .u8 v))))) hp=some (bl,hp.set b (.cells (pc ((L.set k v).flatMap dA)) false)):=by(have e:∀(L:eF),pc (L.flatMap dA)=L.map fun n=>LV.p (.vl (.int .u8 n)):=by intro L;induction L with| nil=>rfl|cons x l d=>simp only[XP,dA,pc,YR,VZ,acD]at d |-;rw[d];rfl);(have f:eM (L.map fun n=>LV.p (.vl (.int .u8 n))) k [.p (.vl (.int .u8 v))]=(L.set k v).map fun n=>LV.p (.vl (.int .u8 n)):=by exact aj2);(rw[e]at O;have hl:k+1<=(L.map fun n=>LV.p (.vl (.int .u8 n))).length:=by simp;omega);exact akx
def l8{a:Int}(h:0<=a):0<=a.tdiv 10/\a.tdiv 10<=a:=by rw[vB h];omega
def ST{y:Int}(h:0<=y)(V:y<18446744073709551616):(0<=y.tdiv 100000000/\y.tdiv 100000000<18446744073709551616)/\(0<=((y.tmod 100000000).tmod 10000).tdiv 100*2/\((y.tmod 100000000).tmod 10000).tdiv 100*2<=198)/\(0<=((y.tmod 100000000).tmod 10000).tmod 100*2/\((y.tmod 100000000).tmod 10000).tmod 100*2<=198)/\ (0<=((y.tmod 100000000).tdiv 10000).tdiv 100*2/\((y.tmod 100000000).tdiv 10000).tdiv 100*2<=198)/\(0<=((y.tmod 100000000).tdiv 10000).tmod 100*2/\((y.tmod 100000000).tdiv 10000).tmod 100*2<=198):=by(rw[vB h,AI h];have h1:0<=y%100000000:=by omega);(rw[AI h1,vB h1];have h2:0<=y%100000000%10000:=by omega);(have h3:0<=y%100000000 /10000:=by omega);rw[AI h2,vB h2,AI h3,vB h3];omega
def fq(st:eF->Int->eF)(cl:Int->Bool)(lo hi k z:Int):Nat->Int->eF->eF
 | 0,_,B=>B
 |n+1,j,B=>if j - k<=hi then
   if j=z then(if lo<=j - k then st B j else B) else if cl j then fq st cl lo hi k z n (j+1) (if lo<=j - k then st B j else B) else(if lo<=j - k then st B j else B)
  else B
section
variable {st:eF->Int->eF} {cl:Int->Bool} {lo hi k z j:Int} {B T:eF} (h:fq st cl lo hi k z (z - j+1).toNat j B=T)
include h
def og(i:¬j - k<=hi):B=T:=by subst h;cases (z - j+1).toNat<;>simp[fq,i]
def qy(i:j<=z):fq st cl lo hi k z ((z - (j+1)+1).toNat+1) j B=T:=by rw[<- h];congr 1;omega
def nO(i:j<=z)(l:j - k<=hi)(m:j=z\/cl j=false)(n:lo<=j - k):st B j=T:=by exact atA
def nQ(i:j<=z)(l:j - k<=hi)(m:j=z\/cl j=false)(n:¬lo<=j - k):B=T:=by exact atA
def zc(i:j<=z)(l:j - k<=hi)(m:¬j=z)(n:cl j=true)(o:lo<=j - k):fq st cl lo hi k z (z - (j+1)+1).toNat (j+1) (st B j)=T:=by exact avR
def zd(i:j<=z)(l:j - k<=hi)(m:¬j=z)(n:cl j=true)(o:¬lo<=j - k):fq st cl lo hi k z (z - (j+1)+1).toNat (j+1) B=T:=by exact avR
end
def ze{st:eF->Int->eF}{cl:Int->Bool}{lo hi k z:Int}{I:eF->Prop}(A:∀B j,I B->k<=j->j<=z->I (st B j)):∀(n:Nat)(j:Int)(B:eF),I B->k<=j->j<=z->I (fq st cl lo hi k z n j B)
 | 0,j,B,hB,h1,h2=>hB
 |n+1,j,B,hB,h1,h2=>by
  have a:I (if lo<=j - k then st B j else B):=by split;exact A B j hB h1 h2;exact hB
  unfold fq;split
  ·split
   ·exact a
   split
   ·exact ze A n (j+1) _ a w_ w_
   exact a
  exact hB
def uy{t e:lA}{k:Int}{j P:IntKind}{i0:TypeInfo}{hp:ag}(h:TT.au t=some (.slice e))(i:TT.info e=some i0)(l:zeroOf TT e=some [.p (I_ 0)])(hz:i0.size=1)(B:i0.bytes=8)(m:0<=k/\k<=1000000): eC TT t (.v (.one (.p (.vl (.int j k))))) (.v (.one (.p (.vl (.int P k))))) hp=some (.v (.one (.ad hp.length 0 k.toNat 1)),hp++[.cells (pc ((List.replicate k.toNat (0:Int)).flatMap aj)) false]):=by(have f:pc ((List.replicate k.toNat (0:Int)).flatMap aj)=(List.replicate k.toNat [LV.p (I_ 0)]).flatten:=by induction k.toNat with| zero=>rfl|succ n d=>simp only[List.replicate_succ,XP,ah1,pc,YR]at d |-;rw[d];rfl);(have C:=m.2;have m:=m.1;have D:roomy k.toNat i0.bytes=true:=by simp[roomy,B];omega);simp only[eC,h,i,l,em,hz,D,f];simp[m]
def SU(n:Nat){t e:lA}{k:Int}{j P:IntKind}{i0:TypeInfo}{hp:ag}(h:TT.au t=some (.slice e))(i:TT.info e=some i0)(l:zeroOf TT e=some [.p (I_ 0)])(hz:i0.size=1)(B:i0.bytes=8)(m:0<=k/\k<=1000000)(x:hp.length=n:=by kernel_rfl):
  eC TT t (.v (.one (.p (.vl (.int j k))))) (.v (.one (.p (.vl (.int P k))))) hp=some (.v (.one (.ad n 0 k.toNat 1)),hp++[.cells (pc ((List.replicate k.toNat (0:Int)).flatMap aj)) false]):=x ▸ uy h i l hz B m
def cy(z:Int)(A:eF):Prop:=∀x∈A,-1<=x/\x<=z
def cy.rep{z:Int}(n:Nat)(h:0<=z):cy z (List.replicate n 0):=fun x M=>by rw[(List.mem_replicate.1 M).2];omega
def cy.set{z:Int}{A:eF}{v:Int}(k:Nat)(h:cy z A)(i: -1<=v)(j:v<=z):cy z (A.set k v):=fun x M=>by
 rcases List.mem_or_eq_of_mem_set M with h3|rfl
 ·exact h x h3
 omega
def cy.get{z:Int}{A:eF}{k:Nat}(h:cy z A)(C:k<A.length): -1<=A.getD k 0/\A.getD k 0<=z:=h _ (by rw[VS,v9 C];exact aaN C)
structure Pc where
 c:Int
 lo:Int
 hi:Int
 t:ByteArray
 ok:(0<=lo/\lo<=1000)/\(0<=hi/\hi<=1000)/\(t.size:Int)<=200
instance:Inhabited Pc:=⟨⟨0,0,0,⟨#[]⟩,d_⟩⟩
def lq(e:Pc):rK:=[.vl (.int .i64 e.c),.vl (.int .i64 e.lo),.vl (.int .i64 e.hi),.vl (.string e.t)]
instance:cZ lq 4:=⟨fun _=>rfl⟩
def uJ(J:Nat->RV)(l:List (Nat×RV))(N:Nat):eG:=bd N l J
noncomputable def _root_.Go.Proofs.f1000488:Func:=pr f488 [1,1,1,0,1,0,0,1,0,0,1,0,1,0,0,1,1,0,0,1,1,1,0]
def C2(x:PV)(s:ByteArray)(N:Nat)(q p:Int)(e:Pc):List (Nat×RV):=[(0,o (.p x)),(1,o (.p (.vl (.string s)))),(5,o (.ref 0 0)),(7,o (i q)),(8,o (.ref 1 0)),(9,o (.ref 4 0)),(37,o (i (N:Int))),(38,o (i p)),(47,a [i e.c,i e.lo,i e.hi,.p (.vl (.string e.t))]),(48,o (.p (.vl (.string s)))),(49,o (i p)),(50,o (.fn 581 [(5,0),(6,0),(7,0)]))]
noncomputable def eb(x:PV)(s:ByteArray)(N:Nat)(q p:Int)(e:Pc)(J:Nat->RV):LR:=pt 488 f488 [1,1,1,0,1,0,0,1,0,0,1,0,1,0,0,1,1,0,0,1,1,1,0] (uJ J (C2 x s N q p e++[(10,u),(51,u)]) 67)
def gy(A:eF)(p:Int)(B:eF)(j:Int):eF:=B.set (0+p.toNat*1) (if A.getD j.toNat 0>B.getD p.toNat 0 then A.getD j.toNat 0 else B.getD p.toNat 0)
def Ac{t e:lA}{k:Int}{j P:IntKind}{i0:TypeInfo}{zero:lW}{hp:ag}(h:TT.au t=some (.slice e))(i:TT.info e=some i0)(l:zeroOf TT e=some zero)(hz:i0.size=1)(H:zero.length=1)(B:decide (i0.bytes<=16)=true)(m:0<=k/\k<=1000000): eC TT t (.v (.one (.p (.vl (.int j 0))))) (.v (.one (.p (.vl (.int P k))))) hp=some (.v (.one (.ad hp.length 0 0 1)),hp++[C_ []]):=by(have C:=m.2;have m:=m.1;have hb:=aaY B;have D:roomy k.toNat i0.bytes=true:=by simp[roomy];have:k.toNat*i0.bytes<=1000000*16:=Nat.mul_le_mul w_ hb;omega);simp only[eC,h,i,l,em,hz,D,H];simp[m]
end Go.Sx.E1
