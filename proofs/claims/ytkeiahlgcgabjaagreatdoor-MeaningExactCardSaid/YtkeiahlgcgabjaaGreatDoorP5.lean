/- Part of MeaningExact. -/
import Derived.Test.YtkeiahlgcgabjaaGreatDoorP4
set_option linter.all false
set_option maxRecDepth 1000000
set_option maxHeartbeats 0
namespace Go.Sx
section
variable {G:az} {A A':Nat->Prop} {S S':ay} {L L':ag} {w w':World} {n s:Nat}
def n6{l:ag}{i j:Nat}{x y:Ob}(h:(l.set i x)[j]? =some y):(j=i/\y=x)\/(j≠i/\l[j]? =some y):=by grind
def c7.k7(C:al G A S L w)(x:S s=none)(Q:n<=s)(F:Ob)(o:Obj)(d:Nat):
  c7 n A S L w A (S.put s (w.heap.size,d)) (L.set s F) (bF w o) where
 size:=by simp[bF]
 os:=rfl
 tape:=rfl
 output:=rfl
 wh b p hp:=by rw[ay.dU _ _ (fun e=>by simp_all)];exact hp
 nw b hb h:=by rw[ay.dU _ _ w_];exact h
 len:=by simp
 aK B hB _:=ga w o hB
 da B c e fr hc:=⟨c,⟨fr,by rw[ga w o (dg hc)];exact hc⟩,rfl⟩
 up _ h:=h
 down _ h:= .inl h
 own B hB z:=by
  obtain⟨b,M,R,i,j,k⟩:=z
  rcases n6 i with⟨rfl,_⟩|⟨h4,h5⟩
  ·simp_all
  exact⟨b,M,R,h5,j,by rwa [ay.dU _ _ h4]at k⟩
def al.k7(C:al G A S L w)(y:S s=none)(K:s<L.length)(F:Ob)(o:Obj)(d:Nat)(Y:dx A (S.put s (w.heap.size,d)) (bF w o) s F):
  al G A (S.put s (w.heap.size,d)) (L.set s F) (bF w o) where
 ob b x hb:=by
  rcases n6 hb with⟨rfl,rfl⟩|⟨j,h5⟩
  ·exact Y
  refine dx.ext C (c7.k7 (n:=0) C y (Xq _) F o d) (C.ob b x h5) fun z B R a=> ?_;obtain⟨Z,e,D,k,l⟩:=(C.ob b x h5).live z;exact atx
 ca B I E:=by
  obtain⟨b,M,R,m,p,q⟩:=E
  rcases n6 m with⟨rfl,_⟩|⟨j,h5⟩
  ·simp at q;have:=C.lt B I;omega
  exact C.ca B I ⟨b,M,R,h5,p,by rwa [ay.dU _ _ j]at q⟩
 lt B I:=by have:=C.lt B I;simp[bF];omega
 inj b f x r B d1 e H hb hm O z m p:=by
  rcases n6 hb with⟨rfl,rfl⟩|⟨j,h5⟩<;>rcases n6 O with⟨rfl,rfl⟩|⟨t,u⟩
  ·exact H rfl
  ·rw[ay.dU _ _ t]at p;simp at m;obtain⟨Z,R,D,k,l⟩:=(C.ob f r u).live z;exact kg
  ·rw[ay.dU _ _ j]at m;simp at p;have:=ch.lt C ⟨b,x,d1,h5,hm,m⟩;omega
  rw[ay.dU _ _ j]at m;rw[ay.dU _ _ t]at p;exact C.inj b f x r B d1 e H h5 hm u z m p
 cz b B R h:=by
  by_cases hb:b=s
  ·exact VO
  exact avh
 gl g vs J:=by
  obtain⟨m,p⟩:=C.gl g vs J;refine⟨m,fun i v N=> ?_⟩;obtain⟨q,j⟩:=p i v N;refine⟨?_,j⟩;unfold World.cell? at*;rw[ga w o (C.lt g m)];exact q
end
section
variable {P:lB} {T:aq} [aG P T] {G:az} {A:Nat->Prop} {S:ay} {L:ag} {w:World} {n s:Nat}
def tv(B:al G A S L w)(y:S s=none)(K:s<L.length){cs:lW}{vs:Array Value}(e:lA)(C:bh A S w cs vs.toList): (newRow e vs).run P w= .ok ⟨w.heap.size,0,none⟩ (bF w (.cells vs e))/\ al G A (S.put s (w.heap.size,0)) (L.set s (.cells cs false)) (bF w (.cells vs e)):=by refine⟨by rfl,B.k7 y K _ _ 0 ?_⟩;have hl:=C.1;simp at hl;refine⟨w.heap.size,0,vs,e,(0,0),ay.dG _ _ _,eL w _,w_,fun i _ h=>by simp at h,fun h=>by simp at h,fun i x z=> ?_⟩;obtain⟨v,j,k⟩:=C.2 i x z;exact⟨v,by simpa using j,B.rel (c7.k7 (n:=0) B y (Xq _) (.cells cs false) (.cells vs e) 0) k⟩
def ES(B:al G A S L w)(x:S s=none)(K:s<L.length){t:TypeId}{j:Nat}{y:List (Nat×RV)}{vs:List (Nat×Value)}{b o n z:Nat}{F:Ob}(h:jz T t j y []=some (.v (.one (.ad b o n z)),[F]))(C:y.map (·.1)=vs.map (·.1))(D:aN A S w (y.map (·.2)) (vs.map (·.2))): ∃v w',(Instr.buildSlice t j vs.toArray).run P w= .ok v w'/\aD A (S.put s (w.heap.size,0)) w' (.v (.one (.ad s 0 n z))) v/\al G A (S.put s (w.heap.size,0)) (L.set s F) w'/\∀k,k<=s->c7 k A S L w A (S.put s (w.heap.size,0)) (L.set s F) w':=by unfold jz at h;split at h;{rename_i e hu;split at h;{rename_i W zero r hz;split at h;{rename_i hb;split at h;{(rename_i cs U;simp at h;obtain⟨⟨rfl,rfl,rfl,rfl⟩,rfl⟩:=h;obtain⟨M,E,H⟩:=iM (P:=P) hz;have V:M.cells.size=W:=by have:=(H (A:=A) (S:=S) (w:=w)).1;simp at this;omega);let base:Array Value:=(Array.range (j*W)).map (fun i=>(if j*W=0 then #[] else M.cells)[i%(if j*W=0 then(#[]:Array Value) else M.cells).size]!);(have f:base.toList=(List.replicate j M.cells.toList).flatten:=by show((Array.range (j*W)).map _).toList=_;by_cases l:j*W=0;{(simp only[l,if_true];have:j=0\/M.cells.toList=[]:=by(rcases Nat.mul_eq_zero.1 l with h|h);{exact .inl h};simp_all);(rcases this with h|h);all_goals simp_all};simp only[l,if_false];rw[<- V];exact p_ M.cells j);obtain⟨u,q,I⟩:=re (cv:=base) U C D (by rw[f];exact ql H j);obtain⟨m,p⟩:=tv (P:=P) B x K e I;refine⟨.slice (some ⟨w.heap.size,0,none⟩) j j,_,?_,?_,p,fun k Q=>c7.k7 B x Q _ _ 0⟩;{(have Q:¬(j*W>2^24):=by omega);have N:Instr.fill (fun i=>some (i*W,W)) ((Array.range (j*W)).map (fun i=>(if j*W=0 then #[] else M.cells)[i%(if j*W=0 then(#[]:Array Value) else M.cells).size]!)) vs=some u:=q;simp only[Instr.buildSlice,Sem.run_bind,bp hu,Result.andThen_ok,dV r,Sem.run_ite,Q,if_false,Sem.run_pure,E];by_cases l:j*W=0;all_goals simp_all};(refine⟨w.heap.size,0,0,j,ay.dG _ _ _,s_,vA _,fun _=>⟨s_,u,e,(0,0),eL w _,?_⟩⟩;have h1:=I.1;simp at h1;have h2:cs.length=j*W:=by rw[tj U];have:=hb.2;simp[this]);omega};simp at h};simp at h};simp at h};simp at h
def gm(T:aq)(ρ:Operand->RV)(o:Oper)(s:Nat):Option (RV×Ob):=
 match o.op with
 | .alloc t=>match zeroOf T t with
  |some cs=>some (.v (.one (.ref s 0)),.cells cs false)
  |none=>none
 | .box _ x=>match gi (ρ x) with
  |some cs=>some (.v (.one (.ref s 0)),.cells cs false)
  |none=>none
 | .buildSlice t len parts=>match jz T t len (parts.toList.map fun p=>(p.1,ρ p.2)) []with
  |some (.v (.one (.ad _ _ n z)),[ob])=>some (.v (.one (.ad s 0 n z)),ob)
  |_=>none
 |_=>none
def Sa(P:lB)(G:az)(A:Nat->Prop)(S:ay)(L:ag)(w:World)(s:Nat)(O:Sem Next)(r:RV)(F:Ob):Prop:=
 ∃v w',O.run P w= .ok (.value v) w'/\aD A (S.put s (w.heap.size,0)) w' r v/\al G A (S.put s (w.heap.size,0)) (L.set s F) w'/\∀n,n<=s->c7 n A S L w A (S.put s (w.heap.size,0)) (L.set s F) w'
def Gv(B:al G A S L w)(y:S s=none)(K:s<L.length){ρ:Operand->RV}{ρ':Operand->Value}{o:Oper}{r:RV}{F:Ob}(D:∀x∈o.op.operands,aD A S w (ρ x) (ρ' x))(h:gm T ρ o s=some (r,F)): Sa P G A S L w s (execOp ρ' o) r F:=by
 obtain⟨dst,op,type,pos,after,guard⟩:=o;cases op with
 |alloc t=>
  simp only[gm]at h;split at h
  ·rename_i cs hz;simp at h;obtain⟨rfl,rfl⟩:=h;obtain⟨v,Q,C⟩:=iM (P:=P) hz;obtain⟨j,k⟩:=tv (P:=P) B y K t (C (A:=A) (S:=S) (w:=w));refine⟨.pointer (some ⟨w.heap.size,0,none⟩),_,?_,⟨_,_,ay.dG _ _ _,rfl⟩,k,fun n R=>c7.k7 B y R _ _ 0⟩;show(Sem.run P (do pure (Next.value (<- Instr.alloc t true (.tuple #[])))) w)=_;simp[Instr.alloc,Q,newVar,j]
  simp at h
 |box t x=>
  simp only[gm]at h;split at h
  ·rename_i cs hz;simp at h;obtain⟨rfl,rfl⟩:=h;obtain⟨j,k⟩:=tv (P:=P) B y K t (nI hz (D x xB));refine⟨.pointer (some ⟨w.heap.size,0,none⟩),_,?_,⟨_,_,ay.dG _ _ _,rfl⟩,k,fun n Q=>c7.k7 B y Q _ _ 0⟩;rfl
  simp at h
 |buildSlice t len parts=>
  simp only[gm]at h;split at h
  ·rename_i b o n z M hb;simp at h;obtain⟨rfl,rfl⟩:=h
   obtain⟨v,w',k,l,m,q⟩:=ES (P:=P) (vs:=parts.toList.map fun p=>(p.1,ρ' p.2)) B y K hb kg (by
    simp only[aeQ]
    exact aN.i6 _ _ _ fun p hp=>D p.2 agn)
   have e:(parts.toList.map fun p=>(p.1,ρ' p.2)).toArray=parts.map fun(i,x)=>(i,ρ' x):=by
    apply aaP;simp
   rw[e]at k;refine⟨v,w',?_,l,m,q⟩;show(Sem.run P (do pure (Next.value (<- Instr.buildSlice t len (parts.map fun(i,x)=>(i,ρ' x))))) w)=_;simp[k]
  simp at h
 |_=>simp[gm]at h
end
def bD(ops:Array Oper)(regs:eG)(o:Oper):Option Bool:=
 match o.guard with
 |none=>some true
 |some g=>k6 ops regs g
structure ft where
 v:FuncId->eG->RV->Prop
 o:dw->eG->ag->RV->ag->Prop
structure ft.Ok(V:ft)(P:lB)(G:az):Prop where
 v:∀g M r,V.v g M r->aR P G g M (·=r)
 o:∀c M h r L,V.o c M h r L->am P G c M h fun y n=>y=r/\n=L
def bR:Op->Option (Operand×List Operand)
 | .call {callee:= .value f,args,..}=>some (f,args.toList)
 |_=>none
def place:ak->Nat->Option Nat
 | [],_=>none
 |a::M,i=>if a=i then some 0 else(place M i).map (·+1)
def zD:∀{M:ak}{i k:Nat},place M i=some k->k<M.length
 | [],i,k,h=>by simp[place]at h
 |a::M,i,k,h=>by
  simp only[place]at h;split at h
  ·grind
  simp only[CG]at h;obtain⟨G,V,rfl⟩:=h;have:=zD V;simp;omega
def yh:∀{M:ak}{i j k:Nat},place M i=some k->place M j=some k->i=j
 | [],i,j,k,h,_=>by simp[place]at h
 |a::M,i,j,k,h,V=>by
  simp only[place]at h V;split at h
  ·rename_i e;simp at h;subst h
   simp_all
  simp only[CG]at h;obtain⟨G,l,rfl⟩:=h;split at V
  ·simp at V
  simp only[CG]at V;obtain⟨m,n,e⟩:=V;have:m=G:=by omega
  subst this;exact yh l n
def wo(P:lB)(T:aq)(G:az)(V:ft)(sl:Option Nat)(o:Oper)(ρ:Operand->RV)(hp:ag)(r:RV)(R:ag):Prop:=
 match bR o.op with
 |some (f,args)=>(∃g N d Z,cL (ρ f) (args.map ρ)=some (.fn g,N)/\ep hp N=some (d,Z)/\V.v g d r/\R=if ei r then hp else bv Z hp)\/
  (∃c N M L,cL (ρ f) (args.map ρ)=some (c,N)/\V.o c N (aL M hp) r L/\(∀b∈M,b<hp.length)/\(∀(b:Nat) o,b∉M->hp[b]? =some o->bT o=true)/\R=c8 M hp L)
 |none=>match sl with
  |some s=>∃F,gm T ρ o s=some (r,F)/\hp[s]? =some .gone/\R=hp.set s F
  |none=>aJ P T G ρ o hp=some (r,R)
def oS(P:lB)(T:aq)(G:az)(V:ft)(ops:Array Oper)(sl:Nat->Option Nat)(i:Nat)(st st':St):Prop:=
 ∃o,ops[i]? =some o/\
  ((bD ops st.regs o=some false/\st'=⟨aT st.regs o.dst bl,st.hp⟩)\/
   (bD ops st.regs o=some true/\cR o=true/\∃r hp,wo P T G V (sl i) o (aQ st.regs) st.hp r hp/\st'=⟨aT st.regs o.dst r,hp⟩))
def gJ(P:lB)(T:aq)(G:az)(V:ft)(md:Region.Mode)(ops:Array Oper)(sl:Nat->Option Nat)(Q:St->Prop):Nat->Array Bool->St->Prop
 | 0,N,st=>Q st
 |n+1,N,st=>(Region.ready md ops N=[]->Q st)/\
  ∀i∈Region.ready md ops N,∃st',oS P T G V ops sl i st st'/\gJ P T G V md ops sl Q n (N.setIfInBounds i true) st'
section
variable {P:lB} {T:aq} [aG P T] {G:az} {V:ft} {ops:Array Oper} {sl:Nat->Option Nat} {md:Region.Mode} {A:Nat->Prop} {S:ay} {w:World}
def iO{regs:eG}{t:Array Value}(h:bL A S w regs t){o:Oper}{c:Bool}(d:bD ops regs o=some c):Region.wanted o (yielded ops t)=c:=by unfold bD at d;split at d;{rename_i x;simp at d;subst d;simp[Region.wanted,x]};rename_i g x;exact yc h x d
def oS.sound(l:bf T)(p:V.Ok P G){i:Nat}{rest:ak}{b:Frame}{t:Array Value}{k:pA}{cs:BY}{st st':St}{n:Nat}(B:al G A S st.hp w)(C:bL A S w st.regs t)(y:∀s,sl i=some s->S s=none/\n<=s)(z:n<=st.hp.length)(h:oS P T G V ops sl i st st'): ∃U O S' w',Steps P (lone (Fr b t (.inRegion ops (i::rest)::k)) cs w) (lone (Fr b U (.inRegion ops rest::k)) cs w')/\bL O S' w' st'.regs U/\al G O S' st'.hp w'/\c7 n A S st.hp w O S' st'.hp w'/\ ∀b,b<st.hp.length->S b=none->sl i≠some b->S' b=none:=by
 obtain⟨o,D,h⟩:=h;rcases h with⟨hw,rfl⟩|⟨hw,d,r,hp,I,rfl⟩
 {have E:=iO C hw;have W:=qm (P:=P) (b:=b) (t:=t) (k:=k) (cs:=cs) (w:=w) (ops:=ops) (i:=i) (rest:=rest) (by simp[D,E]);rw[D]at W;simp only[YV]at W;exact⟨_,A,S,w,Steps.cG W,C.put jC,B,c7.refl,fun b _ h _=>h⟩};have E:=iO C hw;have k8:∀{O S' q w'},Ext A S st.hp w O S' q w'->c7 n A S st.hp w O S' q w':=fun N=>{N with nw:=fun b Q=>N.nw b (W0 Q z)}
 have u:(∃H,eQ P T G (am P G) o st (fun s=>s=H)/\H=⟨aT st.regs o.dst r,hp⟩)->∃U O S' w',Steps P (lone (Fr b t (.inRegion ops (i::rest)::k)) cs w) (lone (Fr b U (.inRegion ops rest::k)) cs w')/\bL O S' w' (aT st.regs o.dst r) U/\al G O S' hp w'/\c7 n A S st.hp w O S' hp w'/\
  ∀b,b<st.hp.length->S b=none->sl i≠some b->S' b=none:=by
  rintro⟨_,F,rfl⟩;obtain⟨R,H,J,W,K,rfl,L,X,Y,Z⟩:=qq (b:=b) (k:=k) (cs:=cs) (rest:=rest) l D E B C F;exact⟨H,J,W,K,L,X,Y,k8 Z,fun b Q h _=>Z.nw b Q h⟩
 unfold wo at I;split at I;{rename_i f args m;apply u;refine⟨_,?_,rfl⟩;obtain⟨dst,op,type,pos,after,guard⟩:=o;cases op with| call c=>(obtain⟨callee,j,a⟩:=c;cases callee with| value ap=>simp only[bR,pB,q0]at m;obtain⟨rfl,rfl⟩:=m;unfold eQ;simp only[d];(rcases I with⟨g,aw,a0,ts,a1,a2,h3,h4⟩|⟨c,aw,M,a_,a1,a2,h3,h4,h5⟩);{rw[a1];refine am.mr a2 (p.v _ _ _ h3) ?_;exact kg};rw[a1];refine am.mono (am.frame h3 h4 (p.o _ _ _ _ _ a2)) ?_;exact kg|_=>simp[bR]at m)|_=>simp[bR]at m};rename_i m;split at I;{(rename_i s j;obtain⟨a,ap,aw,rfl⟩:=I;obtain⟨a0,a1⟩:=y s j;have a2:=(se.1 aw).1;obtain⟨v,w',a_,be,bo,br⟩:=Gv (P:=P) (ρ':=bx t) B a0 a2 (fun x N=>gh C (qo d x N)) ap;have bU:iX o.op=true:=by cases b1:o.op<;>first| rfl|(simp[gm,b1]at ap));refine⟨_,A,_,w',Steps.cG (iN D E bU a_),(B.ey (br n a1) C).put be,bo,br n a1,fun b Q h b3=> ?_⟩;rw[ay.dU _ _ (fun e=>b3 (by rw[e,j]))];exact h};rename_i j;apply u;refine⟨_,?_,rfl⟩;unfold eQ;simp only[d];split;{rename_i f args a ap;rw[ap]at m;simp[bR]at m};rw[I]
def gJ.sound(l:bf T)(o:V.Ok P G){Q:St->Prop}{b:Frame}{k:pA}{cs:BY}{n m:Nat}(y:∀i s,sl i=some s->n<=s/\s<m)(z:∀i j s,sl i=some s->sl j=some s->i=j):
  ∀(R r:Nat)(N:Array Bool)(st:St){A:Nat->Prop}{S:ay}{w:World}{t:Array Value},al G A S st.hp w->bL A S w st.regs t->n<=st.hp.length->m<=st.hp.length->
  (∀i s,sl i=some s->N.getD i true=false->S s=none)->gJ P T G V md ops sl Q R N st->
  ∃st' U O S' w',Q st'/\Steps P (lone (Fr b t (.inRegion ops (Region.linearise.go md ops R r N [])::k)) cs w) (lone (Fr b U k) cs w')/\bL O S' w' st'.regs U/\al G O S' st'.hp w'/\c7 n A S st.hp w O S' st'.hp w'
 | 0,r,N,st,A,S,w,t,B,C,hn,hm,u,h=>by
  refine⟨st,t,A,S,w,h,?_,C,B,c7.refl⟩;simp only[Region.linearise.go,List.reverse_nil];exact Steps.cG iJ
 |R+1,r,N,st,A,S,w,t,B,C,hn,hm,u,h=>by
  obtain⟨p,d⟩:=h;simp only[Region.linearise.go]
  show ∃st' U O S' w',Q st'/\Steps P (lone (Fr b t (.inRegion ops (match (Region.ready md ops N)[r%(Region.ready md ops N).length]? with
   |some i=>Region.linearise.go md ops R (r /(Region.ready md ops N).length) (N.setIfInBounds i true) [i]
   |none=>[].reverse)::k)) cs w) _/\_
  split
  ·rename_i i hi;have W:i∈Region.ready md ops N:=WI hi;obtain⟨X,L,q⟩:=d i W;have f:=(mem_ready.1 W).1;rw[linearise_go_acc];simp only[List.reverse_singleton,aid];obtain⟨v,D,Y,E,F,H,I,M,Z⟩:=oS.sound (b:=b) (k:=k) (cs:=cs) (rest:=Region.linearise.go md ops R (r /(Region.ready md ops N).length) (N.setIfInBounds i true) []) l o B C (fun s a=>⟨u i s a f,(y i s a).1⟩) hn L;have hlen:=M.len
   obtain⟨a,J,K,c,e,g,ap,aw,a0,a1⟩:=gJ.sound l o y z R (r /(Region.ready md ops N).length) (N.setIfInBounds i true) X I H w_ w_ (fun j s a2 a_=>by
    by_cases be:j=i
    ·simp_all
    rw[getD_set_ne true (Ne.symm be)]at a_
    grind) q
   exact⟨a,J,K,c,e,g,F.trans ap,aw,a0,M.trans' a1 (vA _)⟩
  rename_i W;have F:Region.ready md ops N=[]:=by
   cases hR:Region.ready md ops N with
   |nil=>rfl
   |cons x xs=>
    rw[hR]at W;have:r%(x::xs).length<(x::xs).length:=Nat.mod_lt _ s_
    grind
  refine⟨st,t,A,S,w,p F,?_,C,B,c7.refl⟩;exact Steps.cG iJ
def h8(M:ak)(base:Nat):Nat->Option Nat:=fun i=>(place M i).map (base+·)
def gn(M:ak)(st:St):St:=⟨st.regs,st.hp++List.replicate M.length .gone⟩
def al.pad{L:ag}(C:al G A S L w)(k:Nat):al G A S (L++List.replicate k .gone) w:=by(have j:∀{b:Nat}{o:Ob},(L++List.replicate k .gone)[b]? =some o->L[b]? =some o\/o= .gone:=by intro b o h;(rcases VI b L.length with O|O);{grind};grind);refine⟨fun b o O=> ?_,fun B I z=> ?_,C.lt,fun b f o y B d R H i l m n p q=> ?_,fun b B d h=> ?_,C.gl⟩;{(rcases j O with h|rfl);{exact C.ob b o h};trivial};{obtain⟨b,F,d,i,l,m⟩:=z;(rcases j i with h|rfl);{exact C.ca B I ⟨b,F,d,h,l,m⟩};simp[bS]at l};{(rcases j i with h|rfl);{(rcases j m with V|rfl);{exact C.inj b f o y B d R H h l V n p q};simp[bT]at n};simp[bS]at l};have:=C.cz b B d h;exact VO
def Ext.pad{L:ag}(k:Nat):Ext A S L w A S (L++List.replicate k .gone) w where
 size:=vA _
 os:=rfl
 tape:=rfl
 output:=rfl
 wh _ _ h:=h
 nw _ _ h:=h
 len:=by simp
 aK _ _ _:=rfl
 da _ c _ fr h:=⟨c,⟨fr,h⟩,rfl⟩
 up _ h:=h
 down _ h:= .inl h
 own B _ z:=by
  obtain⟨b,F,d,i,j,l⟩:=z
  rcases VI b L.length with hb|hb
  ·rw[Ws hb]at i;exact⟨b,F,d,i,j,l⟩
  rw[Xo hb]at i;have:=(List.mem_replicate.1 (WI i)).2;subst this;simp[bS]at j
def cW.Ka(l:bf T)(o:V.Ok P G){Q:St->Prop}{st:St}(M:ak)(u:gJ P T G V .any ops (h8 M st.hp.length) Q ops.size (Array.replicate ops.size false) (gn M st))(x:P.follows .mixedOrders=true):cW P G ops st Q:=by
 intro A S w t b k cs f B C;have D:al G A S (gn M st).hp {w with drawn:=w.drawn+1}:=(B.drew).pad _;have N:Ext A S st.hp w A S st.hp {w with drawn:=w.drawn+1}:=Ext.drew;have E:bL A S {w with drawn:=w.drawn+1} (gn M st).regs t:=B.ey N C;have O:Ext A S st.hp {w with drawn:=w.drawn+1} A S (gn M st).hp {w with drawn:=w.drawn+1}:=Ext.pad _;have key:∀(md:Region.Mode)(r:Nat),gJ P T G V md ops (h8 M st.hp.length) Q ops.size (Array.replicate ops.size false) (gn M st)->
   ∃st' U R S' w',Q st'/\Steps P (lone (Fr b t (.inRegion ops (Region.linearise md ops r)::k)) cs {w with drawn:=w.drawn+1}) (lone (Fr b U k) cs w')/\bL R S' w' st'.regs U/\al G R S' st'.hp w'/\Ext A S st.hp w R S' st'.hp w':=by
  intro md r h
  obtain⟨W,v,F,X,y,Y,H,I,J,Z⟩:=gJ.sound (b:=b) (k:=k) (cs:=cs) (n:=st.hp.length) (m:=st.hp.length+M.length) l o (fun i s z=>by
    simp only[h8,CG]at z;obtain⟨q,a,rfl⟩:=z;have:=zD a;omega) (fun i j s z K=>by
    simp only[h8,CG]at z K;obtain⟨q,a,rfl⟩:=z;obtain⟨c,d,e⟩:=K;have:c=q:=by omega
    subst this;exact yh a d) ops.size r _ _ D E (by simp[gn]) (by simp[gn]) (fun i s z _=>by
    simp only[h8,CG]at z;obtain⟨q,a,rfl⟩:=z;cases hS:S (st.hp.length+q) with
    |none=>rfl
    |some p=>
     have:=B.cz _ p.1 p.2 hS
     omega) h
  exact⟨W,v,F,X,y,Y,H,I,J,N.trans' (O.trans' Z (vA _)) (vA _)⟩
 have a:∃(md:Region.Mode)(r:Nat),Region.schedule (P.follows .mixedOrders) ops (w.tape w.drawn (.order b.fn f))=Region.linearise md ops r/\
   gJ P T G V md ops (h8 M st.hp.length) Q ops.size (Array.replicate ops.size false) (gn M st):=by
  unfold Region.schedule;rw[x];exact⟨.any,w.tape w.drawn (.order b.fn f),s_,u⟩
 obtain⟨md,r,e,h⟩:=a;obtain⟨W,v,F,X,y,Y,H,z⟩:=key md r h;refine⟨W,v,F,X,y,Y,.head Ay ?_,z⟩;exact kg
end
inductive Kind where
 |mute
 |read
 |call
 |alloc
 |other
 deriving DecidableEq
def cq(T:aq):Op->Kind
 | .move _=> .mute
 | .assign _=> .mute
 | .pick _ _ _=> .mute
 | .build _ _=> .mute
 | .nilCheck _=> .mute
 | .binOp _ _ _ _ _=> .mute
 | .unOp _ _ _=> .mute
 | .makeInterface _ _=> .mute
 | .fieldAddr _ _ _=> .mute
 | .field _ _ _=> .mute
 | .indexAddr _ _ _=> .mute
 | .index _ _ _=> .mute
 | .extract _ _=> .mute
 | .load _ _=> .read
 | .slice _ _ _ _ _=> .read
 | .convert _ d _=>match T.au d with
  |some (.int _)=> .read
  |some .string=> .read
  |_=> .other
 | .call {callee:= .builtin .len,..}=> .read
 | .call {callee:= .builtin .min,..}=> .mute
 | .call {callee:= .builtin .max,..}=> .mute
 | .call {callee:= .builtin .cap,..}=> .mute
 | .call {callee:= .builtin .unsafeSliceData,..}=> .mute
 | .call {callee:= .builtin .unsafeString,..}=> .read
 | .call {callee:= .value _,..}=> .call
 |_=> .other
def gt(x y:Ob):Prop:=x=y\/∃cs f r,x= .cells cs f/\y= .cells cs r
def Up(hp a:ag):Prop:=∀(b:Nat) x,hp[b]? =some x->x≠.gone->∃y,a[b]? =some y/\gt x y
def Up.refl(hp:ag):Up hp hp:=fun b x h _=>⟨x,h,.inl rfl⟩
def Up.cells{hp a:(List Ob)}(h:Up hp a){b:Nat}{cs:(List LV)}{f:Bool}(O:hp[b]? =some (.cells cs f)):∃r,a[b]? =some (.cells cs r):=by obtain⟨y,i,j⟩:=h b _ O s_;(rcases j with rfl|⟨c,g,u,e,rfl⟩);all_goals simp_all
def Up.tc{hp a:(List Ob)}(h:Up hp a){b:Nat}{t:TypeId}{cs:(List LV)}{f:Bool}(O:hp[b]? =some (.tc t cs f)):a[b]? =some (.tc t cs f):=by obtain⟨y,i,j⟩:=h b _ O s_;(rcases j with rfl|⟨c,g,u,e,rfl⟩);all_goals simp_all
def Up.map{hp a:(List Ob)}(h:Up hp a){b:Nat}{J:List (Value×RW)}(O:hp[b]? =some (.map J)):a[b]? =some (.map J):=by obtain⟨y,i,j⟩:=h b _ O s_;(rcases j with rfl|⟨c,g,u,e,rfl⟩);all_goals simp_all
def tQ(o:Ob):gt o (gq o)/\gt (gq o) o:=by cases o with| cells cs f=>exact⟨.inr ⟨cs,f,true,rfl,rfl⟩,.inr ⟨cs,true,f,rfl,rfl⟩⟩|_=>exact⟨.inl rfl,.inl rfl⟩
def Up.freeze(Z:ak)(hp:ag):Up hp (bv Z hp):=by(intro b x O M;have K:=(se.1 O).1;have:b<(bv Z hp).length:=by rw[p8];exact K);obtain⟨o,h,i⟩:=jE Z hp b _ (v9 this);rw[O]at h;simp at h;subst h;refine⟨_,v9 this,?_⟩;(rcases i with⟨e,_⟩|⟨e,_⟩);{rw[e];exact .inl rfl};rw[e];exact(tQ x).1
section
variable {P:lB} {T:aq} {G:az} {ρ:Operand->RV}
def tG{x:Option RV}{hp:ag}{r:RV}{R:ag}(h:(match x with| some r=>some (r,hp)|none=>none)=some (r,R)):R=hp/\∀a:ag,(match (generalizing:=false) x with| some r=>some (r,a)|none=>none)=some (r,a):=by cases x with| none=>simp at h|some y=>simp_all
def yi{t:TypeId}{cs:(List LV)}{o:Nat}{hp R:(List Ob)}{r:RV}(h:jc T t cs o hp=some (r,R)):R=hp/\∀a,jc T t cs o a=some (r,a):=by unfold jc at*;(repeat' split at h);all_goals simp_all
def yj{op:BinOp}{t:TypeId}{a b:RV}{hp R:(List Ob)}{r:RV}(h:mG T op t a b hp=some (r,R)):R=hp/\∀c,mG T op t a b c=some (r,c):=by unfold mG at*;(repeat' split at h);all_goals simp_all
def Ho{op:BinOp}{t:lA}{x y:Operand}{a b:RV}{hp R:ag}{r:RV}(h:bj P T op t x y a b hp=some (r,R)):R=hp/\∀c,bj P T op t x y a b c=some (r,c):=by unfold bj at h |-;cases hu:bE a with| some u=>(cases Q:bE b with| some v=>grind|none=>simp only[hu,Q]at h |-;exact avp)|none=>simp only[hu]at h |-;exact avp
def FJ{t:lA}{a b:RV}{hp R:ag}{r:RV}(h:mq P T t a b hp=some (r,R)):R=hp/\∀c,mq P T t a b c=some (r,c):=by
 unfold mq at h |-
 have rest:∀{hp R:ag},(match (generalizing:=false) T.au t,a,em b with
   |some (.array n e),.v (.agg cs),some i=>match a6 T e with
    |some s=>if 0<=i/\i<n then jc T e cs (i.toNat*s) hp else none
    |none=>none
   |_,_,_=>none)=some (r,R)->R=hp/\∀c,(match (generalizing:=false) T.au t,a,em b with
   |some (.array n e),.v (.agg cs),some i=>match a6 T e with
    |some s=>if 0<=i/\i<n then jc T e cs (i.toNat*s) c else none
    |none=>none
   |_,_,_=>none)=some (r,c):=by
  intro hp R h;split at h
  ·split at h
   ·split at h
    ·rename_i hi;simp only[hi,and_self,if_true];exact yi h
    simp at h
   simp at h
  simp at h
 cases hu:bE a with| some u=>(cases Q:bE b with| some v=>grind|none=>simp only[hu,Q]at h |-;exact rest h)|none=>simp only[hu]at h |-;exact rest h
def FK{t:TypeId}{a b:RV}{hp R:(List Ob)}{r:RV}(h:cD P T t a b hp=some (r,R)):R=hp/\∀c,cD P T t a b c=some (r,c):=by unfold cD at h |-;split at h;{split at h;{split at h;all_goals simp_all};simp at h};exact FJ h
def n8{o:Oper}(C:cq T o.op= .mute){hp R:(List Ob)}{r:RV}(h:aJ P T G ρ o hp=some (r,R)):R=hp/\∀e,aJ P T G ρ o e=some (r,e):=by obtain⟨dst,op,type,pos,after,guard⟩:=o;cases op with| move x=>simp[aJ]at h |-;simp_all| assign x=>simp[aJ]at h |-;simp_all| pick c a b=>simp only[aJ]at h |-;split at h;all_goals simp_all| build t parts=>simp only[aJ,rx]at h |-;(repeat' split at h);all_goals simp_all| nilCheck x=>simp only[aJ,qi]at h |-;(repeat' split at h);all_goals simp_all| binOp op t x y g=>exact Ho h|unOp op t x=>simp only[aJ]at h |-;split at h;{exact tG h};simp at h|makeInterface t x=>simp only[aJ,ry]at h |-;(repeat' split at h);all_goals simp_all| fieldAddr s x f=>simp only[aJ,nG]at h |-;(repeat' split at h);all_goals simp_all| field t x f=>simp only[aJ,rz]at h |-;split at h;{split at h;{exact yi h};simp at h};simp at h|indexAddr t x S=>simp only[aJ,a5]at h |-;(repeat' split at h);all_goals simp_all| index t x S=>exact FK h|extract t i=>simp only[aJ]at h |-;(repeat' split at h);all_goals simp_all| call c=>(obtain⟨callee,args,j⟩:=c;cases callee with| builtin b=>(cases b with| min=>exact aty|max=>exact aty|unsafeSliceData=>simp only[aJ,kO]at h |-;split at h;{exact kg};simp at h|cap=>simp only[aJ,sr]at h |-;split at h;{exact kg};simp at h|_=>simp[cq]at C)|_=>simp[cq]at C)|convert s d x=>simp only[cq]at C;grind|_=>simp[cq]at C
end
section
variable {P:lB} {T:aq} {G:az} {ρ:Operand->RV} {hp hp2:ag}
def Hp(i:Up hp hp2){a:LV}{n:Nat}{cs:lW}(h:fo G hp a n=some cs):fo G hp2 a n=some cs:=by unfold fo at*;split at h;{rename_i b o;split at h;{rename_i c f hb;obtain⟨r,O⟩:=i.cells hb;exact kg};{rename_i t0 c f hb;simp only[i.tc hb];exact h};simp at h};all_goals omega
def Hq(i:Up hp hp2){t:lA}{a r:RV}{R:ag}(h:a8 T G t a hp=some (r,R)):R=hp/\a8 T G t a hp2=some (r,hp2):=by unfold a8 at*;split at h;{rename_i x n g h1 h2 h3;split at h;{rename_i y;split at h;{rename_i cs hc;split at h;{rename_i z C;simp at h;obtain⟨rfl,rfl⟩:=h;refine⟨rfl,?_⟩;simp only[y,if_true,Hp i hc,C]};simp at h};simp at h};simp at h};simp at h
def ma(i:Up hp hp2){z:Nat}{x:RV}{r:Nat×lW}(h:elems hp z x=some r):elems hp2 z x=some r:=by unfold elems at*;split at h;{exact h};{exact h};{exact h};{rename_i b o n W;split at h;{rename_i hz;split at h;{rename_i cs f hb;obtain⟨s,O⟩:=i.cells hb;exact kg};{rename_i t0 cs f hb;simp only[hz,if_true,i.tc hb];exact h};simp at h};simp at h};simp at h
def Gw(i:Up hp hp2){t:TypeId}{x r:RV}{L y d:Option RV}{R:(List Ob)}(h:g5 P T t x L y d hp=some (r,R)):R=hp/\g5 P T t x L y d hp2=some (r,hp2):=by unfold g5 at*;split at h;{split at h;{obtain⟨j,k⟩:=tG h;grind};simp at h};split at h;{split at h;{split at h;{split at h;all_goals simp_all};simp at h};{split at h;all_goals simp_all};{split at h;{rename_i s Y hb;split at h;{rename_i hle;obtain⟨u,O⟩:=i.cells hb;exact kg};simp at h};simp at h};simp at h};simp at h
def Gx(i:Up hp hp2){t:TypeId}{x r:RV}{L y d:Option RV}{R:(List Ob)}(h:aZ P T t x L y d hp=some (r,R)):R=hp/\aZ P T t x L y d hp2=some (r,hp2):=by unfold aZ at*;split at h;{split at h;{split at h;all_goals simp_all};simp at h};exact Gw i h
def Fo(i:Up hp hp2){s d:lA}{x r:RV}{R:ag}(U:(∃k,T.au d=some (.int k))\/T.au d=some .string)(h:ge P T s d x hp=some (r,R)):R=hp/\ge P T s d x hp2=some (r,hp2):=by unfold ge at*;split at h;{grind};{obtain⟨j,m⟩:=tG h;grind};split at h;{rename_i e f;split at h;{rename_i g;split at h;{rename_i n cs B;split at h;{rename_i l hl;simp at h;obtain⟨rfl,rfl⟩:=h;refine⟨rfl,?_⟩;simp[e,f,g,ma i B,hl]};simp at h};simp at h};simp at h};simp at h
def Hr(i:Up hp hp2){s d:lA}{x r:RV}{R:ag}(U:(∃k,T.au d=some (.int k))\/T.au d=some .string)(h:e8 P T s d x hp=some (r,R)):R=hp/\e8 P T s d x hp2=some (r,hp2):=by unfold e8 at*;split at h;{exact kg};exact Fo i U h
def Kb(i:Up hp hp2){b:Array TypeId}{v:lA}{args:eG}{r:RV}{R:ag}(h:aV P T .len b v args hp=some (r,R)):R=hp/\aV P T .len b v args hp2=some (r,hp2):=by match args with| []=>simp[aV]at h|_::_::_=>simp[aV]at h | [a]=>simp only[aV]at h |-;split at h;{exact kg};{exact kg};{exact kg};{split at h;{rename_i es hb;simp at h;obtain⟨rfl,rfl⟩:=h;exact⟨rfl,by simp[i.map hb]⟩};simp at h};split at h;{simp only[CG]at h;grind};simp at h
def n9{o:Oper}(C:cq T o.op= .read){r:RV}{R:ag}(h:aJ P T G ρ o hp=some (r,R)):R=hp/\∀hp2,Up hp hp2->aJ P T G ρ o hp2=some (r,hp2):=by(have key:∀hp2,Up hp hp2->R=hp/\aJ P T G ρ o hp2=some (r,hp2):=by intro hp2 i;obtain⟨dst,op,type,pos,after,guard⟩:=o;cases op with| load t a=>exact Hq i h|slice t x lo hi mx=>exact Gx i h|convert s d x=>(have hd:(∃k,T.au d=some (.int k))\/T.au d=some .string:=by simp only[cq]at C;split at C;{exact kg};{exact kg};simp at C);simp only[aJ]at h |-;split at h;{rename_i b o D;exfalso;unfold jS at h;grind};exact Hr i hd h|call c=>(obtain⟨callee,args,e⟩:=c;cases callee with| builtin b=>(cases b with| len=>exact Kb i h|unsafeString=>simp only[aJ,jA]at h |-;split at h;{split at h;{rename_i hb;rw[i.tc hb];split at h;{split at h;{rename_i h1 _ _ _ h2 h3;simp at h;obtain⟨rfl,rfl⟩:=h;exact kg};simp at h};simp at h};simp at h};simp at h|_=>simp[cq]at C)|_=>simp[cq]at C)|_=>simp[cq]at C);exact⟨(key hp (Up.refl _)).1,fun hp2 i=>(key hp2 i).2⟩
def nL{α β:Type}{f g:α->Option β}(G:∀x y,f x=some y->g x=some y):∀{l:List α}{r:List β},ba f l=some r->ba g l=some r
 | [],r,h=>h
 |x::l,r,h=>by
  simp only[ba]at h |-
  split at h
  ·rename_i y w h1 h2;rw[G x y h1,nL G h2];exact h
  simp at h
def u5(i:Up hp hp2):∀(n:Nat)(x:LV)(y:PV×ak),b2 hp n x=some y->b2 hp2 n x=some y
 | 0,x,y,h=>by
  cases x<;>simp[b2]at h |-
  exact h
 |n+1,x,y,h=>by
  cases x with
  |ad b o k z=>
   simp only[b2]at h |-
   split at h
   ·rename_i cs f hb;obtain⟨r,O⟩:=i.cells hb;simp only[O];split at h
    ·rename_i l hl;split at h
     ·rename_i A U;simp only[hl,nL (fun x y=>u5 i n x y) U];exact h
     simp at h
    simp at h
   simp at h
  |p x=>simpa[b2] using h
  |_=>simp[b2]at h
def Be(i:Up hp hp2)(x:RW)(y:RW×ak)(h:dy hp x=some y):dy hp2 x=some y:=by cases x with| one x=>simp only[dy]at h |-;split at h;{rename_i p ts T;rw[u5 i _ _ _ T];exact h};simp at h|agg xs=>(simp only[dy,kj]at h |-;cases hm:ba (b2 hp 12) xs with| none=>simp_all| some z=>rw[hm]at h;rw[nL (fun x y=>u5 i 12 x y) hm];exact h)
def Kc(i:Up hp hp2)(x:RV)(y:RV×ak)(h:bg hp x=some y):bg hp2 x=some y:=by cases x with| v x=>simp only[bg]at h |-;split at h;{rename_i p ts T;rw[Be i _ _ T];exact h};simp at h|ab xs=>simp only[bg]at h |-;split at h;{rename_i w hm;rw[nL (fun x y=>Be i x y) hm];exact h};simp at h
def uD(i:Up hp hp2){xs:eG}{y:List RV×ak}(h:ep hp xs=some y):ep hp2 xs=some y:=by unfold ep at*;split at h;{rename_i w hm;rw[nL (fun x y=>Kc i x y) hm];exact h};simp at h
end
section
variable {P:lB} {T:aq} {G:az} {ρ:Operand->RV} {M:ak} {hp:ag}
def Up.aL(M:ak)(hp:ag):Up (aL M hp) hp:=fun b x h N=>⟨x,(dt h N).2,.inl rfl⟩
def fO(n:∀b∈M,b<hp.length):c8 M hp (aL M hp)=hp:=by apply Wr;intro k;by_cases C:k∈M;{exact gE C (n k C) (by rw[cr];exact n k C)};rw[gD C,dS C]
def iR(n:∀b∈M,b<hp.length)(x:Ob):c8 M hp (aL M hp++[x])=hp++[x]:=by apply Wr;intro k;by_cases C:k∈M;{have:=n k C;rw[gE C this (by simp[cr];omega),Ws this]};rw[gD C];(rcases VI k hp.length with hl|hl);{rw[Ws (by rw[cr];exact hl),Ws hl,dS C]};rw[Xo (by rw[cr];exact hl),Xo hl,cr]
def n_(n:∀b∈M,b<hp.length){b:Nat}(O:b∉M)(x:Ob):c8 M hp ((aL M hp).set b x)=hp.set b x:=by apply Wr;intro k;by_cases C:k∈M;{have:=n k C;rw[gE C this (by simp[cr];omega),Vt (by grind)]};rw[gD C,W1,W1,cr,dS C]
def xo(n:∀b∈M,b<hp.length){b:Nat}(O:b∉M)(x y:Ob):c8 M hp ((aL M hp).set b x++[y])=hp.set b x++[y]:=by apply Wr;intro k;by_cases C:k∈M;{have:=n k C;rw[gE C this (by simp[cr];omega),Ws kg,Vt (by grind)]};rw[gD C];(rcases VI k hp.length with hl|hl);{rw[Ws (by simp[cr];exact hl),Ws (by simpa using hl),W1,W1,cr,dS C]};rw[Xo (by simp[cr];exact hl),Xo (by simpa using hl)];simp[cr]
def xg(n:∀b∈M,b<hp.length){a:LV}{vs:lW}{L:ag}(h:gj (aL M hp) a vs=some L):gj hp a vs=some (c8 M hp L):=by unfold gj at*;split at h;{rename_i b o;split at h;{rename_i cs hb;exact asf};{rename_i t cs hb;exact asf};{rename_i t cs hb;obtain⟨k,l⟩:=dt hb s_;simp only[l];split at h;{simp at h;subst h;simp only[fO n]};simp at h};simp at h};simp at h
def Fp{x:RV}{J:List (Value×RW)}(h:mapOf x (aL M hp)=some J):mapOf x hp=some J:=by unfold mapOf at*;split at h;{split at h;{rename_i d hb;obtain⟨k,l⟩:=dt hb s_;exact kg};simp at h};all_goals omega
def Fb(q:∀b∈M,b<hp.length){c:Array TypeId}{w:lA}{args:eG}{r:RV}{L:ag}(h:aV P T .append c w args (aL M hp)=some (r,L)):aV P T .append c w args hp=some (r,c8 M hp L):=by
 match args with
 | []=>simp[aV]at h
 | [_]=>simp[aV]at h
 |_::_::_::_=>simp[aV]at h
 | [s,x]=>
  simp only[aV]at h |-
  cases h1:(c[0]?).bind T.au with
  |none=>simp[h1]at h
  |some d1=>
   cases d1 with
   |slice e=>
    cases h2:(c[1]?).bind T.au with
    |none=>simp_all
    |some y=>
     simp only[h1,h2]at h |-
     have rest:∀{r L},(match T.info e,zeroOf T e with
       |some i,some zero=>match elems (aL M hp) i.size x with
        |some (m,new)=>
         if zero.length=i.size then
         match (generalizing:=false) s with
         | .v (.one (.p (.vl (.slice none 0 0))))=>
          if m=0 then some (s,aL M hp)
          else if roomy m i.bytes && decide (0<i.size) then some (.v (.one (.ad (aL M hp).length 0 m i.size)),aL M hp++[.cells new false]) else none
         | .v (.one (.ad b o n W))=>
          match (aL M hp)[b]? with
          |some (.cells cs false)=>
           match part cs o (n*i.size) with
           |some j=>
            if W=i.size && roomy (n+m) i.bytes && decide (0<i.size) then some (.v (.one (.ad (aL M hp).length 0 (n+m) i.size)),(aL M hp).set b .gone++[.cells (j++new) false]) else none
           |none=>none
          |_=>none
         | .v (.one (.p (.sl _ _)))=>if m=0 then some (s,aL M hp) else none
         |_=>none
         else none
        |none=>none
       |_,_=>none)=some (r,L)->(match T.info e,zeroOf T e with
       |some i,some zero=>match elems hp i.size x with
        |some (m,new)=>
         if zero.length=i.size then
         match (generalizing:=false) s with
         | .v (.one (.p (.vl (.slice none 0 0))))=>
          if m=0 then some (s,hp)
          else if roomy m i.bytes && decide (0<i.size) then some (.v (.one (.ad hp.length 0 m i.size)),hp++[.cells new false]) else none
         | .v (.one (.ad b o n W))=>
          match hp[b]? with
          |some (.cells cs false)=>
           match part cs o (n*i.size) with
           |some j=>
            if W=i.size && roomy (n+m) i.bytes && decide (0<i.size) then some (.v (.one (.ad hp.length 0 (n+m) i.size)),hp.set b .gone++[.cells (j++new) false]) else none
           |none=>none
          |_=>none
         | .v (.one (.p (.sl _ _)))=>if m=0 then some (s,hp) else none
         |_=>none
         else none
        |none=>none
       |_,_=>none)=some (r,c8 M hp L):=by
      intro r L h;split at h
      ·rename_i i zero hi hz;split at h
       ·rename_i m new B;simp only[ma (Up.aL M hp) B];split at h
        ·rename_i H;simp only[H,if_true];split at h
         ·split at h
          ·exact avj
          rename_i U;split at h
          ·rename_i d;simp at h;obtain⟨rfl,rfl⟩:=h;simp only[U,w4,d,if_true,iR q,cr]
          simp at h
         ·split at h
          ·rename_i cs hb;obtain⟨l,t⟩:=dt hb s_;simp only[t];split at h
           ·split at h
            ·rename_i d;simp at h;obtain⟨rfl,rfl⟩:=h;simp only[d,if_true,xo q l,cr]
            simp at h
           simp at h
          simp at h
         ·split at h
          ·exact avj
          simp at h
         simp at h
        simp at h
       simp at h
      simp at h
     cases y with
     |int k=>simp at h
     |_=>exact rest h
   |_=>simp[h1]at h
def E7(n:∀b∈M,b<hp.length){c:Array TypeId}{args:eG}{r:RV}{L:ag}(h:dM T c args (aL M hp)=some (r,L)):dM T c args hp=some (r,c8 M hp L):=by match args with| []=>simp[dM]at h | [_]=>simp[dM]at h|_::_::_::_=>simp[dM]at h | [s,x]=>simp only[dM]at h |-;split at h;{rename_i e y h1 h2;split at h;{simp at h};rename_i G;split at h;{rename_i i zero hi hz;split at h;{rename_i m new B;split at h;{rename_i hc;have F:=ma (Up.aL M hp) B;split at h;{split at h;{rename_i d;simp at h;obtain⟨rfl,rfl⟩:=h;simp only[F,hc,d,if_true,iR n,cr,ne_eq,not_false_eq_true,and_self,and_true,true_and]};simp at h};{split at h;{rename_i k cs hb;obtain⟨l,o⟩:=dt hb s_;split at h;{rename_i d;simp at h;obtain⟨rfl,rfl⟩:=h;simp only[F,hc,o,d,if_true,xo n l,cr,ne_eq,not_false_eq_true,and_self,and_true,true_and]};simp at h};simp at h};simp at h};simp at h};simp at h};simp at h};simp at h
def E8(n:∀b∈M,b<hp.length){s d:lA}{b o:Nat}{r:RV}{L:ag}(h:jS P T s d b o (aL M hp)=some (r,L)):jS P T s d b o hp=some (r,c8 M hp L):=by unfold jS at h |-;split at h;{rename_i t t0 cs h1 h2 hb;exact ari};{rename_i u e cs h1 h2 hb;exact ari};simp at h
def FL(p:∀b∈M,b<hp.length){c:Array TypeId}{v:lA}{args:eG}{r:RV}{L:ag}(h:aV P T .copy c v args (aL M hp)=some (r,L)):aV P T .copy c v args hp=some (r,c8 M hp L):=by match args with| []=>simp[aV]at h | [_]=>simp[aV]at h|_::_::_::_=>simp[aV]at h | [d,x]=>simp only[aV]at h |-;split at h;{split at h;{split at h;{rename_i m new b o n W B;simp only[ma (Up.aL M hp) B];split at h;{rename_i hz;simp only[hz,if_true];split at h;{rename_i R hw;simp at h;obtain⟨rfl,rfl⟩:=h;rw[xg p hw]};simp at h};simp at h};simp at h};simp at h};simp at h
def Gy(n:∀b∈M,b<hp.length){o:Oper}{r:RV}{L:ag}(h:aJ P T G ρ o (aL M hp)=some (r,L)):aJ P T G ρ o hp=some (r,c8 M hp L):=by cases C:cq T o.op with| mute=>obtain⟨rfl,i⟩:=n8 C h;rw[fO n];exact i hp|read=>obtain⟨rfl,i⟩:=n9 C h;rw[fO n];exact i hp (Up.aL M hp)|_=>(obtain⟨dst,op,type,pos,after,guard⟩:=o;cases op with| alloc t=>simp only[aJ,mm,ou]at h |-;exact anS|box t x=>simp only[aJ,pd,pe]at h |-;exact anS|buildSlice t len A=>simp only[aJ,jz]at h |-;exact asm|store t a v=>simp only[aJ,cf]at h |-;split at h;{split at h;{rename_i hlen;split at h;{rename_i R hw;simp at h;obtain⟨rfl,rfl⟩:=h;simp only[hlen,if_true,xg n hw]};simp at h};simp at h};simp at h|makeFunc fn a b=>simp only[aJ,rY]at h |-;(repeat' split at h);(all_goals first| (simp at h;done)|skip);all_goals (simp at h;obtain⟨rfl,rfl⟩:=h;simp_all[fO n])|makeMap t res=>(cases res with| none=>simp only[aJ]at h |-;simp at h;obtain⟨rfl,rfl⟩:=h;simp[iR n,cr]|some x=>simp[aJ]at h)|makeSlice t l c=>simp only[aJ,eC]at h |-;exact asm|lookup t x k ok=>simp only[aJ,hP]at h |-;split at h;{rename_i p e kv es h1 i h3;simp only[Fp h3];split at h;{rename_i N z E F;split at h;{rename_i U;split at h;{rename_i y hy;exact ata};rename_i hy;exact ata};simp at h};simp at h};simp at h|mapUpdate t m k x=>exact aq8|insert t m k x=>exact aq8|range t x=>simp only[aJ]at h |-;exact arX|next it s=>(cases s with| false=>simp[aJ]at h|true=>simp only[aJ,rZ]at h |-;split at h;{split at h;{rename_i s pos hb;obtain⟨p,q⟩:=dt hb s_;simp only[q];split at h;{rename_i K;simp at h;obtain⟨rfl,rfl⟩:=h;simp only[K,if_true,n_ n p]};rename_i K;simp at h;obtain⟨rfl,rfl⟩:=h;simp only[K,w4,fO n]};simp at h};simp at h)|convert s d x=>(simp only[aJ]at h |-;split at h;{exact E8 n h};simp only[e8,ge]at h |-;(repeat' split at h);(all_goals first| (simp at h;done)|skip);(all_goals (simp at h;obtain⟨rfl,rfl⟩:=h));all_goals first| (simp_all[fO n];done)|(simp_all[iR n,cr];done)|(rename_i B iw;simp_all[fO n,ma (Up.aL M hp) B];done)|(rename_i B _ _ iw;simp_all[fO n,ma (Up.aL M hp) B];done)|skip)|call c=>(obtain⟨callee,args,f⟩:=c;cases callee with| builtin b=>(cases b with| append=>simp only[aJ]at h |-;cases hb:u3 pos;{simp only[hb]at h |-;exact Fb n h};simp only[hb]at h |-;exact E7 n h|unsafeString=>simp[cq]at C|unsafeSliceData=>simp[cq]at C|cap=>simp[cq]at C|copy=>exact FL n h|len=>simp[cq]at C|min=>simp[cq]at C|max=>simp[cq]at C|_=>simp[aJ,aV]at h)|_=>simp[aJ]at h)|_=>(first| (simp[cq]at C;done)|(simp[aJ]at h;done)))
end
def gt.trans{x y z:Ob}(h:gt x y)(k:gt y z):gt x z:=by(rcases h with rfl|⟨cs,f,r,rfl,rfl⟩);{exact k};(rcases k with rfl|⟨b,g,u,e,rfl⟩);{exact .inr ⟨cs,f,r,rfl,rfl⟩};cases e;exact .inr ⟨cs,f,u,rfl,rfl⟩
def gt.Iw{x y:Ob}(h:gt x y)(M:x≠.gone):y≠.gone:=by(rcases h with rfl|⟨cs,f,r,rfl,rfl⟩);{exact M};simp
def Up.trans{a b c:ag}(h:Up a b)(k:Up b c):Up a c:=by intro i x M A;obtain⟨y,j,l⟩:=h i x M A;obtain⟨z,m,n⟩:=k i y j (l.Iw A);exact⟨z,m,l.trans n⟩
inductive aF where
 |eA
 |fz (ts:ak)
 |fill (s:Nat) (ob:Ob)
 |app (b d:Nat) (c:Ob)
 |hr (b:Nat) (ob:Ob)
 |rc (ts:ak) (b:Nat) (ob:Ob)
 |own (n:Nat) (M:ak) (L:ag) (W:ak)
def aF.ap:aF->ag->ag
 | .eA,hp=>hp
 | .fz ts,hp=>bv ts hp
 | .fill s ob,hp=>hp.set s ob
 | .app b _ c,hp=>hp.set b .gone++[c]
 | .hr b ob,hp=>hp.set b ob
 | .rc ts b ob,hp=>(bv ts hp).set b ob
 | .own _ M L _,hp=>c8 M hp L
def aF.pre:aF->ag->Prop
 | .fill s _,hp=>hp[s]? =some .gone
 | .app b d _,hp=>hp.length=d/\b<d
 | .hr b _,hp=>b<hp.length
 | .rc _ b _,hp=>b<hp.length
 | .own n M L W,hp=>hp.length=n/\(∀k∈M,k<n)/\n<=L.length/\∀k,k<L.length->k∉M->k∈W
 |_,_=>True
def aF.wr:aF->ak
 | .fill s _=>[s]
 | .app b d _=>[b,d]
 | .hr b _=>[b]
 | .rc _ b _=>[b]
 | .own _ _ _ W=>W
 |_=>[]
def aF.ts:aF->ak
 | .fz ts=>ts
 | .rc ts _ _=>ts
 |_=>[]
def aF.cu:aF->Bool
 | .eA=>false
 | .fill _ _=>false
 |_=>true
def xO{ts:ak}{hp:ag}{b:Nat}{x:Ob}(h:hp[b]? =some x):∃y,(bv ts hp)[b]? =some y/\gt x y/\gt y x:=by(have K:=(se.1 h).1;have:b<(bv ts hp).length:=by rw[p8];exact K);refine⟨_,v9 this,?_⟩;obtain⟨o,i,j⟩:=jE ts hp b _ (v9 this);rw[h]at i;simp at i;subst i;(rcases j with⟨e,_⟩|⟨e,_⟩);{rw[e];exact⟨.inl rfl,.inl rfl⟩};rw[e];exact tQ x
def tw{Z:ak}{hp:ag}{b:Nat}{y:Ob}(h:(bv Z hp)[b]? =some y):∃x,hp[b]? =some x/\gt x y/\gt y x:=by obtain⟨o,i,j⟩:=jE Z hp b _ h;refine⟨o,i,?_⟩;(rcases j with⟨e,_⟩|⟨e,_⟩);{rw[e];exact⟨.inl rfl,.inl rfl⟩};rw[e];exact tQ o
def Cv{M Z:ak}{hp:ag}:Up (aL M hp) (aL M (bv Z hp))/\Up (aL M (bv Z hp)) (aL M hp):=by constructor;{intro b x h N;obtain⟨i,j⟩:=dt h N;obtain⟨y,k,l,_⟩:=xO (ts:=Z) j;exact⟨y,by rw[dS i];exact k,l⟩};intro b x h N;obtain⟨i,j⟩:=dt h N;obtain⟨y,k,_,l⟩:=tw j;exact⟨y,by rw[dS i];exact k,l⟩
def uE{n:Nat}{M W:ak}{L hp:ag}(F:(aF.own n M L W).pre hp){b:Nat}(O:b∉W):(c8 M hp L)[b]? =hp[b]? :=by obtain⟨h,i,j,k⟩:=F;by_cases hm:b∈M;{have:=i b hm;exact gE hm w_ w_};rw[gD hm];grind
def Ix{n:Nat}{M W:ak}{L hp:ag}(F:(aF.own n M L W).pre hp){s:Nat}{G:Ob}(A:s∉W)(K:s<hp.length):c8 M (hp.set s G) L=(c8 M hp L).set s G:=by(obtain⟨h,i,j,l⟩:=F;have E:s∈M:=by by_cases hm:s∈M;{exact hm};grind);apply Wr;intro k;by_cases C:k∈M;{have T:=i k C;rw[gE C (by simp;omega) w_,W1,W1,gE C w_ w_,tt];grind};rw[gD C,Vt (by grind),gD C]
def Bf{M:ak}{e:aF}{hp:ag}(F:e.pre hp)(t:∀b∈e.wr,b∈M):Up (aL M hp) (aL M (e.ap hp))/\Up (aL M (e.ap hp)) (aL M hp):=by cases e with| eA=>exact⟨Up.refl _,Up.refl _⟩|fz ts=>exact Cv|fill s ob=>exact anN|hr s ob=>exact anN|rc ts s ob=>have:Sx.aL M ((bv ts hp).set s ob)=Sx.aL M (bv ts hp):=rk (t s YB);simp only[aF.ap,this];exact Cv|own n M2 L W=>(have key:∀b,b∉M->(c8 M2 hp L)[b]? =hp[b]? :=fun b O=>uE F fun h=>O (t b h);constructor;{intro b x h N;obtain⟨j,k⟩:=dt h N;exact⟨x,by rw[dS j];exact(key b j).trans k,.inl rfl⟩};intro b x h N;obtain⟨j,k⟩:=dt h N;exact⟨x,by rw[dS j];exact(key b j).symm.trans k,.inl rfl⟩)|app b d c=>have O:b∈M:=t b YB;have hd:d∈M:=t d YB;obtain⟨y,_⟩:=F;constructor;{intro i x h N;obtain⟨j,k⟩:=dt h N;have hi:=(se.1 k).1;refine⟨x,?_,.inl rfl⟩;rw[dS j];simp only[aF.ap];grind};intro i x h N;obtain⟨j,k⟩:=dt h N;refine⟨x,?_,.inl rfl⟩;rw[dS j];simp only[aF.ap]at k;grind
def yk{M:ak}{e:aF}{hp:ag}(N:e.cu=false)(t:∀b∈e.wr,b∈M):aL M (e.ap hp)=aL M hp:=by cases e with| eA=>rfl|fill s ob=>exact rk (t s YB)|_=>simp[aF.cu]at N
def ym{Z:ak}{s:Nat}{F:Ob}(h:s∉Z):∀hp:ag,bv Z (hp.set s F)=(bv Z hp).set s F:=by induction Z with| nil=>intro hp;rfl|cons t Z d=>(intro hp;have G:t≠s:=fun e=>h (by simp[e]);have hn:s∉Z:=fun V=>h (Xr _ V);show bv Z (match (hp.set s F)[t]? with| some o=>(hp.set s F).set t (gq o)|none=>hp.set s F)=_;rw[Vt (Ne.symm G)];show _=(bv Z (match hp[t]? with| some o=>hp.set t (gq o)|none=>hp)).set s F;cases hp[t]? with| none=>exact d hn hp|some o=>simp only;rw[aaU _ _ (Ne.symm G)];exact d hn _)
def zE{e f:aF}{hp:ag}(V:e.cu=false)(B:e.pre hp)(j:f.pre hp)(T:∀b∈e.wr,b∉f.wr)(D:∀b∈e.wr,b∉f.ts):e.ap (f.ap hp)=f.ap (e.ap hp):=by cases e with| eA=>rfl|fill s ob=>(have A:s∉f.wr:=T s YB;have D:s∉f.ts:=D s YB;simp only[aF.pre]at B;have K:=(se.1 B).1;cases f with| eA=>rfl|fz ts=>simp only[aF.ap];exact(ym (by simpa[aF.ts] using D) hp).symm|fill X L=>simp only[aF.ap];rw[aaU];simp[aF.wr]at A;omega| hr X L=>simp only[aF.ap];rw[aaU];simp[aF.wr]at A;omega| rc ts X L=>simp only[aF.ap];rw[ym (by simpa[aF.ts] using D) hp,aaU];simp[aF.wr]at A;omega| own n M2 M W=>simp only[aF.ap];exact(Ix j A K).symm|app b d c=>simp[aF.wr]at A;simp only[aF.ap];rw[List.set_append_left _ _ (by simpa using K),aaU _ _ (fun e=>A.1 e.symm)])|_=>simp[aF.cu]at V
def Hs{e f:aF}{hp:(List Ob)}(y:e.cu=false\/f.cu=false)(j:f.pre hp)(T:∀b∈e.wr,b∉f.wr)(h:e.pre (f.ap hp)):e.pre hp:=by(have len:f.cu=false->(f.ap hp).length=hp.length:=by intro M;cases f<;>simp[aF.cu]at M<;>simp[aF.ap]);cases e with| eA=>trivial|fz ts=>trivial|fill s ob=>(simp only[aF.pre]at h |-;have A:s∉f.wr:=T s (by simp[aF.wr]);cases f with| eA=>exact h|fz ts=>obtain⟨x,i,k,l⟩:=tw h;(rcases l with rfl|⟨_,_,_,e,_⟩);all_goals simp_all| fill X L=>simp[aF.wr]at A;simp only[aF.ap]at h;grind|hr X L=>simp[aF.wr]at A;simp only[aF.ap]at h;grind|rc ts X L=>simp[aF.wr]at A;simp only[aF.ap]at h;rw[List.getElem?_set_ne (Ne.symm A)]at h;obtain⟨x,i,k,l⟩:=tw h;(rcases l with rfl|⟨_,_,_,e,_⟩);all_goals simp_all| own n M2 N W=>exact(uE j A).symm.trans h|app b d c=>simp[aF.wr]at A;simp only[aF.ap]at h;obtain⟨z,B⟩:=j;grind)|app b d c=>exact Zk|hr b ob=>exact Zk|rc ts b ob=>exact Zk|own n M2 N W=>exact Zk
def Ke{e f:aF}{hp:ag}(y:e.cu=false\/f.cu=false)(j:f.pre hp)(T:∀b∈e.wr,b∉f.wr)(h:e.pre hp):e.pre (f.ap hp):=by(have len:f.cu=false->(f.ap hp).length=hp.length:=by exact av1);cases e with| eA=>trivial|fz Z=>trivial|fill s ob=>(simp only[aF.pre]at h |-;(have A:s∉f.wr:=T s YB;have K:=(se.1 h).1;have z:∀Z,(bv Z hp)[s]? =some .gone:=by intro Z;obtain⟨x,i,k,l⟩:=xO (ts:=Z) h;(rcases k with rfl|⟨_,_,_,e,_⟩);{exact i};simp at e);cases f with| eA=>exact h|fz Z=>exact z Z|fill X L=>simp[aF.wr]at A;simp only[aF.ap];grind|hr X L=>simp[aF.wr]at A;simp only[aF.ap];grind|rc Z X L=>simp[aF.wr]at A;simp only[aF.ap];grind|own n M2 N W=>exact(uE j A).trans h|app b d c=>simp[aF.wr]at A;simp only[aF.ap];grind)|app b d c=>exact Zk|hr b ob=>exact Zk|rc Z b ob=>exact Zk|own n M2 N W=>exact Zk
def tmpsOf(l:List Operand):ak:=l.filterMap fun
 | .tmp i=>some i
 |_=>none
def e5(ops:Array Oper)(o:Oper):ak:=
 tmpsOf o.op.operands.toList++(match o.guard with
  |none=>[]
  |some g=>match (ops[g.1]?).bind (·.dst) with
   |some d=>[d]
   |none=>[])
def FM{l:List Operand}{i:Nat}(h:Operand.tmp i∈l):i∈tmpsOf l:=by unfold tmpsOf;grind
def Iy{regs:eG}{d:Option Tmp}{r:RV}{x:Operand}(h:∀i,x= .tmp i->d≠some i):aQ (aT regs d r) x=aQ regs x:=by cases x with| tmp i=>(cases d with| none=>rfl|some d=>(have:d≠i:=fun e=>h i rfl (by rw[e]);simp only[aQ,aT,VS];exact kg))|_=>rfl
section
variable {P:lB} {T:aq} {G:az} {V:ft} {ops:Array Oper}
def te{ρ w:Operand->RV}{l:List (Nat×Operand)}(h:∀p∈l,ρ p.2=w p.2):(l.map fun p=>(p.1,ρ p.2))=l.map fun p=>(p.1,w p.2):=
 ZL fun p hp=>by rw[h p hp]
def tp{ρ w:Operand->RV}{x:Option Operand}(h:∀y,x=some y->ρ y=w y):x.map ρ=x.map w:=by cases x with| none=>rfl|some y=>simp[h y rfl]
def tR{o:Oper}{ρ ρ':Operand->RV}(h:∀x∈o.op.operands,ρ x=ρ' x)(hp:ag):aJ P T G ρ o hp=aJ P T G ρ' o hp:=by obtain⟨dst,op,type,pos,after,guard⟩:=o;cases op with| build t z=>exact arV|buildSlice t len z=>exact arV|makeFunc fn a b=>(have h1:a.toList.map ρ=a.toList.map ρ':=ZL fun x M=>h x agV;have h2:b.toList.map ρ=b.toList.map ρ':=ZL fun x M=>h x agV;simp only[aJ,h1,h2])|slice t x lo hi mx=>(have M:ρ x=ρ' x:=h x xB;have h1:lo.map ρ=lo.map ρ':=tp fun y e=>h y akX;have h2:hi.map ρ=hi.map ρ':=tp fun y e=>h y akX;have h3:mx.map ρ=mx.map ρ':=tp fun y e=>h y akX;simp only[aJ,M,h1,h2,h3])|makeMap t r=>cases r<;>rfl|call c=>(obtain⟨callee,args,d⟩:=c;cases callee with| builtin b=>(have:args.toList.map ρ=args.toList.map ρ':=ZL fun x M=>h x aup;simp only[aJ,this])|_=>rfl)|next it b=>have h1:ρ it=ρ' it:=h it xB;cases b<;>simp[aJ,h1]|_=>(simp only[Op.operands]at h;first| rfl|(simp at h;simp only[aJ,h]))
def Fc{o:Oper}{ρ w:Operand->RV}(h:∀x∈o.op.operands,ρ x=w x)(s:Nat):gm T ρ o s=gm T w o s:=by obtain⟨dst,op,type,pos,after,guard⟩:=o;cases op with| box t x=>simp only[gm,h x (by simp[Op.operands])]|buildSlice t len y=>(have:(y.toList.map fun p=>(p.1,ρ p.2))=y.toList.map fun p=>(p.1,w p.2):=te fun p hp=>h p.2 agn;simp only[gm,this])|_=>rfl
def tH{o:Op}{f:Operand}{args:List Operand}(h:bR o=some (f,args)):f∈o.operands/\∀x∈args,x∈o.operands:=by cases o with| call c=>(obtain⟨callee,M,b⟩:=c;cases callee with| value g=>simp only[bR,pB,q0]at h;obtain⟨rfl,rfl⟩:=h;refine⟨by simp[Op.operands,Call.operands],fun x N=> ?_⟩;simp[Op.operands,Call.operands];exact kg|_=>simp[bR]at h)|_=>simp[bR]at h
def er(P:lB)(T:aq)(G:az)(V:ft)(w:Option Nat)(o:Oper)(ρ:Operand->RV)(h:ag)(r:RV)(e:aF):Prop:=
 match bR o.op with
 |some (f,args)=>(∃g M d Z,cL (ρ f) (args.map ρ)=some (.fn g,M)/\ep h M=some (d,Z)/\V.v g d r/\e=if ei r then .eA else .fz Z)\/
  (∃c M N L W,cL (ρ f) (args.map ρ)=some (c,M)/\V.o c M (aL N h) r L/\(∀(b:Nat) o,b∉N->h[b]? =some o->bT o=true)/\e= .own h.length N L W)
 |none=>match w with
  |some s=>∃F,gm T ρ o s=some (r,F)/\e= .fill s F
  |none=>
   (e= .eA/\∀a,Up h a->aJ P T G ρ o a=some (r,a))\/
   (∃N L W,aJ P T G ρ o (aL N h)=some (r,L)/\(∀(b:Nat) o,b∉N->h[b]? =some o->bT o=true)/\e= .own h.length N L W)
def er.congr{v:Option Nat}{o:Oper}{ρ w:Operand->RV}{h:ag}{r:RV}{e:aF}(D:∀x∈o.op.operands,ρ x=w x)(U:er P T G V v o ρ h r e):er P T G V v o w h r e:=by unfold er at*;split;{rename_i f args hc;simp only[hc]at U;obtain⟨W,t⟩:=tH hc;have:args.map w=args.map ρ:=ZL fun x M=>(D x (t x M)).symm;grind};rename_i hc;simp only[hc]at U;split;{rename_i s;rw[<- Fc D];exact U};simp only at U;have:∀hp,aJ P T G w o hp=aJ P T G ρ o hp:=fun hp=>(tR D hp).symm;exact kg
def er.up{v:Option Nat}{o:Oper}{ρ:Operand->RV}{h X:ag}{r:RV}{e:aF}(M:e.cu=false)(i:Up h X)(U:er P T G V v o ρ h r e):er P T G V v o ρ X r e:=by unfold er at*;split;{rename_i f args hc;simp only[hc]at U;(rcases U with⟨g,N,d,ts,h1,j,h3,h4⟩|⟨c,N,M2,L,W,_,_,_,rfl⟩);{exact .inl ⟨g,N,d,ts,h1,uD i j,h3,h4⟩};simp[aF.cu]at M};rename_i hc;simp only[hc]at U;split;{exact U};simp only at U;(rcases U with⟨he,C⟩|⟨M2,L,W,h1,j,rfl⟩);{exact .inl ⟨he,fun a j=>C a (i.trans j)⟩};simp[aF.cu]at M
def FN{L:ag}{v w:eG}{Z:ak}(h:ep L v=some (w,Z)):fK L Z:=by unfold ep at h;split at h;{rename_i z hm;simp at h;obtain⟨rfl,rfl⟩:=h;apply fK.flat;intro y hy;obtain⟨x,M,T⟩:=l3 hm hy;exact kQ (y:=y.1) (ts:=y.2) T};simp at h
def er.ts{v:Option Nat}{o:Oper}{ρ:Operand->RV}{M:ak}{hp:ag}{r:RV}{e:aF}(U:er P T G V v o ρ (aL M hp) r e):∀b∈e.ts,b∉M:=by unfold er at U;intro b O;split at U;{(rcases U with⟨g,N,d,ts,h,h2,h3,rfl⟩|⟨c,N,M2,L,W,_,_,_,rfl⟩);{split at O;{simp[aF.ts]at O};obtain⟨cs,fz,f⟩:=FN h2 b O;exact(dt f s_).1};simp[aF.ts]at O};split at U;{obtain⟨F,h,rfl⟩:=U;simp[aF.ts]at O};rcases U with⟨rfl,_⟩|⟨M2,L,W,h,h2,rfl⟩<;>simp[aF.ts]at O
def gu(P:lB)(T:aq)(G:az)(V:ft)(ops:Array Oper)(v:Option Nat)(M:ak)(o:Oper)(st:St)(r:RV)(e:aF):Prop:=
 (bD ops st.regs o=some false/\r=bl/\e= .eA)\/(bD ops st.regs o=some true/\cR o=true/\er P T G V v o (aQ st.regs) (aL M st.hp) r e)
structure fu where
 sl:Nat->Option Nat
 M:Nat->ak
 wr:Nat->ak
 lou:Nat->Bool
def h9(P:lB)(T:aq)(G:az)(V:ft)(ops:Array Oper)(Q:fu)(i:Nat)(st st':St):Prop:=
 ∃o r e,ops[i]? =some o/\gu P T G V ops (Q.sl i) (Q.M i) o st r e/\e.pre st.hp/\(∀b∈e.wr,b∈Q.wr i)/\(e.cu=true->Q.lou i=true)/\st'=⟨aT st.regs o.dst r,e.ap st.hp⟩
structure ix(ops:Array Oper)(pl:fu)(i j:Nat):Prop where
 regs:∀oi X,ops[i]? =some oi->ops[j]? =some X->(∀d,oi.dst=some d->d∉e5 ops X)/\(∀d,X.dst=some d->d∉e5 ops oi)/\(∀d,oi.dst=some d->X.dst≠some d)
 lou:pl.lou i=false\/pl.lou j=false
 EA:(∀b∈pl.wr j,b∈pl.M i)/\(∀b∈pl.wr i,b∈pl.M j)
 ca:∀b∈pl.wr i,b∉pl.wr j
def FO{regs:eG}{d:Option Tmp}{r:RV}{g:Nat×Bool}(h:∀k,(ops[g.1]?).bind (·.dst)=some k->d≠some k):k6 ops (aT regs d r) g=k6 ops regs g:=by unfold k6;cases C:(ops[g.1]?).bind (·.dst) with| none=>rfl|some k=>(cases d with| none=>rfl|some d=>(have:d≠k:=fun e=>h k C (by rw[e]);simp only[aT];exact kg))
def nE{regs:eG}{d:Option Tmp}{r:RV}{o:Oper}(h:∀k,d=some k->k∉e5 ops o):bD ops (aT regs d r) o=bD ops regs o:=by unfold bD;cases x:o.guard with| none=>rfl|some g=>(refine FO fun k C e=>h k e ?_;unfold e5;simp[x,C])
def mb{regs:eG}{d:Option Tmp}{r:RV}{o:Oper}(h:∀k,d=some k->k∉e5 ops o):∀x∈o.op.operands,aQ (aT regs d r) x=aQ regs x:=by intro x M;refine Iy fun i e V=>h i V ?_;unfold e5;rw[aaV];exact .inl (FM kg)
def gu.regs{v:Option Nat}{M:ak}{o:Oper}{regs regs':eG}{hp:ag}{r:RV}{e:aF}(t:bD ops regs' o=bD ops regs o)(N:∀x∈o.op.operands,aQ regs x=aQ regs' x)(h:gu P T G V ops v M o ⟨regs,hp⟩ r e):gu P T G V ops v M o ⟨regs',hp⟩ r e:=by(rcases h with⟨h1,h2⟩|⟨h1,h2,h3⟩);{exact alz};exact .inr ⟨t.trans h1,h2,h3.congr N⟩
def gu.heap{v:Option Nat}{M:ak}{o:Oper}{regs:eG}{hp R:ag}{r:RV}{e:aF}(i:(e.cu=false/\Up (aL M hp) (aL M R))\/aL M hp=aL M R)(h:gu P T G V ops v M o ⟨regs,hp⟩ r e):gu P T G V ops v M o ⟨regs,R⟩ r e:=by(rcases h with⟨h1,h2⟩|⟨h1,h2,h3⟩);{exact .inl ⟨h1,h2⟩};(rcases i with⟨N,i⟩|i);{exact .inr ⟨h1,h2,h3.up N i⟩};refine .inr ⟨h1,h2,?_⟩;exact kg
def gu.ts{v:Option Nat}{M:ak}{o:Oper}{st:St}{r:RV}{e:aF}(h:gu P T G V ops v M o st r e):∀b∈e.ts,b∉M:=by(rcases h with⟨_,_,rfl⟩|⟨_,_,h3⟩);{intro b O;simp[aF.ts]at O};exact h3.ts
def tS{regs:eG}{d d':Option Tmp}{r r':RV}(h:∀k,d=some k->d'≠some k):aT (aT regs d r) d' r'=aT (aT regs d' r') d r:=by cases d with| none=>rfl|some d=>(cases d' with| none=>rfl|some d'=>simp only[aT];rw[aaU];grind)
def h9.swap{Q:fu}{i j:Nat}(y:ix ops Q i j){st N O:St}(l:h9 P T G V ops Q j st N)(m:h9 P T G V ops Q i N O): ∃B,h9 P T G V ops Q i st B/\h9 P T G V ops Q j B O:=by(obtain⟨X,L,d,z,s,t,u,v,rfl⟩:=l;obtain⟨w,R,A,C,D,E,F,H,rfl⟩:=m;obtain⟨g,n,o⟩:=y.regs w X C z;simp only at D E;have S:A.cu=false\/d.cu=false:=by(rcases y.lou with h|h);{exact kg};exact kg);(have I:∀b∈d.wr,b∈Q.M i:=fun b U=>y.EA.1 b (u b U);have p:∀b∈A.wr,b∈Q.M j:=fun b U=>y.EA.2 b (F b U);have q:∀b∈A.wr,b∉d.wr:=fun b U W=>y.ca b (F b U) (u b W);have J:∀b∈d.wr,b∉A.wr:=fun b U W=>q b W U;have a:gu P T G V ops (Q.sl i) (Q.M i) w st R A:=by have c:gu P T G V ops (Q.sl i) (Q.M i) w ⟨st.regs,d.ap st.hp⟩ R A:=D.regs (nE fun k K=>n k K).symm fun x Y=>mb (fun k K=>n k K) x Y;refine c.heap ?_;(rcases S with S|S);{exact .inl ⟨S,(Bf t I).2⟩};exact .inr (yk S I));have p1:A.pre st.hp:=Hs S t q E;have Z:∀b∈A.wr,b∉d.ts:=fun b U W=>s.ts b W (p b U);have e:∀b∈d.wr,b∉A.ts:=fun b U W=>a.ts b W (I b U);refine⟨_,⟨w,R,A,C,a,p1,F,H,rfl⟩,⟨X,L,d,z,?_,Ke S.symm p1 J t,u,v,?_⟩⟩;{have c:gu P T G V ops (Q.sl j) (Q.M j) X ⟨aT st.regs w.dst R,st.hp⟩ L d:=gu.regs (regs:=st.regs) (nE fun k K=>g k K) (fun x Y=>(mb (fun k K=>g k K) x Y).symm) s;refine c.heap ?_;(rcases S with S|S);{exact .inr (yk S p).symm};exact .inl ⟨S,(Bf p1 p).1⟩};(have f:aT (aT st.regs X.dst L) w.dst R=aT (aT st.regs w.dst R) X.dst L:=(tS o).symm;have r:A.ap (d.ap st.hp)=d.ap (A.ap st.hp):=by(rcases S with S|S);{exact zE S p1 t q Z};exact(zE S t p1 J e).symm);exact kg
def zF{M N:(List Nat)}{hp:(List Ob)}(k:∀(b:Nat) o,b∉N->(aL M hp)[b]? =some o->bT o=true): aL N (aL M hp)=aL N hp/\∀(b:Nat) o,b∉N->hp[b]? =some o->bT o=true:=by(have s:∀b∈M,b<hp.length->b∈N:=by intro b O x;by_cases hm:b∈N;{exact hm};have:=k b .gone hm (by rw[i7 O,List.getElem?_eq_getElem x];rfl);simp[bT]at this);refine⟨Iv s,fun b o O z=>k b o O ?_⟩;rw[dS];all_goals grind
def h9.Uu{Q:fu}{i:Nat}{st st':St}(h:h9 P T G V ops Q i st st'):oS P T G V ops Q.sl i st st':=by obtain⟨o,r,e,z,j,F,_,_,rfl⟩:=h;refine⟨o,z,?_⟩;(rcases j with⟨hw,rfl,rfl⟩|⟨hw,x,hd⟩);{exact .inl ⟨hw,rfl⟩};refine .inr ⟨hw,x,r,e.ap st.hp,?_,rfl⟩;unfold er at hd;unfold wo;split;{rename_i f args hc;simp only[hc]at hd;(rcases hd with⟨g,M,d,ts,l,m,n,rfl⟩|⟨c,M,M2,L,W,l,m,n,rfl⟩);{refine .inl ⟨g,M,d,ts,l,uD (Up.aL _ _) m,n,?_⟩;exact WX};obtain⟨p,q,t,u⟩:=F;obtain⟨v,w⟩:=zF n;exact .inr ⟨c,M,M2,L,l,by simp_all,fun b O=>by simp_all,w,rfl⟩};rename_i hc;simp only[hc]at hd;split;{rename_i s A;simp only[A]at hd;obtain⟨H,l,rfl⟩:=hd;exact⟨H,l,F,rfl⟩};rename_i A;simp only[A]at hd;(rcases hd with⟨rfl,k⟩|⟨M2,L,W,l,m,rfl⟩);{exact k _ (Up.aL _ _)};obtain⟨p,q,t,u⟩:=F;obtain⟨v,w⟩:=zF m;rw[v]at l;exact Gy (fun b O=>by simp_all) l
end
def uF(h:ak)(o:Oper):Nat:=o.after.toList.foldl (fun s e=>if Region.binds .any e then s ||| 2^e.on ||| h.getD e.on 0 else s) 0
def ec(h:ak):List Oper->ak
 | []=>h
 |o::os=>ec (h++[uF h o]) os
def vH(ops:List Oper)(h:ak):Prop:=∀i j,(h.getD i 0).testBit j=true->∃o,ops[i]? =some o/\∃e∈o.after,Region.binds .any e=true/\(e.on=j\/(h.getD e.on 0).testBit j=true)
def Fq{i:(List Nat)}{o:Oper}{j:Nat}(h:(uF i o).testBit j=true):∃e∈o.after,Region.binds .any e=true/\(e.on=j\/(i.getD e.on 0).testBit j=true):=by
 have key:∀(l:List Edge)(s:Nat),(l.foldl (fun s e=>if Region.binds .any e then s ||| 2^e.on ||| i.getD e.on 0 else s) s).testBit j=true->
   s.testBit j=true\/∃e∈l,Region.binds .any e=true/\(e.on=j\/(i.getD e.on 0).testBit j=true):=by
  intro l
  induction l with
  |nil=>simp_all
  |cons e l d=>
   grind
 rcases key _ _ h with V|⟨e,h1,h2⟩
 all_goals grind
def tT{k:ak}{m i j:Nat}(h:(k.getD i 0).testBit j=true):((k++[m]).getD i 0).testBit j=true:=by grind
def yo:∀(m pre:List Oper)(acc:ak),acc.length=pre.length->vH (pre++m) acc->vH (pre++m) (ec acc m)
 | [],pre,acc,_,h=>h
 |o::m,pre,acc,hl,h=>by
  have e:pre++o::m=(pre++[o])++m:=by simp
  rw[e]at h |-
  refine yo m (pre++[o]) (acc++[uF acc o]) (by simp[hl]) ?_;intro i j O
  rcases VI i acc.length with hi|hi
  ·have P:(acc.getD i 0).testBit j=true:=by
    rw[VS,Ws hi]at O;rw[VS];exact O
   obtain⟨y,k,u,l,n,p⟩:=h i j P
   grind
  rcases Nat.eq_or_lt_of_le hi with he|R
  ·subst he;rw[VS,Xo (vA _)]at O;simp only[Nat.sub_self,List.getElem?_cons_zero,aaQ]at O;obtain⟨u,k,l,n⟩:=Fq O
   grind
  grind
def Iz(ops:Array Oper):vH ops.toList (ec [] ops.toList):=by have:=yo ops.toList [] [] rfl (by intro i j h;simp at h);exact kg
def i9(ops:Array Oper):Bool:=ops.toList.zipIdx.all fun(o,i)=>o.after.toList.all fun e=> !Region.binds .any e || Nat.blt e.on i
def tx{ops:Array Oper}(h:i9 ops=true){i:Nat}{o:Oper}(z:ops[i]? =some o){e:Edge}(V:e∈o.after)(O:Region.binds .any e=true):e.on<i:=by(unfold i9 at h;rw[LA]at h;have hm:(o,i)∈ops.toList.zipIdx:=by rw[List.mem_zipIdx_iff_getElem?];simpa using z);have h1:=h (o,i) hm;simp only[LA]at h1;have h2:=h1 e (acz.2 V);exact kg
section
variable {P:lB} {T:aq} [aG P T] {G:az} {V:ft} {ops:Array Oper} {md:Region.Mode}
def g'(P:lB)(T:aq)(G:az)(V:ft)(ops:Array Oper)(Q:fu):ak->St->St->Prop
 | [],st,st'=>st'=st
 |i::l,st,st'=>∃s,h9 P T G V ops Q i st s/\g' P T G V ops Q l s st'
def g'.front{Q:fu}{i:Nat}:∀{s t:ak}{st st':St},(∀j∈s,ix ops Q i j)->g' P T G V ops Q (s++i::t) st st'->g' P T G V ops Q (i::(s++t)) st st'
 | [],t,st,st',_,h=>h
 |j::s,t,st,st',hi,h=>by
  obtain⟨u,l,m⟩:=h;obtain⟨v,n,o⟩:=g'.front (fun k C=>hi k (Xr _ C)) m;obtain⟨w,p,q⟩:=h9.swap (hi j s_) l n;exact⟨w,p,v,q,o⟩
def ek(n:Nat)(N:Array Bool):ak:=(List.range n).filter fun i=> !N.getD i true
def xP{n i:Nat}{N:Array Bool}{s t:(List Nat)}(h:ek n N=s++i::t)(K:i<N.size):ek n (N.setIfInBounds i true)=s++t:=by(have o:(ek n N).Nodup:=List.Nodup.sublist List.filter_sublist List.nodup_range;have h1:ek n (N.setIfInBounds i true)=(ek n N).filter fun k=>k !=i:=by unfold ek;rw[List.filter_filter];apply List.filter_congr;intro k _;by_cases C:k=i;{simp_all};rw[getD_set_ne true (Ne.symm C)];simp[C]);rw[h1,h];rw[h]at o;rw[List.nodup_append]at o;obtain⟨p,q,r⟩:=o;rw[List.nodup_cons]at q;rw[List.filter_append,List.filter_cons];simp only[bne_self_eq_false,Bool.false_eq_true,if_false];rw[List.filter_eq_self.2,List.filter_eq_self.2];all_goals grind
def uG(ops:Array Oper)(N:Array Bool):Prop:=∀i o,N.getD i false=true->ops[i]? =some o->∀e∈o.after,Region.binds .any e=true->N.getD e.on false=true
def tz(g:i9 ops=true){N:Array Bool}(c:uG ops N){j:Nat}:∀(n i:Nat),i<=n->((ec [] ops.toList).getD i 0).testBit j=true->(∀o,ops[i]? =some o->∀e∈o.after,Region.binds .any e=true->N.getD e.on false=true)->N.getD j false=true
 |n,i,hn,hb,hp=>by
  obtain⟨o,h,e,k,l,m⟩:=Iz ops i j hb;have z:ops[i]? =some o:=by simpa using h
  have hl:=hp o z e k l
  rcases m with rfl|m
  ·exact hl
  have K:=tx g z k l
  match n,hn with
  | 0,hn=>omega
  |n+1,hn=>exact tz g c n e.on w_ m (fun y f p F O=>c e.on y hl f p F O)
def Kf{e:Edge}(h:Region.binds .any e=true):Region.binds md e=true:=by unfold Region.binds at*;grind
def gJ.g6(g:i9 ops=true){R:fu}(a:∀i j,j<i->i<ops.size->((ec [] ops.toList).getD i 0).testBit j=true\/ix ops R i j)
  {Q:St->Prop} {A:St} (Y:Q A):∀(S:Nat)(N:Array Bool)(st:St),N.size=ops.size->uG ops N->(ek ops.size N).length=S->
  g' P T G V ops R (ek ops.size N) st A->gJ P T G V .any ops R.sl Q S N st
 | 0,N,st,r,hc,hl,C=>by
  have:ek ops.size N=[]:=aeU hl;rw[this]at C;simp only[g']at C;subst C;exact Y
 |S+1,N,st,r,hc,hl,C=>by
  have d:(ek ops.size N).Pairwise (·<·):=ah7 acI List.pairwise_lt_range;refine⟨fun F=> ?_,fun i y=> ?_⟩
  ·exfalso;cases l:ek ops.size N with
   |nil=>simp_all
   |cons k b=>
    have D:k∈ek ops.size N:=by rw[l];simp
    unfold ek at D;rw[aaJ]at D;have v:k<ops.size:=ZJ.1 D.1;have hm:k∈Region.ready .any ops N:=by
     rw[mem_ready];refine⟨by simp_all,ops[k],by simp[v],fun e W O=> ?_⟩;have K:=tx g (i:=k) (o:=ops[k]) (by simp[v]) W O;have fX:e.on<N.size:=by rw[r];omega
     cases hle:N[e.on]with
     |true=>simp[fX,hle]
     |false=>
      exfalso;have x:e.on∈ek ops.size N:=by
       unfold ek;rw[aaJ];exact⟨ZJ.2 w_,by simp[fX,hle]⟩
      rw[l]at x d
      rcases V0.1 x with h|h
      ·omega
      have:=(acH.1 d).1 e.on h;omega
    simp_all
  obtain⟨l,o,z,H⟩:=mem_ready.1 y;have K:i<ops.size:=(aaT.1 z).1;have U:i∈ek ops.size N:=by
   unfold ek;rw[aaJ];exact⟨ZJ.2 K,by rw[l];rfl⟩
  obtain⟨s,t,B⟩:=List.append_of_mem U;have D:∀o,ops[i]? =some o->∀e∈o.after,Region.binds .any e=true->N.getD e.on false=true:=by
   intro E f e W O;rw[z]at f;simp at f;subst f;exact H e W (Kf O)
  have X:∀j∈s,ix ops R i j:=by
   intro j u;have p:j<i:=by
    rw[B,List.pairwise_append]at d;exact d.2.2 j u i s_
   rcases a i j p K with h|h
   ·exfalso;have Z:=tz g hc i i (vA _) h D;have b:j∈ek ops.size N:=by rw[B];simp[u]
    unfold ek at b
    grind
   exact h
  rw[B]at C;obtain⟨v,m,n⟩:=g'.front X C;refine⟨v,m.Uu,gJ.g6 g a Y S _ v (by simp[r]) ?_ ?_ ?_⟩
  ·intro k E I f e W O
   by_cases w:k=i
   ·subst w;exact getD_set_true (D E f e W O)
   rw[getD_set_ne false (Ne.symm w)]at I;exact getD_set_true (hc k E I f e W O)
  ·rw[xP B w_]
   grind
  rw[xP B w_];exact n
def cW.uH(l:bf T)(n:V.Ok P G){Q:St->Prop}{st A:St}(M:ak)(R:fu)(y:R.sl=h8 M st.hp.length)(g:i9 ops=true)(a:∀i j,j<i->i<ops.size->((ec [] ops.toList).getD i 0).testBit j=true\/ix ops R i j)(x:P.follows .mixedOrders=true)(w:g' P T G V ops R (List.range ops.size) (gn M st) A)(Y:Q A):cW P G ops st Q:=by(have e:ek ops.size (Array.replicate ops.size false)=List.range ops.size:=by unfold ek;rw[aeX];intro k C;have:=ZJ.1 C;simp[this]);refine cW.Ka l n M ?_ x;rw[<- y];refine gJ.g6 g a Y ops.size _ _ s_ ?_ (by rw[e];simp) (by simp_all);exact avk
end
noncomputable def su(l:eG):Nat->RV:=List.rec (motive:=fun _=>Nat->RV) (fun _=>bl) (fun r _ d n=>Nat.rec (motive:=fun _=>RV) r (fun m _=>d m) n) l
noncomputable def sw(v:RV)(l:eG):Nat->eG:=List.rec (motive:=fun _=>Nat->eG) (fun _=>[]) (fun r w d n=>Nat.rec (motive:=fun _=>List RV) (v::w) (fun m _=>r::d m) n) l
def AA:∀(l:eG)(i:Nat),su l i=l.getD i bl
 | [],i=>by simp[su]
 |r::l,0=>rfl
 |r::l,i+1=>by
  show su l i=_;rw[AA l i];simp
def AB(v:RV):∀(l:eG)(i:Nat),sw v l i=l.set i v
 | [],i=>by simp[sw]
 |r::l,0=>rfl
 |r::l,i+1=>by
  show r::sw v l i=_;rw[AB v l i];rfl
noncomputable def gR(regs:eG)(x:Operand):RV:=Operand.rec (motive:=fun _=>RV) (fun i=>su regs i) (fun v=>(g8 v).getD bl) (fun g=>atR (.pointer (some ⟨g,0,none⟩))) (fun f=>atR (.func (.func f) #[] #[])) x
def rD(regs:eG):gR regs=aQ regs:=by funext x;cases x with| tmp i=>exact AA regs i|_=>rfl
noncomputable def jn(regs:eG)(dst:Option Tmp)(r:RV):eG:=Option.rec (motive:=fun _=>List RV) regs (fun d=>sw r regs d) dst
def AC(regs:eG)(dst:Option Tmp)(r:RV):jn regs dst r=aT regs dst r:=by cases dst with| none=>rfl|some d=>exact AB r regs d
def hE(op:Op):lB->aq->az->(Operand->RV)->Oper->ag->Option (RV×ag):=
 match op with
 | .move x=>fun _ _ _ ρ _ hp=>some (ρ x,hp)
 | .assign x=>fun _ _ _ ρ _ hp=>some (ρ x,hp)
 | .load t a=>fun _ T G ρ _ hp=>a8 T G t (ρ a) hp
 | .store t a v=>fun _ T _ ρ _ hp=>cf T t (ρ a) (ρ v) hp
 | .binOp op t x y _=>fun P T _ ρ _ hp=>bj P T op t x y (ρ x) (ρ y) hp
 | .fieldAddr s x f=>fun _ T _ ρ _ hp=>nG T s (ρ x) f hp
 | .indexAddr t x R=>fun _ T _ ρ _ hp=>a5 T t (ρ x) (ρ R) hp
 | .convert s d x=>fun P T _ ρ _ hp=>match ρ x with
  | .v (.one (.ref b o))=>jS P T s d b o hp
  |r=>e8 P T s d r hp
 |_=>fun P T G ρ o hp=>aJ P T G ρ o hp
def hQ(o:Oper)(P:lB)(T:aq)(G:az)(ρ:Operand->RV)(hp:ag):hE o.op P T G ρ o hp=aJ P T G ρ o hp:=by obtain⟨dst,op,type,pos,after,guard⟩:=o;cases op<;>rfl
end Go.Sx
