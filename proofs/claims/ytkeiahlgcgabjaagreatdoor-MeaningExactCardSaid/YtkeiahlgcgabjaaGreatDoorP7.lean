/- Part of MeaningExact. -/
import Derived.Test.YtkeiahlgcgabjaaGreatDoorP6
set_option linter.all false
set_option maxRecDepth 1000000
set_option maxHeartbeats 0
namespace Go.Sx
def kn:Code->ak->pA->pA
 | .seq a b,0::p,k=>kn a p (.code b::k)
 | .seq _ b,_::p,k=>kn b p k
 | .block id c,_::p,k=>kn c p (.inBlock id::k)
 | .loop c,_::p,k=>kn c p (.inLoop c::k)
 | .cond _ x _,0::p,k=>kn x p k
 | .cond _ _ y,_::p,k=>kn y p k
 | .region _ ops _,j::_,k=> .inRegion ops (List.range' j (ops.size - j))::k
 |c,_,k=> .code c::k
def CB(i:Nat):List (Nat×RV)->Option RV
 | []=>none
 |(j,r)::l=>match Nat.beq i j with
  |true=>some r
  |false=>CB i l
def bd(n:Nat)(l:List (Nat×RV))(J:Nat->RV):eG:=(List.range n).map fun i=>match CB i l with
 |some r=>r
 |none=>J i
def ko(n:Nat)(l:ak):List Bool:=(List.range n).map fun i=>l.contains i
section
variable {P:lB} {T:aq} {G:az} {n:Nat} {fn:FuncId} {st:St} {Q:St->Prop} {todo:pA}
noncomputable def cut(P:lB)(T:aq)(G:az)(m n:Nat)(K x:ak)(J:Nat->RV)(todo:pA)(st:St):Option (List Item×St):=
 match a' P T G m todo st with
 |(todo',st')=>match fS (posOf n K) J 0 (ko st'.regs.length x) st'.regs,gL n K st'.hp with
  |some r,some h=>some (todo',⟨r,h⟩)
  |_,_=>none
def Fin.cut[aG P T](k:bf T)(m:Nat)(K x:ak)(C:oz n K=true){todo':pA}{f:(Nat->RV)->eG}{hp':ag}(h:∀J,cut P T G m n K x J todo st=some (todo',⟨f J,hp'⟩))(U:∀J,Fin P G n fn todo' ⟨f J,hp'⟩ Q):Fin P G n fn todo st Q:=by cases t:Sx.a' P T G m todo st with| mk a s=>((have key:∀J,a=todo'/\fS (posOf n K) J 0 (ko s.regs.length x) s.regs=some (f J)/\gL n K s.hp=some hp':=by intro J;have:=h J;unfold Sx.cut at this;rw[t]at this;simp only at this;split at this;{exact kg};simp at this);obtain⟨rfl,_,i⟩:=key fun _=>bl;refine Fin.a' k m t ?_;refine Fin.abs (lF.EB K (ko s.regs.length x) C i (fun J=>(key J).2.1)) ?_;exact kg)
def oU(fn:FuncId):pA->Bool
 | []=>true
 | .code .ret::_=>true
 | .code (.exit id)::k=>cK fn && (exitTo id k).isNone
 |_=>false
def EC:pA->Ex
 | .code .ret::_=> .ret
 | .code (.exit id)::_=> .exit id
 |_=> .normal
def Fin.fin(V:oU fn todo=true)(h:Q (io fn (EC todo) st)):Fin P G n fn todo st Q:=by refine Fin.stop ?_ h;unfold oU at V;split at V;{exact rfl};{exact⟨_,rfl⟩};{simp only[Cz,ah8]at V;exact⟨V.1,_,rfl,V.2⟩};simp at V
def oA:pA->St->Option (FuncId×List RV×List Nat×Option Tmp×pA)
 | .inRegion ops (i::is)::k,st=>match ops[i]? with
  |some o=>match bD ops st.regs o with
   |some true=>match cR o with
    |true=>match bR o.op with
     |some (f,args)=>match cL (aQ st.regs f) (args.map (aQ st.regs)) with
      |some (.fn g,M)=>match ep st.hp M with
       |some (d,ts)=>some (g,d,ts,o.dst,.inRegion ops is::k)
       |none=>none
      |_=>none
     |none=>none
    |false=>none
   |_=>none
  |none=>none
 |_,_=>none
def Fin.gp[aG P T](k:bf T){g:FuncId}{l:eG}{Z:ak}{dst:Option Tmp}{a:pA}{F:RV->Prop}(h:oA todo st=some (g,l,Z,dst,a))(R:aR P G g l F)(U:∀r,F r->eE r=true->Fin P G n fn a ⟨aT st.regs dst r,if ei r then st.hp else bv Z st.hp⟩ Q):Fin P G n fn todo st Q:=by unfold oA at h;split at h;{split at h;{rename_i o z;split at h;{rename_i hw;split at h;{rename_i x;split at h;{rename_i f args hc;split at h;{rename_i u y m;split at h;{rename_i d W hz;simp only[pB,q0]at h;obtain⟨rfl,rfl,rfl,rfl,rfl⟩:=h;exact Fin.call k z hw x hc m (am.mr hz R fun r C hp=>U r C hp)};simp at h};simp at h};simp at h};simp at h};simp at h};simp at h};simp at h
def aR.ex[aG P T]{f:FuncId}{fn:Func}{c:Code}{args:eG}{Q:RV->Prop}(U:P.funcs[f]? =some fn)(O:fn.body=some c) (x:fn.name≠ "runtime.NumGoroutine")
  (h:Fin P G 0 f [.code c] ⟨dm fn args,[]⟩ fun st=>∃r,bQ T G fn st=some r/\∃y Z,bg st.hp r=some (y,Z)/\Q y) (R:cK f=false:=by rfl):aR P G f args Q:=
 am.ex (L:=[]) U O x h R
end
def vK(P:lB)(G:az):ft:=⟨fun g M r=>aR P G g M (·=r),fun c M h r L=>am P G c M h fun y n=>y=r/\n=L⟩
def Hy{P:lB}{G:az}:(vK P G).Ok P G:=⟨fun _ _ _ h=>h,fun _ _ _ _ _ h=>h⟩
def er.P5{P:lB}{T:aq}{G:az}{V M:ft}(Q:∀g N r,V.v g N r->M.v g N r)(t:∀c N h r L,V.o c N h r L->M.o c N h r L){w:Option Nat}{o:Oper}{ρ:Operand->RV}{h:ag}{r:RV}{e:aF}(U:er P T G V w o ρ h r e):er P T G M w o ρ h r e:=by unfold er at*;grind
def DW(P:lB)(T:aq)(G:az)(ops:Array Oper)(pl:fu)(l:ak)(st:St)(Q:St->Prop):Prop:=∃A,g' P T G (vK P G) ops pl l st A/\Q A
def r6(T:aq)(ops:Array Oper)(base:Nat)(y:List (ak)):fu:=⟨h8 (hM ops) base,r5 ops.size (ec [] ops.toList) y,fun k=>y.getD k [],lD T ops⟩
noncomputable def P6(P:lB)(T:aq)(G:az):bO:={P:=P,T:=T,G:=G,func:=fun _=>none,own:=fun _=>false,val:=fun _ _=>none}
def u7:dp:=fun _ _ _=>none
def Sc(a b:ak):Bool:=a.all fun x=>b.contains x
noncomputable def rG(P:lB)(T:aq)(G:az)(ops:Array Oper)(pl:fu)(i:Nat)(st:St):Option St:=match ops[i]? with
 |some o=>match bD ops st.regs o with
  |some false=>some ⟨aT st.regs o.dst bl,st.hp⟩
  |some true=>match cR o with
   |true=>match bR o.op with
    |some _=>none
    |none=>match sz (P6 P T G) u7 (pl.sl i) o (aQ st.regs) (aL (pl.M i) st.hp) with
     |some (r,e)=>match preB e st.hp with
      |true=>match Sc e.wr (pl.wr i) with
       |true=>some ⟨aT st.regs o.dst r,e.ap st.hp⟩
       |false=>none
      |false=>none
     |none=>none
   |false=>none
  |none=>none
 |none=>none
noncomputable def DP(P:lB)(T:aq)(G:az)(ops:Array Oper)(pl:fu)(m:Nat):ak->St->List Nat×St:=
 Nat.rec (motive:=fun _=>List Nat->St->List Nat×St) (fun l st=>(l,st)) (fun _ d l st=>match l with
  | []=>([],st)
  |i::is=>match rG P T G ops pl i st with
   |some st'=>d is st'
   |none=>(i::is,st)) m
section
variable {P:lB} {T:aq} {G:az} {ops:Array Oper} {pl:fu} {Q:St->Prop} {n:Nat} {fn:FuncId}
def GI(t:∀i o,ops[i]? =some o->fw T o=true->pl.lou i=true){i:Nat}{st st':St}(h:rG P T G ops pl i st=some st'):h9 P T G (vK P G) ops pl i st st':=by unfold rG at h;split at h;{rename_i o z;split at h;{rename_i hw;simp at h;subst h;exact⟨o,bl,.eA,z,.inl ⟨hw,rfl,rfl⟩,trivial,by simp[aF.wr],by simp[aF.cu],rfl⟩};{rename_i hw;split at h;{rename_i x;split at h;{simp at h};split at h;{rename_i r e he;split at h;{rename_i hp;split at h;{rename_i A;simp at h;subst h;obtain⟨k,l,m⟩:=AF he;refine⟨o,r,e,z,.inr ⟨hw,x,?_⟩,AD l hp,fun b O=> ?_,fun y=>t i o z (m y),rfl⟩;{refine er.P5 ?_ ?_ k;{intro g M r V;simp[gp,h_,u7]at V};intro c M u r L V;simp[gp,u7]at V};have:=LA.1 A b O;exact kg};simp at h};simp at h};simp at h};simp at h};simp at h};simp at h
def DW.a'(t:∀i o,ops[i]? =some o->fw T o=true->pl.lou i=true):∀(m:Nat){l l':ak}{st st':St},DP P T G ops pl m l st=(l',st')->DW P T G ops pl l' st' Q->DW P T G ops pl l st Q
 | 0,l,l',st,st',h,hd=>by
  have:(l,st)=(l',st'):=h
  simp_all
 |m+1,l,l',st,st',h,hd=>by
  cases l with
  |nil=>
   have h:(([]:ak),st)=(l',st'):=h
   simp_all
  |cons i is=>
   have h:(match rG P T G ops pl i st with
    |some st'=>DP P T G ops pl m is st'
    |none=>(i::is,st))=(l',st'):=h
   split at h
   ·rename_i s A;obtain⟨B,j,k⟩:=DW.a' t m h hd;exact⟨B,⟨s,GI t A,j⟩,k⟩
   simp_all
def DW.done{st:St}(h:Q st):DW P T G ops pl [] st Q:=⟨st,rfl,h⟩
def CH(ops:Array Oper)(pl:fu)(i:Nat)(st:St):Option (FuncId×List RV×List Nat×Option Tmp):=match ops[i]? with
 |some o=>match bD ops st.regs o with
  |some true=>match cR o with
   |true=>match bR o.op with
    |some (f,args)=>match cL (aQ st.regs f) (args.map (aQ st.regs)) with
     |some (.fn g,N)=>match ep (aL (pl.M i) st.hp) N with
      |some (d,ts)=>some (g,d,ts,o.dst)
      |none=>none
     |_=>none
    |none=>none
   |false=>none
  |_=>none
 |none=>none
def DW.call(t:∀i o,ops[i]? =some o->fw T o=true->pl.lou i=true){i:Nat}{is:ak}{st:St}{g:FuncId}{ags:eG}{ts:ak}{dst:Option Tmp}{r:RV}(h:CH ops pl i st=some (g,ags,ts,dst))(R:aR P G g ags (·=r))(U:DW P T G ops pl is ⟨aT st.regs dst r,if ei r then st.hp else bv ts st.hp⟩ Q):DW P T G ops pl (i::is) st Q:=by obtain⟨A,j,k⟩:=U;refine⟨A,⟨_,?_,j⟩,k⟩;unfold CH at h;split at h;{rename_i o z;split at h;{rename_i hw;split at h;{rename_i x;split at h;{rename_i f args hc;split at h;{rename_i u y m;split at h;{rename_i d W hz;simp only[pB,q0]at h;obtain⟨rfl,rfl,rfl,rfl⟩:=h;refine⟨o,r,if ei r then .eA else .fz W,z,.inr ⟨hw,x,?_⟩,?_,?_,fun _=>t i o z (by unfold fw;simp[hc]),?_⟩;{unfold er;simp only[hc];exact .inl ⟨u,y,d,W,m,hz,R,rfl⟩};{split<;>trivial};{intro b O;split at O<;>simp[aF.wr]at O};exact WX};simp at h};simp at h};simp at h};simp at h};simp at h};simp at h
def cW.P7[aG P T](k:bf T)(x:P.follows .mixedOrders=true){st:St}(y:List (ak))(A:ow T ops=true)(e:ox ops.size (ec [] ops.toList) y=true)(h:DW P T G ops (r6 T ops st.hp.length y) (List.range ops.size) (gn (hM ops) st) Q):cW P G ops st Q:=by obtain⟨B,w,Y⟩:=h;obtain⟨g,a⟩:=xq A;refine cW.uH k Hy (hM ops) (r6 T ops st.hp.length y) rfl g (fun i j p z=> ?_) x w Y;by_cases c:((ec [] ops.toList).getD i 0).testBit j=true;{exact .inl c};(rcases a i j p z with O|O);{exact .inl O};(have H:Nat.beq i j=false:=by exact au7);(have d:Nat.beq j i=false:=by exact au8);(have u:hU (ec [] ops.toList) i j=true:=by(have:Nat.blt j i=true:=by simpa[Ya] using p);simp only[hU,H,this];simpa using c);(have v:hU (ec [] ops.toList) j i=true:=by(have:Nat.blt i j=false:=by exact atS);simp only[hU,d,this];simpa using c);exact asQ
def mu:pA->Option (Array Oper×pA)
 | .code (.region _ ops true)::k=>some (ops,k)
 |_=>none
def Fin.CI[aG P T](k:bf T)(x:P.follows .mixedOrders=true){todo todo':pA}{st:St}(y:List (ak))(U:mu todo=some (ops,todo'))(A:ow T ops=true)(e:ox ops.size (ec [] ops.toList) y=true)(h:DW P T G ops (r6 T ops st.hp.length y) (List.range ops.size) (gn (hM ops) st) fun st'=>Fin P G n fn todo' st' Q):Fin P G n fn todo st Q:=by unfold mu at U;split at U;{simp at U;obtain⟨rfl,rfl⟩:=U;exact Fin.draw (cW.P7 k x y A e h)};simp at U
def fT{base:Nat}{y:List (ak)}:∀i o,ops[i]? =some o->fw T o=true->(r6 T ops base y).lou i=true:=tU
def de(c:Code)(p:ak):Array Oper:=match kn c p []with
 | .code (.region _ ops _)::_=>ops
 |_=>#[]
end
section
variable {P:lB} {T:aq} {G:az} {L:ag}
def cx(P:lB)(G:az)(f:FuncId)(args:eG)(cs:lW)(Q:RV->lW->Prop):Prop:=
 am P G (.fn f) args [.cells cs false] fun r L=>∃y Z b,bg L r=some (y,Z)/\0∉Z/\L[0]? =some (.cells b false)/\b.all cj=true/\Q y b
def only(b k:Nat):Option Nat:=match Nat.beq k b with
 |true=>some 0
 |false=>none
def IA{b k G:Nat}(h:only b k=some G):k=b/\G=0:=by unfold only at h;split at h;all_goals simp_all
def am.IB{f:FuncId}{args T:eG}{b:Nat}{cs:lW}{Q:RV->lW->Prop}(O:L[b]? =some (.cells cs false))(X:∀(k:Nat) o,k≠b->L[k]? =some o->o= .gone)(j:cs.all cj=true)(C:ba (hj (only b)) args=some T)(R:cx P G f T cs Q): am P G (.fn f) args L fun r n=>∃c,Q r c/\eE r=true/\c.all cj=true/\n=L.set b (.cells c false):=by
 refine am.lift R ?_;intro A S w vs E D z R;obtain⟨F,l,m,p,q,U,a,s,Z,-,fW⟩:=D.ob b _ O;let V:ay:=fun k=>if k=0 then S b else none
 have W:V 0=some (F,l):=by simp[V,U]
 have J:∀B,ch V [.cells cs false] B->B=F:=by(rintro B ⟨k,H,d,t,I,K⟩;have:k=0:=by have:=(se.1 t).1;simp at this;exact this);subst this;rw[W]at K;simp at K;exact K.1.symm
 have M:ch S L F:=⟨b,_,l,O,rfl,U⟩;have N:al G A V [.cells cs false] w:=by refine⟨fun k o h=> ?_,fun B Y ap=> ?_,D.lt,fun k aw o a0 B d a1 a2 t I K=> ?_,fun k B d h=> ?_,D.gl⟩;{(have a_:k=0:=by have:=(se.1 h).1;simp at this;exact this);subst a_;simp at h;subst h;refine⟨F,l,m,p,q,W,a,s,Z,fun h=>by simp at h,fun i x be=> ?_⟩;obtain⟨v,bo,br⟩:=fW i x be;exact⟨v,bo,Rel.gr (fun _ h=>h) (LA.1 j x (WI be)) br⟩};{rw[J B ap]at Y;exact D.ca F Y M};{grind};grind
 have a_:aN A V w T vs:=by obtain⟨be,bo⟩:=hH C;refine⟨by rw[be,z.1],fun i y br=> ?_⟩;obtain⟨x,bU,hy⟩:=bo i y br;obtain⟨v,b1,b3⟩:=z.2 i x bU;refine⟨v,b1,um (S':=V) (fun k aw cb=> ?_) hy b3⟩;obtain⟨rfl,rfl⟩:=IA cb;simp[V]
 obtain⟨r,n,v,cc,S',w',⟨cd,cg,c,ci,cl,cm,cn,ct⟩,cv,cw,cI,cS⟩:=R A V N a_;have c0:S' 0=some (F,l):=cS.wh 0 _ W;have c1:ch S' n F:=⟨0,_,l,cm,rfl,c0⟩;have c2:F<w.heap.size:=(aaT.1 a).1;let c3:Nat->Prop:=fun B=>A B\/(w.heap.size<=B/\B<w'.heap.size);have c4:∀B,cc B->c3 B:=by intro B dd;(rcases cS.down B dd with h|h|h);{exact .inl h};{exact .inr ⟨h,cI.lt B dd⟩};rw[J B h]at dd;exact(cI.ca F dd c1).elim
 have dh:∀B,du cc S' cg B->c3 B:=by rintro B (dd|⟨k,d,cb,dl⟩);{exact c4 B dd};obtain⟨dn,fz,ds⟩:=kQ ci k cb;obtain⟨d0,a1,d1,e,fr,t,I,K,d2,d3,d4⟩:=cI.ob k _ ds;rw[dl]at t;simp only[pB,q0]at t;obtain⟨rfl,rfl⟩:=t;cases fz with| true=>simp_all| false=>(rcases VI B w.heap.size with d5|d_);{have dd:=J B (cS.own B d5 ⟨k,_,d,ds,rfl,dl⟩);subst dd;exact(cI.inj 0 k _ _ B l d (by grind) cm rfl ds rfl c0 dl).elim};grind
 have d':=ui ci;have en:=aD.gr (S':=S) dh d' (ol (S':=S) cI ci cw);have eq:b<L.length:=(se.1 O).1;have get:∀{k:Nat}{o:Ob},(L.set b (.cells c false))[k]? =some o->(k=b/\o= .cells c false)\/o= .gone:=by intro k o h;rw[W1]at h;split at h;{exact kg};grind
 have es:(L.set b (.cells c false))[b]? =some (.cells c false):=by simp[eq]
 have e2:∀B,ch S (L.set b (.cells c false)) B->B=F:=by rintro B ⟨k,H,d,t,I,K⟩;(rcases get t with⟨rfl,rfl⟩|rfl);{exact kg};simp[bS]at I
 have e_:¬c3 F:=by rintro(h|⟨h,_⟩);{exact D.ca F h M};omega
 refine⟨cd,_,v,c3,S,w',⟨c,ct,d',cn,rfl⟩,cv,en,?_,?_⟩;{refine⟨fun k o h=> ?_,fun B Y ap=> ?_,fun B dd=> ?_,fun k aw o a0 B d a1 a2 t I K d2=> ?_,fun k B d h=> ?_,fun g fd bo=> ?_⟩;{(rcases get h with⟨rfl,rfl⟩|rfl);{obtain⟨B,d,d1,e,fr,t,I,K,d2,d3,d4⟩:=cI.ob 0 _ cm;rw[c0]at t;simp only[pB,q0]at t;obtain⟨rfl,rfl⟩:=t;refine⟨F,l,d1,e,fr,U,I,K,d2,fun h=>by simp at h,fun i x br=> ?_⟩;obtain⟨u,b1,b3⟩:=d4 i x br;exact⟨u,b1,Rel.gr c4 (LA.1 cn x (WI br)) b3⟩};trivial};{grind};{(rcases dd with h|h);{exact W0 (D.lt B h) cS.size};exact h.2};{(rcases get t with⟨rfl,rfl⟩|rfl);{(rcases get K with⟨rfl,rfl⟩|rfl);{omega};simp[bT]at d2};simp[bS]at I};{rw[Wb];exact D.cz k B d h};obtain⟨t,I⟩:=cI.gl g fd bo;grind}
 exact {
  size:=cS.size
  os:=cS.os
  tape:=cS.tape
  output:=cS.output
  wh:=fun _ _ h=>h
  nw:=fun _ _ h=>h
  len:=by grind
  aK:=fun B dd fd=>cS.aK B dd fun ap=>fd (by grind)
  da:=cS.da
  up:=fun B h=> .inl h
  down:=fun B h=>h.imp id fun h=> .inl h.1
  own:=fun B dd ap=>by grind}
def g7(b n:Nat):ak:=(List.range n).filter fun k=> !(k==b)
def am.Bn{f:FuncId}{args S:eG}{b:Nat}{cs:lW}{Q:RV->lW->Prop}{T:RV->ag->Prop}(O:L[b]? =some (.cells cs false))(g:cs.all cj=true)(B:ba (hj (only b)) args=some S)(R:cx P G f S cs Q)(Y:∀r c,Q r c->eE r=true->c.all cj=true->T r (L.set b (.cells c false))):am P G (.fn f) args L T:=by(have U:b<L.length:=(se.1 O).1;have J:b∉g7 b L.length:=by simp[g7]);(have F:∀k,k≠b->k<L.length->k∈g7 b L.length:=fun k i j=>by simp[g7,i,j]);(have hm:(aL (g7 b L.length) L)[b]? =some (.cells cs false):=by rw[dS J,O]);refine am.mono (am.frame (M:=g7 b L.length) (fun k C=>by simp[g7]at C;exact C.1) (fun k o C z=> ?_) (am.IB hm (fun k o C z=> ?_) g B R)) ?_;{have:k=b:=acC fun h=>C (F k h (se.1 z).1);subst this;rw[O]at z;simp at z;subst z;rfl};{(have v:k<L.length:=by have:=(se.1 z).1;rwa [cr]at this);rw[i7 (F k C v),v9 v]at z;exact kg};(rintro r _ ⟨N,⟨c,i,j,l,rfl⟩,rfl⟩;have e:c8 (g7 b L.length) L ((aL (g7 b L.length) L).set b (.cells c false))=L.set b (.cells c false):=by apply Wr;intro k;by_cases C:k∈g7 b L.length;{(have v:k<L.length:=by simp[g7]at C;exact C.1);(have d:b≠k:=by rintro rfl;exact J C);rw[gE C v (by rw[Wb,cr];exact v),Vt d]};rw[gD C];by_cases d:b=k;{grind};rw[Vt d,Vt d,dS C]);exact kg
def r7(b:Nat)(hp:ag)(M:eG):Option (List RV×lW):=match hp[b]? with
 |some (.cells cs false)=>match cs.all cj with
  |true=>match ba (hj (only b)) M with
   |some d=>some (d,cs)
   |none=>none
  |false=>none
 |_=>none
def zL{b:Nat}{hp:ag}{M d:eG}{cs:lW}(h:r7 b hp M=some (d,cs)):hp[b]? =some (.cells cs false)/\cs.all cj=true/\ba (hj (only b)) M=some d:=by unfold r7 at h;grind
def rm(b:Nat):pA->St->Option (FuncId×List RV×List LV×Option Tmp×pA)
 | .inRegion ops (i::is)::k,st=>match ops[i]? with
  |some o=>match bD ops st.regs o with
   |some true=>match cR o with
    |true=>match bR o.op with
     |some (f,args)=>match cL (aQ st.regs f) (args.map (aQ st.regs)) with
      |some (.fn g,M)=>match r7 b st.hp M with
       |some (d,cs)=>some (g,d,cs,o.dst,.inRegion ops is::k)
       |none=>none
      |_=>none
     |none=>none
    |false=>none
   |_=>none
  |none=>none
 |_,_=>none
def Fin.oV[aG P T](k:bf T){n:Nat}{fn:FuncId}{st:St}{Q:St->Prop}{todo:pA}(b:Nat){g:FuncId}{l:eG}{cs:lW}{dst:Option Tmp}{a:pA}{F:RV->lW->Prop}(h:rm b todo st=some (g,l,cs,dst,a))(R:cx P G g l cs F)(U:∀r c,F r c->eE r=true->c.all cj=true->Fin P G n fn a ⟨aT st.regs dst r,st.hp.set b (.cells c false)⟩ Q):Fin P G n fn todo st Q:=by unfold rm at h;split at h;{split at h;{rename_i o z;split at h;{rename_i hw;split at h;{rename_i x;split at h;{rename_i f args hc;split at h;{rename_i u y m;split at h;{rename_i d H hz;simp only[pB,q0]at h;obtain⟨rfl,rfl,rfl,rfl,rfl⟩:=h;obtain⟨p,q,s⟩:=zL hz;exact Fin.call k z hw x hc m (am.Bn p q s R U)};simp at h};simp at h};simp at h};simp at h};simp at h};simp at h};simp at h
def cx.ex[aG P T]{f:FuncId}{fn:Func}{c:Code}{args:eG}{cs:lW}{Q:RV->lW->Prop}(U:P.funcs[f]? =some fn)(O:fn.body=some c) (x:fn.name≠ "runtime.NumGoroutine")
  (h:Fin P G 1 f [.code c] ⟨dm fn args,[.cells cs false]⟩ fun st=>∃r,bQ T G fn st=some r/\∃y Z b,bg st.hp r=some (y,Z)/\0∉Z/\st.hp[0]? =some (.cells b false)/\b.all cj=true/\Q y b) (R:cK f=false:=by rfl):cx P G f args cs Q:=
 am.ex (L:=[.cells cs false]) U O x h R
end
section
variable {P:lB} {T:aq} {G:az} {n:Nat} {fn:FuncId} {st:St} {Q:St->Prop} {todo todo':pA} {ops:Array Oper} {pl:fu}
def eg(ops:Array Oper)(j:Nat):Oper:=match ops[j]? with
 |some o=>o
 |none=>{dst:=none,op:= .move (.tmp 0),type:=0,pos:=default,after:=#[],guard:=none}
def sD:pA->St->Option (Oper×pA)
 | .inRegion ops (i::is)::k,st=>match ops[i]? with
  |some o=>match bD ops st.regs o with
   |some true=>match cR o with
    |true=>match bR o.op with
     |none=>some (o,.inRegion ops is::k)
     |some _=>none
    |false=>none
   |_=>none
  |none=>none
 |_,_=>none
end
section
variable {P:lB} {T:aq} {G:az} {hp:ag} {t e:lA} {j:IntKind}
def g3{n:Int}(h: -9223372036854775808<=n)(i:n<9223372036854775808):IntKind.i64.wrap n=n:=by exact agz
def E9{n s:Nat}{cs:rK}{k:Int}(z:T.au t=some (.slice e))(A:a6 T e=some s)(h:0<=k)(i:k<n): a5 T t (.v (.one (.p (.sl n cs)))) (.v (.one (.p (.vl (.int j k))))) hp=some (.v (.one (.aX cs (k.toNat*s))),hp):=by simp[a5,z,em,A,h,i]
def bI{b o n s:Nat}{k:Int}(z:T.au t=some (.slice e))(A:a6 T e=some s)(h:0<=k)(i:k<n): a5 T t (.v (.one (.ad b o n s))) (.v (.one (.p (.vl (.int j k))))) hp=some (.v (.one (.ref b (o+k.toNat*s))),hp):=by simp[a5,z,em,A,h,i]
def Hz{α:Type}{l:List α}{o:Nat}{x:α}(h:l[o]? =some x):part l o 1=some [x]:=by(have z:o<l.length:=(se.1 h).1;have:(l.drop o).take 1=[x]:=by rw[aeZ z];simp only[List.take_succ_cons,List.take_zero];rw[v9 z]at h;simp at h;rw[h]);simp[part,this]
def FZ{s:ByteArray}{k:Int}{x:UInt8}(z:T.au t=some .string)(i:0<=k)(h:s[k.toNat]? =some x): cD P T t (.v (.one (.p (.vl (.string s))))) (.v (.one (.p (.vl (.int j k))))) hp=some (atR (.int .u8 x.toNat),hp):=by obtain⟨n,rfl⟩:=aeS i;have V:s[n]? =some x:=h;simp only[cD,z];exact kg
def an(s:ByteArray)(k:Int):Int:=(((s[k.toNat]?).getD 0).toNat:Int)
def dr(s:ByteArray)(k:Int):0<=an s k/\an s k<256:=by unfold an;have:=((s[k.toNat]?).getD 0).toNat_lt;omega
def kM{s:ByteArray}{k:Int}(z:T.au t=some .string)(h:0<=k)(i:k<s.size): cD P T t (.v (.one (.p (.vl (.string s))))) (.v (.one (.p (.vl (.int j k))))) hp=some (.v (.one (.p (.vl (.int .u8 (an s k))))),hp):=by(have hl:k.toNat<s.size:=by omega);(have hx:s[k.toNat]? =some s[k.toNat]:=by simp[hl]);rw[FZ z h hx];simp[an,hx,atR]
def tI{s:ByteArray}{L y:Option RV}{l' h':Option Int}{l h:Nat}(z:T.au t=some .string)(x:fP L=some l')(o:fP y=some h')(O:bounds s.size l' h'=some (l,h)): aZ P T t (.v (.one (.p (.vl (.string s))))) L y none hp=some (atR (.string (s.extract l h)),hp):=by simp[aZ,z,x,o,O]
def oc{x y:Operand}{a b:Int}(O:b≠0):bj P T .rem t x y (.v (.one (.p (.vl (.int .i64 a))))) (.v (.one (.p (.vl (.int .i64 b))))) hp=some (.v (.one (.p (.vl (.int .i64 (a.tmod b))))),hp):=by(have:bi P (do eqGuard .rem t x y (.int .i64 a) (.int .i64 b);binOp .rem t (.int .i64 a) (.int .i64 b))=some (.int .i64 (a.tmod b)):=by show bi P (Op.intDiv .rem .i64 a b)=_;unfold Op.intDiv;simp[O];rfl);exact ag5
def mc{x y:Operand}{a b:Int}(O:b≠0):bj P T .quo t x y (.v (.one (.p (.vl (.int .i64 a))))) (.v (.one (.p (.vl (.int .i64 b))))) hp=some (.v (.one (.p (.vl (.int .i64 (IntKind.i64.wrap (a.tdiv b)))))),hp):=by(have:bi P (do eqGuard .quo t x y (.int .i64 a) (.int .i64 b);binOp .quo t (.int .i64 a) (.int .i64 b))=some (.int .i64 (IntKind.i64.wrap (a.tdiv b))):=by show bi P (Op.intDiv .quo .i64 a b)=_;unfold Op.intDiv;simp[O];rfl);exact ag5
def q1{x y:Operand}{a b:Int}(O:0<=b):bj P T .shl t x y (.v (.one (.p (.vl (.int .i64 a))))) (.v (.one (.p (.vl (.int j b))))) hp=some (.v (.one (.p (.vl (.int .i64 (IntKind.i64.wrap (a*2^min b.toNat 64)))))),hp):=by(have Q:¬b<0:=by omega);(have:bi P (do eqGuard .shl t x y (.int .i64 a) (.int j b);binOp .shl t (.int .i64 a) (.int j b))=some (.int .i64 (IntKind.i64.wrap (a*2^min b.toNat 64))):=by show bi P (Op.shift .shl .i64 a j b)=_;unfold Op.shift;simp[Q];rfl);exact ag5
def iL(a:Int){b:Int}(h:0<b): -b<a.tmod b/\a.tmod b<b:=by have h2:=Int.tmod_lt_of_pos a h;refine⟨?_,h2⟩;have h3:=Int.tmod_lt_of_pos (-a) h;rw[Int.neg_tmod]at h3;omega
def nz{a b:Int}(s:0<=a)(h:0<b):0<=a.tmod b:=ah9 b s
end
def d6(W:ak)(hp R:ag):Prop:=Up (aL W hp) R
def d6.refl{W:ak}{hp:ag}:d6 W hp hp:=Up.aL W hp
def d6.mask{W M:ak}{hp R:ag}(h:d6 W hp R)(A:∀b∈W,b∈M):Up (aL M hp) (aL M R):=by intro b x O N;obtain⟨T,P⟩:=dt O N;have hw:b∉W:=fun V=>T (A b V);obtain⟨y,hy,z⟩:=h b x (by rw[dS hw];exact P) N;exact⟨y,by rw[dS T];exact hy,z⟩
section
variable {P:lB} {T:aq} {G:az} {ops:Array Oper} {M wr:Nat->ak} {Q:St->Prop}
def lk(P:lB)(T:aq)(G:az)(ops:Array Oper)(M:Nat->ak)(j:Nat)(o:Oper)(st:St)(r:RV):Prop:=
 (bD ops st.regs o=some false/\r=bl)\/(bD ops st.regs o=some true/\cR o=true/\bR o.op=none/\di (cq T o.op)=true/\aJ P T G (aQ st.regs) o (aL (M j) st.hp)=some (r,aL (M j) st.hp))
def iA(P:lB)(T:aq)(G:az)(o:Oper)(st:St)(K:RV->ag->Prop):Prop:=
 cR o=true/\match bR o.op with
 |some (f,args)=>∃c M,cL (aQ st.regs f) (args.map (aQ st.regs))=some (c,M)/\am P G c M st.hp K
 |none=>∃r R,aJ P T G (aQ st.regs) o st.hp=some (r,R)/\(K r R\/∃d y Z,o.dst=some d/\d<st.regs.length/\bg R r=some (y,Z)/\K y (bv Z R))
def Fz(K:St->Prop)(st:St):Prop:=K st\/∃d r y Z,st.regs[d]? =some r/\bg st.hp r=some (y,Z)/\K ⟨st.regs.set d y,bv Z st.hp⟩
def GJ[aG P T]{A:Nat->Prop}{S:ay}{w:World}{t:Array Value}{st:St}{d:Nat}{r y:RV}{Z:ak}(B:al G A S st.hp w)(q:bL A S w st.regs t)(C:st.regs[d]? =some r)(hz:bg st.hp r=some (y,Z)): bL (du A S Z) S w (st.regs.set d y) t/\al G (du A S Z) S (bv Z st.hp) w/\Ext A S st.hp w (du A S Z) S (bv Z st.hp) w:=by have hc:=kQ hz;have hx:=Ext.freeze B hc;have h1:=B.ey hx q;refine⟨⟨by simpa using h1.1,fun i x z=> ?_⟩,B.freeze hc,hx⟩;by_cases e:d=i;{subst e;obtain⟨v,Q,J⟩:=q.2 d r C;have hl:d<st.regs.length:=(se.1 C).1;simp[hl]at z;subst z;exact⟨v,Q,ol (S':=S) B hz J⟩};rw[Vt e]at z;exact h1.2 i x z
def iA.Uv{o:Oper}{st:St}{K:RV->ag->Prop}{K':St->Prop}(h:iA P T G o st K)(C:∀r hp,K r hp->K' ⟨aT st.regs o.dst r,hp⟩):eQ P T G (am P G) o st (Fz K'):=by obtain⟨x,h⟩:=h;cases hc:bR o.op with| none=>simp only[hc]at h;obtain⟨r,R,i,j|⟨d,y,Z,U,L,hz,j⟩⟩:=h;{exact nS x hc i (.inl (C _ _ j))};refine nS x hc i (.inr ⟨d,r,y,Z,by simp[aT,U,L],hz,?_⟩);have:=C _ _ j;simpa[aT,U] using this|some l=>obtain⟨f,args⟩:=l;simp only[hc]at h;obtain⟨c,M,i,j⟩:=h;exact uj x hc i (j.mono fun r hp k=> .inl (C r hp k))
def DU(P:lB)(T:aq)(G:az)(ops:Array Oper)(M wr:Nat->ak)(Q:St->Prop):ak->St->Prop
 | [],st=>Q st
 |i::is,st=>∃o,ops[i]? =some o/\((∃r,lk P T G ops M i o st r/\DU P T G ops M wr Q is ⟨aT st.regs o.dst r,st.hp⟩)\/
   (bD ops st.regs o=some true/\di (cq T o.op)=false/\(bR o.op=none\/M i=[])/\iA P T G o st fun r R=>d6 (wr i) st.hp R/\DU P T G ops M wr Q is ⟨aT st.regs o.dst r,R⟩)\/
   (bD ops st.regs o=some true/\di (cq T o.op)=false/\cR o=true/\∃f args g N d F,bR o.op=some (f,args)/\cL (aQ st.regs f) (args.map (aQ st.regs))=some (.fn g,N)/\ep st.hp N=some (d,[])/\aR P G g d F/\∀r,F r->eE r=true->DU P T G ops M wr Q is ⟨aT st.regs o.dst r,st.hp⟩))
def ib(P:lB)(T:aq)(G:az)(ops:Array Oper)(o:Oper)(st:St)(K:RV->ag->Prop):Prop:=
 (bD ops st.regs o=some false/\K bl st.hp)\/(bD ops st.regs o=some true/\iA P T G o st K)
def iA.mono{o:Oper}{st:St}{K U:RV->ag->Prop}(h:iA P T G o st K)(C:∀r hp,K r hp->U r hp):iA P T G o st U:=by obtain⟨x,h⟩:=h;refine⟨x,?_⟩;cases hc:bR o.op with| none=>grind|some i=>obtain⟨f,args⟩:=i;simp only[hc]at h |-;obtain⟨c,M,j,k⟩:=h;exact⟨c,M,j,k.mono C⟩
def ib.mono{o:Oper}{st:St}{K U:RV->ag->Prop}(h:ib P T G ops o st K)(C:∀r hp,K r hp->U r hp):ib P T G ops o st U:=by(rcases h with⟨h1,h2⟩|⟨h1,h2⟩);{exact .inl ⟨h1,C _ _ h2⟩};exact .inr ⟨h1,h2.mono C⟩
def iA.regs{o:Oper}{regs regs':eG}{hp:ag}{K:RV->ag->Prop}(y:regs'.length=regs.length)(M:∀x∈o.op.operands,aQ regs x=aQ regs' x)(h:iA P T G o ⟨regs,hp⟩ K):iA P T G o ⟨regs',hp⟩ K:=by have I:=tR (P:=P) (T:=T) (G:=G) (o:=o) (ρ:=aQ regs) (ρ':=aQ regs') M hp;obtain⟨z,h⟩:=h;refine⟨z,?_⟩;cases hc:bR o.op with| none=>exact kg|some i=>(obtain⟨f,args⟩:=i;simp only[hc]at h |-;obtain⟨m,n⟩:=tH hc;have e:args.map (aQ regs)=args.map (aQ regs'):=ZL fun x F=>M x (n x F);exact kg)
def ib.regs{o:Oper}{regs regs':eG}{hp:ag}{K:RV->ag->Prop}(y:regs'.length=regs.length)(t:bD ops regs' o=bD ops regs o)(M:∀x∈o.op.operands,aQ regs x=aQ regs' x)(h:ib P T G ops o ⟨regs,hp⟩ K):ib P T G ops o ⟨regs',hp⟩ K:=by(rcases h with⟨h1,h2⟩|⟨h1,h2⟩);{exact alz};exact .inr ⟨t.trans h1,h2.regs y M⟩
def lk.move{j:Nat}{o:Oper}{regs q:eG}{hp R:ag}{r:RV}(t:bD ops q o=bD ops regs o)(N:∀x∈o.op.operands,aQ regs x=aQ q x)(i:Up (aL (M j) hp) (aL (M j) R))(h:lk P T G ops M j o ⟨regs,hp⟩ r):lk P T G ops M j o ⟨q,R⟩ r:=by(rcases h with⟨h1,h2⟩|⟨h1,h2,h3,h4,h5⟩);{exact alz};refine .inr ⟨t.trans h1,h2,h3,h4,?_⟩;have I:=tR (P:=P) (T:=T) (G:=G) (o:=o) (ρ:=aQ regs) (ρ':=aQ q) N;rw[<- I];cases C:cq T o.op with| mute=>exact(n8 C h5).2 _|read=>exact(n9 C h5).2 _ i|call=>simp[C,di]at h4|alloc=>simp[C,di]at h4|other=>simp[C,di]at h4
def lk.Uw{j:Nat}{o:Oper}{st:St}{r:RV}{K:RV->ag->Prop}(h:lk P T G ops M j o st r)(C:K r st.hp):ib P T G ops o st K:=by(rcases h with⟨h1,h2⟩|⟨h1,h2,h3,h4,h5⟩);{subst h2;exact .inl ⟨h1,C⟩};refine .inr ⟨h1,h2,?_⟩;simp only[h3];refine⟨r,st.hp,?_,.inl C⟩;cases C:cq T o.op with| mute=>exact(n8 C h5).2 _|read=>exact(n9 C h5).2 _ (Up.aL _ _)|call=>simp[C,di]at h4|alloc=>simp[C,di]at h4|other=>simp[C,di]at h4
def hI{W:ak}{hp l:ag}:d6 W hp (hp++l):=by intro k x C M;obtain⟨h,i⟩:=dt C M;have hl:=(se.1 i).1;exact⟨x,by grind,.inl rfl⟩
def d6.Ux{hp R:ag}(h:d6 [] hp R):Up hp R:=by intro k x C M;exact h k x (by rw[dS s_];exact C) M
structure oW(ops:Array Oper)(T:aq)(M wr:Nat->ak)(j i:Nat):Prop where
 quiet:(∀o,ops[j]? =some o->di (cq T o.op)=true)\/(M j≠[]/\(∀o,ops[j]? =some o->bR o.op≠none)/\∃oi t cs,ops[i]? =some oi/\oi.guard=none/\oi.op= .alloc t/\zeroOf T t=some cs/\T.kz t=false)
 ji:∀o y k,ops[j]? =some o->ops[i]? =some y->o.dst=some k->k∉e5 ops y
 ij:∀o y k,ops[j]? =some o->ops[i]? =some y->y.dst=some k->k∉e5 ops o
 dd:∀o y k,ops[j]? =some o->ops[i]? =some y->o.dst=some k->y.dst≠some k
 wr:∀b∈wr i,b∈M j
def DU.front{i:Nat}{u:Oper}(w:ops[i]? =some u):∀{s t:ak}{st:St},(∀j∈s,oW ops T M wr j i)->DU P T G ops M wr Q (s++i::t) st->
  ib P T G ops u st fun r R=>d6 (wr i) st.hp R/\DU P T G ops M wr Q (s++t) ⟨aT st.regs u.dst r,R⟩
 | [],t,st,_,h=>by
  obtain⟨o,z,h⟩:=h;rw[w]at z;simp at z;subst z
  rcases h with⟨r,h1,h2⟩|⟨h1,_,_,h2⟩|⟨h1,_,y,f,args,g,N,l,F,hc,m,hz,S,hd⟩
  ·exact h1.Uw ⟨d6.refl,h2⟩
  ·exact .inr ⟨h1,h2⟩
  refine .inr ⟨h1,y,?_⟩;simp only[hc]
  exact⟨_,_,m,am.mr hz S fun r C hp=>by
   have e:(if ei r then st.hp else bv [] st.hp)=st.hp:=by split<;>rfl
   rw[e];exact⟨d6.refl,hd r C hp⟩⟩
 |j::s,t,st,A,h=>by
  obtain⟨X,B,h⟩:=h;have hp:=A j s_
  rcases h with⟨L,h1,h2⟩|⟨h1,h2,h3,_⟩|⟨h1,h2,y,f,args,g,N,l,F,hc,m,hz,S,hd⟩
  ·have n:=DU.front w (s:=s) (t:=t) (fun k D=>A k (Xr _ D)) h2;have V:∀k,X.dst=some k->k∉e5 ops u:=fun k D=>hp.ji X u k B w D;have E:∀k,u.dst=some k->k∉e5 ops X:=fun k D=>hp.ij X u k B w D;have H:=ib.regs (regs':=st.regs) (by cases X.dst<;>simp[aT]) (nE (r:=L) (regs:=st.regs) V).symm (mb (r:=L) (regs:=st.regs) V) n;refine H.mono fun r R ⟨p,q⟩=>⟨p,X,B,.inl ⟨L,?_,?_⟩⟩
   ·exact lk.move (regs:=st.regs) (hp:=st.hp) (nE E) (fun x O=>(mb E x O).symm) (p.mask hp.wr) h1
   have e:=tS (regs:=st.regs) (r:=L) (r':=r) (d:=X.dst) (d':=u.dst) (fun k D=>hp.dd X u k B w D)
   simp_all
  ·rcases hp.quiet with O|⟨n,Y,_⟩
   all_goals simp_all
  rcases hp.quiet with O|⟨n,Y,D,U,cs,E,H,V,p,I⟩
  ·simp_all
  rw[w]at E;simp at E;subst E;have J:∀(ρ:Operand->RV)(hp:ag),aJ P T G ρ u hp=some (.v (.one (.ref hp.length 0)),hp++[.cells cs false]):=by
   intro ρ hp;unfold aJ;simp only[V,I,mm,p]
  have K:bR u.op=none:=by rw[V];rfl
  have W:cR u=true:=by unfold cR;rw[V];rfl
  have Z:∀k,u.dst=some k->k∉e5 ops X:=fun k a=>hp.ij X u k B w a;obtain⟨q,b⟩:=tH hc;refine .inr ⟨by unfold bD;rw[H],W,?_⟩;simp only[K];refine⟨_,_,J _ _,.inl ⟨hI,X,B,.inr (.inr ⟨(nE Z).trans h1,h2,y,f,args,g,N,l,F,hc,?_,?_,S,fun r C c=> ?_⟩)⟩⟩
  ·have ap:args.map (aQ (aT st.regs u.dst (.v (.one (.ref st.hp.length 0)))))=args.map (aQ st.regs):=ZL fun x aw=>mb Z x (b x aw);rw[ap,mb Z f q];exact m
  ·exact uD (d6.Ux hI) hz
  have ap:=DU.front w (s:=s) (t:=t) (fun k a=>A k (Xr _ a)) (hd r C c)
  rcases ap with⟨aw,_⟩|⟨_,_,ap⟩
  ·exfalso;unfold bD at aw;simp_all
  simp only[K]at ap;obtain⟨a0,a1,a2,a_⟩:=ap;rw[J]at a2;simp only[pB,q0]at a2;obtain⟨rfl,rfl⟩:=a2
  rcases a_ with⟨_,a_⟩|⟨_,_,_,_,_,be,_⟩
  ·have e:=tS (regs:=st.regs) (r:=r) (r':= .v (.one (.ref st.hp.length 0))) (d:=X.dst) (d':=u.dst) (fun k a=>hp.dd X u k B w a)
   simp_all
  simp[bg,dy,b2]at be
def gM(P:lB)(T:aq)(G:az)(ops:Array Oper)(Q:St->Prop):Nat->Array Bool->St->Prop
 | 0,N,st=>Q st
 |n+1,N,st=>(Region.ready .any ops N=[]->Q st)/\
  ∀i∈Region.ready .any ops N,∃o,ops[i]? =some o/\ib P T G ops o st fun r R=>gM P T G ops Q n (N.setIfInBounds i true) ⟨aT st.regs o.dst r,R⟩
def gM.sound[aG P T](l:bf T){b:Frame}{k:pA}{cs:BY}:
  ∀(R r:Nat)(N:Array Bool)(st:St){A:Nat->Prop}{S:ay}{w:World}{t:Array Value},al G A S st.hp w->bL A S w st.regs t->gM P T G ops Q R N st->
  ∃st' U O S' w',Q st'/\Steps P (lone (Fr b t (.inRegion ops (Region.linearise.go .any ops R r N [])::k)) cs w) (lone (Fr b U k) cs w')/\bL O S' w' st'.regs U/\al G O S' st'.hp w'/\Ext A S st.hp w O S' st'.hp w'
 | 0,r,N,st,A,S,w,t,B,C,h=>by
  refine⟨st,t,A,S,w,h,?_,C,B,Ext.refl⟩;simp only[Region.linearise.go,List.reverse_nil];exact Steps.cG iJ
 |R+1,r,N,st,A,S,w,t,B,C,h=>by
  obtain⟨j,e⟩:=h;simp only[Region.linearise.go]
  show ∃st' U O S' w',Q st'/\Steps P (lone (Fr b t (.inRegion ops (match (Region.ready .any ops N)[r%(Region.ready .any ops N).length]? with
   |some i=>Region.linearise.go .any ops R (r /(Region.ready .any ops N).length) (N.setIfInBounds i true) [i]
   |none=>[].reverse)::k)) cs w) _/\_
  split
  ·rename_i i hi;have V:i∈Region.ready .any ops N:=WI hi;obtain⟨o,z,L⟩:=e i V;rw[linearise_go_acc];simp only[List.reverse_singleton,aid];have one:∃W u D X y,gM P T G ops Q R (N.setIfInBounds i true) W/\Steps P (lone (Fr b t (.inRegion ops (i::Region.linearise.go .any ops R (r /(Region.ready .any ops N).length) (N.setIfInBounds i true) [])::k)) cs w)
     (lone (Fr b u (.inRegion ops (Region.linearise.go .any ops R (r /(Region.ready .any ops N).length) (N.setIfInBounds i true) [])::k)) cs y)/\bL D X y W.regs u/\al G D X W.hp y/\Ext A S st.hp w D X W.hp y:=by
    rcases L with⟨hw,Y⟩|⟨hw,Y⟩
    ·have E:=iO C hw;have Z:=qm (P:=P) (b:=b) (t:=t) (k:=k) (cs:=cs) (w:=w) (ops:=ops) (i:=i) (rest:=Region.linearise.go .any ops R (r /(Region.ready .any ops N).length) (N.setIfInBounds i true) []) (by simp[z,E]);rw[z]at Z;simp only[YV]at Z;exact⟨_,_,A,S,w,Y,Steps.cG Z,C.put jC,B,Ext.refl⟩
    obtain⟨W,u,D,X,y,Y,E,F,H,M⟩:=qq l z (iO C hw) B C (Y.Uv (K':=fun s=>gM P T G ops Q R (N.setIfInBounds i true) s) fun r hp h=>h)
    rcases Y with Y|⟨d,r,I,ts,f,g,Y⟩
    ·exact⟨W,u,D,X,y,Y,E,F,H,M⟩
    obtain⟨m,n,p⟩:=GJ (P:=P) (T:=T) H F f g;exact⟨_,u,_,_,y,Y,E,m,n,M.trans p⟩
   obtain⟨W,u,D,X,y,Y,E,F,H,M⟩:=one;obtain⟨Z,v,J,a,K,c,q,ap,aw,a0⟩:=gM.sound l (b:=b) (k:=k) (cs:=cs) R (r /(Region.ready .any ops N).length) (N.setIfInBounds i true) W H F Y;exact⟨Z,v,J,a,K,c,E.trans q,ap,aw,M.trans a0⟩
  rename_i V;have F:Region.ready .any ops N=[]:=by
   cases hR:Region.ready .any ops N with
   |nil=>rfl
   |cons x xs=>
    rw[hR]at V;have:r%(x::xs).length<(x::xs).length:=Nat.mod_lt _ s_
    grind
  refine⟨st,t,A,S,w,j F,?_,C,B,Ext.refl⟩;exact Steps.cG iJ
def d9(τ:ak)(N:Array Bool):ak:=τ.filter fun i=> !N.getD i true
def yH{τ:(List Nat)}{i:Nat}{N:Array Bool}{s t:(List Nat)}(o:τ.Nodup)(h:d9 τ N=s++i::t)(K:i<N.size):d9 τ (N.setIfInBounds i true)=s++t:=by(have p:(d9 τ N).Nodup:=List.Nodup.sublist List.filter_sublist o;have h1:d9 τ (N.setIfInBounds i true)=(d9 τ N).filter fun k=>k !=i:=by unfold d9;rw[List.filter_filter];apply List.filter_congr;intro k _;by_cases C:k=i;{simp_all};rw[getD_set_ne true (Ne.symm C)];simp[C]);rw[h1,h];rw[h]at p;rw[List.nodup_append]at p;obtain⟨n,q,r⟩:=p;rw[List.nodup_cons]at q;rw[List.filter_append,List.filter_cons];simp only[bne_self_eq_false,Bool.false_eq_true,if_false];rw[List.filter_eq_self.2,List.filter_eq_self.2];all_goals grind
structure vM(ops:Array Oper)(T:aq)(M wr:Nat->ak)(τ:ak):Prop where
 nodup:τ.Nodup
 all:∀i,i∈τ↔i<ops.size
 back:i9 ops=true
 Se:τ.Pairwise fun j i=>∀o,ops[j]? =some o->∀e∈o.after,Region.binds .any e=true->e.on≠i
 pair:τ.Pairwise fun j i=>((ec [] ops.toList).getD i 0).testBit j=true\/oW ops T M wr j i
def gM.g6{τ:ak}(x:vM ops T M wr τ):∀(R:Nat)(N:Array Bool)(st:St),N.size=ops.size->uG ops N->(d9 τ N).length=R->
  DU P T G ops M wr Q (d9 τ N) st->gM P T G ops Q R N st
 | 0,N,st,u,hc,hl,C=>by
  have:d9 τ N=[]:=aeU hl;rw[this]at C;exact C
 |R+1,N,st,u,hc,hl,C=>by
  have d:(d9 τ N).Pairwise _:=ah7 acI x.Se;have a:(d9 τ N).Pairwise _:=ah7 acI x.pair;refine⟨fun F=> ?_,fun i y=> ?_⟩
  ·exfalso;cases l:d9 τ N with
   |nil=>simp_all
   |cons k b=>
    have D:k∈d9 τ N:=by rw[l];simp
    unfold d9 at D;rw[aaJ]at D;have v:k<ops.size:=(x.all k).1 D.1;have hm:k∈Region.ready .any ops N:=by
     rw[mem_ready];refine⟨by simp_all,ops[k],by simp[v],fun e V O=> ?_⟩;have K:=tx x.back (i:=k) (o:=ops[k]) (by simp[v]) V O;have fX:e.on<N.size:=by rw[u];omega
     cases hle:N[e.on]with
     |true=>simp[fX,hle]
     |false=>
      exfalso;have z:e.on∈d9 τ N:=by
       unfold d9;rw[aaJ];exact⟨(x.all _).2 w_,by simp[fX,hle]⟩
      rw[l]at z d
      rcases V0.1 z with h|h
      ·omega
      exact(acH.1 d).1 e.on h ops[k] (by simp[v]) e V O rfl
    simp_all
  obtain⟨l,o,z,H⟩:=mem_ready.1 y;have K:i<ops.size:=(aaT.1 z).1;have S:i∈d9 τ N:=by
   unfold d9;rw[aaJ];exact⟨(x.all i).2 K,by rw[l];rfl⟩
  obtain⟨s,t,A⟩:=List.append_of_mem S;have B:∀o,ops[i]? =some o->∀e∈o.after,Region.binds .any e=true->N.getD e.on false=true:=by
   intro D f e V O;rw[z]at f;simp at f;subst f;exact H e V O
  have W:∀j∈s,oW ops T M wr j i:=by
   intro j v;have p:((ec [] ops.toList).getD i 0).testBit j=true\/oW ops T M wr j i:=by
    rw[A,List.pairwise_append]at a;exact a.2.2 j v i s_
   rcases p with h|h
   ·exfalso;have X:=tz x.back hc i i (vA _) h B;have Y:j∈d9 τ N:=by rw[A];simp[v]
    unfold d9 at Y
    grind
   exact h
  rw[A]at C;refine⟨o,z,(DU.front z W C).mono fun r U ⟨_,m⟩=>gM.g6 x R _ _ (by simp[u]) ?_ ?_ ?_⟩
  ·intro k D E f e V O
   by_cases w:k=i
   ·subst w;exact getD_set_true (B D f e V O)
   rw[getD_set_ne false (Ne.symm w)]at E;exact getD_set_true (hc k D E f e V O)
  ·rw[yH x.nodup A w_]
   grind
  rw[yH x.nodup A w_];exact m
def cW.P8[aG P T](l:bf T)(x:P.follows .mixedOrders=true){τ:ak}{st:St}(y:vM ops T M wr τ)(h:DU P T G ops M wr Q τ st):cW P G ops st Q:=by(intro A S w t b k cs f B C;have N:Ext A S st.hp w A S st.hp {w with drawn:=w.drawn+1}:=Ext.drew;have D:bL A S {w with drawn:=w.drawn+1} st.regs t:=B.ey N C;have e:d9 τ (Array.replicate ops.size false)=τ:=by unfold d9;rw[aeX];intro k E;have:=(y.all k).1 E;simp[this]);(have hlen:τ.length=ops.size:=by have h1:τ.Perm (List.range ops.size):=(List.perm_ext_iff_of_nodup y.nodup aif).2 (fun a=>by rw[y.all a,ZJ]);simpa using h1.length_eq);(have m:gM P T G ops Q ops.size (Array.replicate ops.size false) st:=by refine gM.g6 y ops.size _ _ s_ ?_ (by rw[e,hlen]) (by rw[e];exact h);exact avk);(have U:Region.schedule (P.follows .mixedOrders) ops (w.tape w.drawn (.order b.fn f))=Region.linearise .any ops (w.tape w.drawn (.order b.fn f)):=by unfold Region.schedule;rw[x];simp);obtain⟨O,u,F,V,H,Y,I,J,K,R⟩:=gM.sound l (b:=b) (k:=k) (cs:=cs) ops.size (w.tape w.drawn (.order b.fn f)) _ st (B.drew) D m;refine⟨O,u,F,V,H,Y,.head Ay ?_,J,K,N.trans' R (vA _)⟩;rw[U];exact I
def nodupB:ak->Bool
 | []=>true
 |x::l=> !(l.contains x) && nodupB l
def y0:∀{l:ak},nodupB l=true->l.Nodup
 | [],_=>List.nodup_nil
 |x::l,h=>by
  simp only[nodupB,Cz,ah_,List.contains_eq_mem]at h;exact List.nodup_cons.2 ⟨by simpa using h.1,y0 h.2⟩
def om(f:Nat->Nat->Bool):ak->Bool
 | []=>true
 |x::l=>l.all (f x) && om f l
def tJ{f:Nat->Nat->Bool}{R:Nat->Nat->Prop}(h:∀j i,f j i=true->R j i):∀{l:ak},om f l=true->l.Pairwise R
 | [],_=>YS
 |x::l,hl=>by
  simp only[om,Cz,LA]at hl;exact List.Pairwise.cons (fun i y=>h x i (hl.1 i y)) (tJ h hl.2)
def r8(ops:Array Oper)(d:Option Tmp)(o:Oper):Bool:=match d with
 |none=>true
 |some k=> !((e5 ops o).contains k)
def u9(T:aq)(m:ak)(o y:Oper):Bool:= !m.isEmpty && (bR o.op).isSome && y.guard.isNone && (match y.op with| .alloc t=>(zeroOf T t).isSome && !T.kz t|_=>false)
def GK{m:ak}{o y:Oper}(h:u9 T m o y=true):m≠[]/\bR o.op≠none/\y.guard=none/\∃t cs,y.op= .alloc t/\zeroOf T t=some cs/\T.kz t=false:=by unfold u9 at h;simp only[Cz,ah_,List.isEmpty_eq_false_iff,ah8]at h;obtain⟨⟨⟨i,j⟩,k⟩,l⟩:=h;refine⟨i,fun e=>by simp_all,k,?_⟩;split at l;{rename_i t D;rw[Cz]at l;obtain⟨cs,f⟩:=ahZ.1 l.1;exact kg};simp at l
def vN(T:aq)(ops:Array Oper)(M wr:Nat->ak)(j i:Nat):Bool:=match ops[j]?,ops[i]? with
 |some o,some y=>(di (cq T o.op) || u9 T (M j) o y) && r8 ops o.dst y && r8 ops y.dst o && (match o.dst,y.dst with| some a,some b=> !(Nat.beq a b)|_,_=>true) && (wr i).all fun b=>(M j).contains b
 |_,_=>false
def zM{d:Option Tmp}{o:Oper}(h:r8 ops d o=true):∀k,d=some k->k∉e5 ops o:=by intro k C;subst C;simpa[r8] using h
def HA{j i:Nat}(h:vN T ops M wr j i=true):oW ops T M wr j i:=by unfold vN at h;split at h;{rename_i o y z f;simp only[Cz]at h;obtain⟨⟨⟨⟨l,m⟩,n⟩,p⟩,q⟩:=h;refine⟨?_,fun a Y k s d=> ?_,fun a Y k s d=> ?_,fun a Y k s d C=> ?_,fun b O=> ?_⟩;{rw[Wq]at l;(rcases l with l|l);{exact kg};obtain⟨r,u,v,t,cs,w,x,A⟩:=GK l;exact kg};{rw[z]at s;rw[f]at d;simp at s d;subst s;subst d;exact zM m k};{rw[z]at s;rw[f]at d;simp at s d;subst s;subst d;exact zM n k};{rw[z]at s;rw[f]at d;simp at s d;subst s;subst d;intro r;exact kg};exact kg};simp at h
def vO(ops:Array Oper)(j i:Nat):Bool:=match ops[j]? with
 |some o=>o.after.toList.all fun e=> !Region.binds .any e || !(Nat.beq e.on i)
 |none=>true
def HB{j i:Nat}(h:vO ops j i=true):∀o,ops[j]? =some o->∀e∈o.after,Region.binds .any e=true->e.on≠i:=by intro o z e V O;unfold vO at h;simp only[z,LA]at h;have:=h e (acz.2 V);simp only[O,Bool.not_true,Bool.false_or,ah_]at this;intro F;exact kg
def aU(l:List (ak))(i:Nat):ak:=l.getD i []
noncomputable def r9(T:aq)(ops:Array Oper)(Ms ws:List (ak))(τ:ak):Bool:=
 nodupB τ && (τ.all fun i=>Nat.blt i ops.size) && ((List.range ops.size).all fun i=>τ.contains i) && i9 ops && om (vO ops) τ &&
  om (fun j i=>((ec [] ops.toList).getD i 0).testBit j || vN T ops (aU Ms) (aU ws) j i) τ
def HC{Ms ws:List (ak)}{τ:ak}(h:r9 T ops Ms ws τ=true):vM ops T (aU Ms) (aU ws) τ:=by unfold r9 at h;simp only[Cz]at h;obtain⟨⟨⟨⟨⟨k,l⟩,m⟩,n⟩,o⟩,p⟩:=h;refine⟨y0 k,fun i=>⟨fun y=> ?_,fun y=> ?_⟩,n,tJ (fun j i=>HB) o,tJ (fun j i O=> ?_) p⟩;{exact kg};{exact kg};rw[Wq]at O;(rcases O with O|O);{exact .inl O};exact .inr (HA O)
def Fin.kb[aG P T](k:bf T)(x:P.follows .mixedOrders=true){n:Nat}{fn:FuncId}{todo todo':pA}{st:St}(Ms ws:List (ak))(τ:ak)(U:mu todo=some (ops,todo'))(A:r9 T ops Ms ws τ=true)(h:DU P T G ops (aU Ms) (aU ws) (fun st'=>Fin P G n fn todo' st' Q) τ st):Fin P G n fn todo st Q:=by unfold mu at U;split at U;{simp at U;obtain⟨rfl,rfl⟩:=U;exact Fin.draw (cW.P8 k x (HC A) h)};simp at U
def jX(W:ak)(ρ:Operand->RV):Op->Bool
 | .store _ a _=>match ρ a with
  | .v (.one (.ref b _))=>W.contains b
  |_=>false
 | .alloc _=>true
 | .box _ _=>true
 | .buildSlice _ _ _=>true
 | .call {callee:= .builtin .append,args,..}=>match args.toList.map ρ with
  | [.v (.one (.ad b _ _ _)),_]=>W.contains b
  | [.v (.one (.p _)),_]=>true
  |_=>false
 |_=>false
def od{W:ak}{hp:ag}{b:Nat}{F:Ob}(h:b∈W):d6 W hp (hp.set b F):=by intro k x C M;obtain⟨i,j⟩:=dt C M;have:b≠k:=fun e=>i (e ▸ h);exact⟨x,by simp_all,.inl rfl⟩
def d6.push{W:ak}{hp R l:ag}(h:d6 W hp R):d6 W hp (R++l):=by intro k x C M;obtain⟨y,hy,z⟩:=h k x C M;grind
def y1{W:ak}{ρ:Operand->RV}{o:Oper}{hp R:ag}{r:RV}(u:jX W ρ o.op=true)(h:aJ P T G ρ o hp=some (r,R)):d6 W hp R:=by
 obtain⟨dst,op,type,pos,after,guard⟩:=o;unfold jX at u;split at u;{rename_i t a v U;simp only at U;subst U;split at u;{rename_i b off s;simp only[aJ,cf,s,dO]at h;split at h;{rename_i x n vs hx hn w;simp at hx;subst hx;split at h;{split at h;{rename_i c V;simp at h;obtain⟨_,rfl⟩:=h;simp only[gj]at V;split at V;{exact atT};{exact atT};{split at V;{simp at V;subst V;exact d6.refl};simp at V};simp at V};simp at h};simp at h};simp at h};simp at u}
 ·rename_i t U;simp only at U;subst U;simp only[aJ,mm,ou]at h;split at h
  all_goals
   exact agd
 ·rename_i t x U;simp only at U;subst U;simp only[aJ,pd,pe]at h;split at h
  all_goals
   exact agd
 {rename_i t l x U;simp only at U;subst U;simp only[aJ,jz]at h;split at h;{split at h;{split at h;{exact agd};simp at h};simp at h};simp at h};{rename_i args c U;simp only at U;subst U;simp only[aJ]at h;split at u;{rename_i b off n z y B;rw[B]at h;split at h;{simp only[dM]at h;(repeat' split at h);(all_goals first| (simp at h;done)|skip);(all_goals (simp at h;obtain⟨_,rfl⟩:=h));(all_goals first| exact hI|skip);all_goals (rename_i he _ _ _ _ _ _;simp at he;obtain⟨rfl,_⟩:=he;exact(od ahQ).push)};simp only[aV]at h;split at h;{split at h;{simp at h};split at h;{split at h;{split at h;{split at h;{split at h;{split at h;{simp at h;obtain⟨_,rfl⟩:=h;exact(od ahQ).push};simp at h};simp at h};simp at h};simp at h};simp at h};simp at h};simp at h};{rename_i x y B;rw[B]at h;split at h;{simp only[dM]at h;(repeat' split at h);(all_goals first| (simp at h;done)|skip);(all_goals (simp at h;obtain⟨_,rfl⟩:=h));all_goals first| exact hI|simp_all};simp only[aV]at h;split at h;{split at h;{simp at h};split at h;{split at h;{split at h;{split at h;{split at h;{exact awk};exact agd};{exact kg};{split at h;{exact awk};simp at h};simp at h};simp at h};simp at h};simp at h};simp at h};simp at u};simp at u
noncomputable def oC(P:lB)(T:aq)(G:az)(ops:Array Oper)(Ms ws:List (ak))(i:Nat)(st:St):Option St:=match ops[i]? with
 |some o=>match bD ops st.regs o with
  |some false=>some ⟨aT st.regs o.dst bl,st.hp⟩
  |some true=>match cR o with
   |true=>match bR o.op with
    |some _=>none
    |none=>match di (cq T o.op) with
     |true=>match hE o.op P T G (aQ st.regs) o (aL (aU Ms i) st.hp) with
      |some (r,_)=>some ⟨aT st.regs o.dst r,st.hp⟩
      |none=>none
     |false=>match jX (aU ws i) (aQ st.regs) o.op with
      |true=>match hE o.op P T G (aQ st.regs) o st.hp with
       |some (r,R)=>some ⟨aT st.regs o.dst r,R⟩
       |none=>none
      |false=>none
   |false=>none
  |none=>none
 |none=>none
noncomputable def DQ(P:lB)(T:aq)(G:az)(ops:Array Oper)(Ms ws:List (ak))(m:Nat):ak->St->List Nat×St:=
 Nat.rec (motive:=fun _=>List Nat->St->List Nat×St) (fun l st=>(l,st)) (fun _ d l st=>match l with
  | []=>([],st)
  |i::is=>match oC P T G ops Ms ws i st with
   |some st'=>d is st'
   |none=>(i::is,st)) m
variable {Ms ws:List (ak)} {is:ak} {i:Nat} {st:St}
def DU.quiet{o:Oper}{r:RV}{R:ag}(z:ops[i]? =some o)(t:bD ops st.regs o=some true)(x:cR o=true)(c:bR o.op=none)(M:di (cq T o.op)=true)(h:aJ P T G (aQ st.regs) o (aL (aU Ms i) st.hp)=some (r,R))(U:DU P T G ops (aU Ms) (aU ws) Q is ⟨aT st.regs o.dst r,st.hp⟩):DU P T G ops (aU Ms) (aU ws) Q (i::is) st:=by(have e:R=aL (aU Ms i) st.hp:=by cases C:cq T o.op with| mute=>exact(n8 C h).1|read=>exact(n9 C h).1|call=>simp[C,di]at M|alloc=>simp[C,di]at M|other=>simp[C,di]at M);subst e;exact⟨o,z,.inl ⟨r,.inr ⟨t,x,c,M,h⟩,U⟩⟩
def DU.plain{o:Oper}{r:RV}{R:ag}(z:ops[i]? =some o)(t:bD ops st.regs o=some true)(x:cR o=true)(c:bR o.op=none)(M:di (cq T o.op)=false)(V:jX (aU ws i) (aQ st.regs) o.op=true)(h:aJ P T G (aQ st.regs) o st.hp=some (r,R))(U:DU P T G ops (aU Ms) (aU ws) Q is ⟨aT st.regs o.dst r,R⟩):DU P T G ops (aU Ms) (aU ws) Q (i::is) st:=by refine⟨o,z,.inr (.inl ⟨t,M,.inl c,x,?_⟩)⟩;simp only[c];exact⟨r,R,h,.inl ⟨y1 V h,U⟩⟩
def Up.fz{hp R:ag}(h:Up hp R):∀(Z:ak),Up hp (bv Z R)
 | []=>h
 |b::Z=>by
  show Up hp (bv Z (match R[b]? with| some o=>R.set b (gq o)|none=>R));refine Up.fz ?_ Z;cases hb:R[b]? with
  |none=>exact h
  |some ob=>
   intro k x C M;obtain⟨y,hy,z⟩:=h k x C M
   by_cases e:b=k
   ·subst e;rw[hb]at hy;simp only[pB]at hy;subst hy;have K:=(se.1 hb).1;refine⟨gq ob,by simp[K],?_⟩
    rcases z with rfl|⟨c,g,u,i,rfl⟩
    ·cases x with
     |cells cs f=>exact .inr ⟨cs,f,true,rfl,rfl⟩
     |_=>exact .inl rfl
    exact .inr ⟨c,g,true,i,rfl⟩
   simp_all
def DU.Kl{o:Oper}{r y:RV}{Z:ak}{d:Tmp}{R:ag}(z:ops[i]? =some o)(t:bD ops st.regs o=some true)(x:cR o=true)(c:bR o.op=none)(M:di (cq T o.op)=false)(V:jX (aU ws i) (aQ st.regs) o.op=true)(h:aJ P T G (aQ st.regs) o st.hp=some (r,R))(m:o.dst=some d)(K:d<st.regs.length)(hz:bg R r=some (y,Z))(U:DU P T G ops (aU Ms) (aU ws) Q is ⟨aT st.regs o.dst y,bv Z R⟩):DU P T G ops (aU Ms) (aU ws) Q (i::is) st:=by refine⟨o,z,.inr (.inl ⟨t,M,.inl c,x,?_⟩)⟩;simp only[c];exact⟨r,R,h,.inr ⟨d,y,Z,m,K,hz,(y1 V h).fz Z,U⟩⟩
def y2{st':St}(h:oC P T G ops Ms ws i st=some st')(U:DU P T G ops (aU Ms) (aU ws) Q is st'):DU P T G ops (aU Ms) (aU ws) Q (i::is) st:=by unfold oC at h;split at h;{rename_i o z;split at h;{rename_i hw;simp at h;subst h;exact⟨o,z,.inl ⟨bl,.inl ⟨hw,rfl⟩,U⟩⟩};{rename_i hw;split at h;{rename_i x;split at h;{simp at h};rename_i hc;split at h;{rename_i M;split at h;{rename_i r R V;simp at h;subst h;rw[hQ]at V;exact DU.quiet z hw x hc M V U};simp at h};rename_i M;split at h;{rename_i V;split at h;{rename_i r R W;simp at h;subst h;rw[hQ]at W;exact DU.plain z hw x hc M V W U};simp at h};simp at h};simp at h};simp at h};simp at h
def DU.a':∀(m:Nat){l l':ak}{st st':St},DQ P T G ops Ms ws m l st=(l',st')->DU P T G ops (aU Ms) (aU ws) Q l' st'->DU P T G ops (aU Ms) (aU ws) Q l st
 | 0,l,l',st,st',h,hd=>by
  have:(l,st)=(l',st'):=h
  simp_all
 |m+1,l,l',st,st',h,hd=>by
  cases l with
  |nil=>
   have h:(([]:ak),st)=(l',st'):=h
   simp_all
  |cons i is=>
   have h:(match oC P T G ops Ms ws i st with
    |some st'=>DQ P T G ops Ms ws m is st'
    |none=>(i::is,st))=(l',st'):=h
   split at h
   ·rename_i s A;exact y2 A (DU.a' m h hd)
   simp_all
def DU.done(h:Q st):DU P T G ops (aU Ms) (aU ws) Q [] st:=h
def mQ(ops:Array Oper)(i:Nat)(st:St):Option Oper:=match ops[i]? with
 |some o=>match bD ops st.regs o with
  |some true=>match cR o with
   |true=>match bR o.op with
    |none=>some o
    |some _=>none
   |false=>none
  |_=>none
 |none=>none
def q2{o:Oper}(h:mQ ops i st=some o):ops[i]? =some o/\bD ops st.regs o=some true/\cR o=true/\bR o.op=none:=by unfold mQ at h;grind
def DU.eZ{o:Oper}{r:RV}{hp1 hp':ag}(h:mQ ops i st=some o)(M:di (cq T o.op)=true)(U:aL (aU Ms i) st.hp=hp1)(z:hE o.op P T G (aQ st.regs) o hp1=some (r,hp'))(V:DU P T G ops (aU Ms) (aU ws) Q is ⟨aT st.regs o.dst r,st.hp⟩):DU P T G ops (aU Ms) (aU ws) Q (i::is) st:=by obtain⟨j,k,l,m⟩:=q2 h;rw[hQ]at z;subst U;exact DU.quiet j k l m M z V
def DU.pJ{o:Oper}{r:RV}{hp':ag}(h:mQ ops i st=some o)(M:di (cq T o.op)=false)(V:jX (aU ws i) (aQ st.regs) o.op=true)(z:hE o.op P T G (aQ st.regs) o st.hp=some (r,hp'))(U:DU P T G ops (aU Ms) (aU ws) Q is ⟨aT st.regs o.dst r,hp'⟩):DU P T G ops (aU Ms) (aU ws) Q (i::is) st:=by obtain⟨j,k,l,m⟩:=q2 h;rw[hQ]at z;exact DU.plain j k l m M V z U
def DU.sT{o:Oper}{r r':RV}{ts:ak}{d:Tmp}{hp' hp2:ag}(h:mQ ops i st=some o)(M:di (cq T o.op)=false)(V:jX (aU ws i) (aQ st.regs) o.op=true)(z:hE o.op P T G (aQ st.regs) o st.hp=some (r,hp'))(m:o.dst=some d)(K:Nat.blt d st.regs.length=true)(hz:bg hp' r=some (r',ts))(W:bv ts hp'=hp2)(U:DU P T G ops (aU Ms) (aU ws) Q is ⟨aT st.regs o.dst r',hp2⟩):DU P T G ops (aU Ms) (aU ws) Q (i::is) st:=by obtain⟨j,k,l,n⟩:=q2 h;rw[hQ]at z;subst W;exact DU.Kl j k l n M V z m (by simpa using K) hz U
def r_(T:aq)(ops:Array Oper)(i:Nat)(st:St):Option (FuncId×List RV×List Nat×Option Tmp):=match ops[i]? with
 |some o=>match bD ops st.regs o with
  |some true=>match cR o with
   |true=>match bR o.op with
    |some (f,args)=>match di (cq T o.op) with
     |false=>match cL (aQ st.regs f) (args.map (aQ st.regs)) with
      |some (.fn g,M)=>match ep st.hp M with
       |some (d,ts)=>some (g,d,ts,o.dst)
       |none=>none
      |_=>none
     |true=>none
    |none=>none
   |false=>none
  |_=>none
 |none=>none
def DU.gp{g:FuncId}{l:eG}{Z:ak}{dst:Option Tmp}{F:RV->Prop}(h:r_ T ops i st=some (g,l,Z,dst))(R:aR P G g l F)(U:∀r,F r->eE r=true->DU P T G ops (aU Ms) (aU ws) Q is ⟨aT st.regs dst r,if ei r then st.hp else bv Z st.hp⟩)(n:aU Ms i=[]\/Z=[]:=by first| exact .inl rfl|exact .inr rfl):DU P T G ops (aU Ms) (aU ws) Q (i::is) st:=by unfold r_ at h;split at h;{rename_i o z;split at h;{rename_i hw;split at h;{rename_i x;split at h;{rename_i f args hc;split at h;{rename_i M;split at h;{rename_i u y m;split at h;{rename_i d W hz;simp only[pB,q0]at h;obtain⟨rfl,rfl,rfl,rfl⟩:=h;(rcases n with n|n);{refine⟨o,z,.inr (.inl ⟨hw,M,.inr n,x,?_⟩)⟩;simp only[hc];refine⟨_,_,m,am.mr hz R fun r C hp=>⟨?_,U r C hp⟩⟩;split;{exact d6.refl};exact(Up.aL _ _).trans (Up.freeze _ _)};(subst n;refine⟨o,z,.inr (.inr ⟨hw,M,x,f,args,u,y,d,F,hc,m,hz,R,fun r C hp=> ?_⟩)⟩;have e:(if ei r then st.hp else bv [] st.hp)=st.hp:=by split<;>rfl);grind};simp at h};simp at h};simp at h};simp at h};simp at h};simp at h};simp at h
def rH(T:aq)(ops:Array Oper)(b i:Nat)(W:ak)(st:St):Option (FuncId×List RV×List LV×Option Tmp):=match ops[i]? with
 |some o=>match bD ops st.regs o with
  |some true=>match cR o with
   |true=>match bR o.op with
    |some (f,args)=>match di (cq T o.op) with
     |false=>match W.contains b with
      |true=>match cL (aQ st.regs f) (args.map (aQ st.regs)) with
       |some (.fn g,M)=>match r7 b st.hp M with
        |some (d,cs)=>some (g,d,cs,o.dst)
        |none=>none
       |_=>none
      |false=>none
     |true=>none
    |none=>none
   |false=>none
  |_=>none
 |none=>none
def DU.oV(b:Nat){g:FuncId}{l:eG}{cs:lW}{dst:Option Tmp}{F:RV->lW->Prop}(h:rH T ops b i (aU ws i) st=some (g,l,cs,dst))(R:cx P G g l cs F)(U:∀r c,F r c->eE r=true->c.all cj=true->DU P T G ops (aU Ms) (aU ws) Q is ⟨aT st.regs dst r,st.hp.set b (.cells c false)⟩)(n:aU Ms i=[]:=by rfl):DU P T G ops (aU Ms) (aU ws) Q (i::is) st:=by unfold rH at h;split at h;{rename_i o z;split at h;{rename_i hw;split at h;{rename_i x;split at h;{rename_i f args hc;split at h;{rename_i M;split at h;{rename_i hW;split at h;{rename_i u y m;split at h;{rename_i d H hz;simp only[pB,q0]at h;obtain⟨rfl,rfl,rfl,rfl⟩:=h;obtain⟨k,p,q⟩:=zL hz;refine⟨o,z,.inr (.inl ⟨hw,M,.inr n,x,?_⟩)⟩;simp only[hc];exact⟨_,_,m,am.Bn k p q R fun r c j s t=>⟨od (by simpa using hW),U r c j s t⟩⟩};simp at h};simp at h};simp at h};simp at h};simp at h};simp at h};simp at h};simp at h
end
section
variable {P:lB} {T:aq} {G:az} {n:Nat} {fn:FuncId} {st:St} {Q:St->Prop} {todo todo':pA}
def wrap_u8{n:Int}(h:0<=n)(i:n<256):IntKind.u8.wrap n=n:=by exact agz
def pc(l:rK):lW:=l.map .p
abbrev P_{α:Type}(e:α->rK)(l:List α):Ob:= .cells (pc (l.flatMap e)) false
def Fin.pJ[aG P T](k:bf T){o:Oper}{r:RV}{hp':ag}(h:sD todo st=some (o,todo'))(z:hE o.op P T G (aQ st.regs) o st.hp=some (r,hp'))(U:Fin P G n fn todo' ⟨aT st.regs o.dst r,hp'⟩ Q):Fin P G n fn todo st Q:=by rw[hQ]at z;unfold sD at h;split at h;{split at h;{rename_i y f;split at h;{rename_i hw;split at h;{rename_i x;split at h;{rename_i hc;simp only[pB,q0]at h;obtain⟨rfl,rfl⟩:=h;exact Fin.op k f hw (nS x hc z U)};simp at h};simp at h};simp at h};simp at h};simp at h
def fm{α β:Type}{f:α->Option β}:ba f []=some []:=rfl
def mo{α β:Type}{f:α->Option β}{x:α}{y:β}{l:List α}{r:List β}(h:f x=some y)(C:ba f l=some r):ba f (x::l)=some (y::r):=by simp[ba,h,C]
def tW{π:Nat->Option Nat}:∀(l:rK),ba (e' π) (pc l)=some (pc l)
 | []=>rfl
 |x::l=>by
  show ba (e' π) (.p x::pc l)=some (.p x::pc l);exact mo rfl (tW l)
def gf{π:Nat->Option Nat}{hp:ag}{b:Nat}{l:rK}{fz:Bool}(h:hp[b]? =some (.cells (pc l) fz)):gG π hp b=some (.cells (pc l) fz):=by simp[gG,h,e9,tW]
def y3{L:ag}{n:Nat}:∀(l:rK),ba (b2 L n) (pc l)=some (l.map fun x=>(x,[]))
 | []=>rfl
 |x::l=>by
  show ba (b2 L n) (.p x::pc l)=some ((x,[])::l.map fun x=>(x,[]));exact mo (by simp[b2]) (y3 l)
def jL{α:Type}{l:List α}{n:Nat}(h:l.length=n):part l 0 n=some l:=by subst h;simp[part]
def bq{L:ag}{b k z n:Nat}{l:rK}{fz:Bool}(h:L[b]? =some (.cells (pc l) fz))(y:l.length=k*z):b2 L (n+1) (.ad b 0 k z)=some (.sl k l,[b]):=by(have hp:part (pc l) 0 (k*z)=some (pc l):=jL (by simp[pc,y]);simp only[b2,h,hp,y3];have e:∀l:rK,(l.map fun x=>((x,[]):PV×ak)).map (·.1)=l:=fun l=>by induction l<;>simp_all);exact kg
inductive aa{α:Type}(enc:α->rK)(L:List α):PV->Prop
 |nil (h:L=[]):aa enc L (.vl (.slice none 0 0))
 |sl:aa enc L (.sl L.length (L.flatMap enc))
def ae(s:ByteArray):rK:=[.vl (.string s)]
def aj(n:Int):rK:=[.vl (.int .i64 n)]
def bc{α:Type}{enc:α->rK}{z:Nat}(hz:∀a,(enc a).length=z):∀(L:List α),(L.flatMap enc).length=L.length*z
 | []=>by simp
 |a::L=>by
  rw[XP,WJ,hz,bc hz L,VP,Nat.succ_mul,Nat.add_comm]
def tX{α:Type}{enc:α->rK}{z:Nat}(hz:∀a,(enc a).length=z):∀(L:List α)(k:Nat),(L.flatMap enc).drop (k*z)=(L.drop k).flatMap enc
 |L,0=>by simp
 | [],k+1=>by simp
 |a::L,k+1=>by
  rw[XP,List.drop_succ_cons,<- tX hz L k,Nat.succ_mul,Nat.add_comm,<- acG,List.drop_left' (hz a)]
def qt{α:Type}{enc:α->rK}{z:Nat}(hz:∀a,(enc a).length=z){L:List α}{k off n:Nat}(d:α)(C:k<L.length)(x:off+n<=z):part (L.flatMap enc) (k*z+off) n=some (((enc (L.getD k d)).drop off).take n):=by(have f:(L.flatMap enc).drop (k*z+off)=((enc (L.getD k d)).drop off)++(L.drop (k+1)).flatMap enc:=by(rw[<- acG,tX hz,aeZ C,XP];have e:L.getD k d=L[k]:=by simp[C]);grind);(have g:((L.flatMap enc).drop (k*z+off)).take n=((enc (L.getD k d)).drop off).take n:=by(rw[f,List.take_append];have:n - ((enc (L.getD k d)).drop off).length=0:=by simp[hz];omega);rw[this];simp);(have:(((enc (L.getD k d)).drop off).take n).length=n:=by simp[hz];omega);unfold part;exact kg
def hd(l:rK):PV:=match l with
 |x::_=>x
 | []=> .vl (.slice none 0 0)
variable {hp:ag} {t e:lA} {j:IntKind}
def kK{α:Type}{enc:α->rK}{L:List α}{x:PV}{z:Nat}{k:Int}(A:T.au t=some (.slice e))(B:a6 T e=some z)(M:aa enc L x)(i:0<=k)(l:k<L.length): a5 T t (.v (.one (.p x))) (.v (.one (.p (.vl (.int j k))))) hp=some (.v (.one (.aX (L.flatMap enc) (k.toNat*z))),hp):=by cases M with| nil h=>grind|sl=>exact E9 A B i l
def q3{α:Type}{enc:α->rK}{L:List α}{z off:Nat}{k:Int}(d:α)(A:a6 T t=some 1)(x:ej T t=some false)(hz:∀a,(enc a).length=z)(h:0<=k)(i:k<L.length)(B:off+1<=z): a8 T G t (.v (.one (.aX (L.flatMap enc) (k.toNat*z+off)))) hp=some (.v (.one (.p (hd ((enc (L.getD k.toNat d)).drop off)))),hp):=by(have b:=qt hz (L:=L) (k:=k.toNat) d w_ B;have hl:(((enc (L.getD k.toNat d)).drop off)).length=z - off:=by simp[hz]);cases hc:(enc (L.getD k.toNat d)).drop off with| nil=>grind|cons y w=>rw[hc]at b;simp[a8,dO,A,x,fo,b,gg,hd]
def kR{α:Type}{enc:α->rK}{L:List α}{z:Nat}{k:Int}(d:α)(A:a6 T t=some 1)(x:ej T t=some false)(hz:∀a,(enc a).length=z)(h:0<=k)(i:k<L.length)(B:1<=z): a8 T G t (.v (.one (.aX (L.flatMap enc) (k.toNat*z)))) hp=some (.v (.one (.p (hd (enc (L.getD k.toNat d))))),hp):=by have:=q3 (G:=G) (hp:=hp) (off:=0) d A x hz h i w_;exact kg
def HD{α:Type}{enc:α->rK}{L:List α}{z off n:Nat}{k:Int}(d:α)(A:a6 T t=some n)(x:ej T t=some true)(hz:∀a,(enc a).length=z)(h:0<=k)(i:k<L.length)(B:off+n<=z): a8 T G t (.v (.one (.aX (L.flatMap enc) (k.toNat*z+off)))) hp=some (.v (.agg (pc (((enc (L.getD k.toNat d)).drop off).take n))),hp):=by have b:=qt hz (L:=L) (k:=k.toNat) d w_ B;simp[a8,dO,A,x,fo,b,gg,pc]
def y4{α:Type}{enc:α->rK}{L:List α}{z n:Nat}{k:Int}(d:α)(A:a6 T t=some n)(x:ej T t=some true)(hz:∀a,(enc a).length=z)(h:0<=k)(i:k<L.length)(B:n<=z): a8 T G t (.v (.one (.aX (L.flatMap enc) (k.toNat*z)))) hp=some (.v (.agg (pc ((enc (L.getD k.toNat d)).take n))),hp):=by have:=HD (G:=G) (hp:=hp) (off:=0) d A x hz h i w_;exact kg
def Fin.freeze[aG P T](d:Nat){r y:RV}{Z:ak}(C:st.regs[d]? =some r)(hz:bg st.hp r=some (y,Z))(U:Fin P G n fn todo ⟨st.regs.set d y,bv Z st.hp⟩ Q):Fin P G n fn todo st Q:=by refine Fin.go (F:=fun st'=>st'=⟨st.regs.set d y,bv Z st.hp⟩) (todo':=todo) ?_ (fun _ e=>by simp_all);intro A S w t b cs B q H;have hc:=kQ hz;have hx:=Ext.freeze B hc;have h1:=B.ey hx q;refine⟨_,t,du A S Z,S,w,rfl,.refl _ _,⟨by simpa using h1.1,fun i x z=> ?_⟩,B.freeze hc,hx⟩;by_cases e:d=i;{subst e;obtain⟨v,R,J⟩:=q.2 d r C;have hl:d<st.regs.length:=(se.1 C).1;simp[hl]at z;subst z;exact⟨v,R,ol (S':=S) B hz J⟩};simp only at z;rw[Vt e]at z;exact h1.2 i x z
def cQ{L:ag}{x:LV}{p:PV}{Z:ak}(h:b2 L 12 x=some (p,Z)):bg L (.v (.one x))=some (.v (.one (.p p)),Z):=by simp[bg,dy,h]
def rn{L:ag}{xs:lW}{ps:List (PV×ak)}(h:ba (b2 L 12) xs=some ps):bg L (.v (.agg xs))=some (.v (.agg (pc (ps.map (·.1)))),ps.flatMap (·.2)):=by simp[bg,dy,kj,h,pc]
section
variable {α:Type} {enc:α->rK} {L:List α} {z:Nat}
def P9{b:Array TypeId}{w:lA}{x:PV}(M:aa enc L x)(y:aV P T .len b w [.v (.one (.p (.vl (.slice none 0 0))))] hp=some (kh 0,hp))(z:(b[0]?).bind T.au=some (.slice e)): aV P T .len b w [.v (.one (.p x))] hp=some (.v (.one (.p (.vl (.int .i64 (L.length:Int))))),hp):=by cases M with| nil h=>subst h;exact y|sl=>simp[aV,z,kh,atR]
def xu{k e n:Nat}(hz:∀a,(enc a).length=z)(d:α)(C:k<L.length)(x:e+n<=z):part (pc (L.flatMap enc)) (k*z+e) n=some (pc (((enc (L.getD k d)).drop e).take n)):=by have h:=qt hz (L:=L) (k:=k) d C x;unfold part at h |-;unfold pc;simp only at h |-;split at h;{rename_i h1;simp only[pB]at h;rw[<- List.map_drop,<- List.map_take,ae0];exact kg};simp at h
def HE{b off:Nat}{k:Int}{fz:Bool}(d:α)(A:a6 T t=some 1)(x:ej T t=some false)(O:hp[b]? =some (.cells (pc (L.flatMap enc)) fz))(hz:∀a,(enc a).length=z)(h:0<=k)(i:k<L.length)(B:off+1<=z): a8 T G t (.v (.one (.ref b (0+k.toNat*z+off)))) hp=some (.v (.one (.p (hd ((enc (L.getD k.toNat d)).drop off)))),hp):=by(have c:=xu hz (L:=L) (k:=k.toNat) d w_ B;have hl:(((enc (L.getD k.toNat d)).drop off)).length=z - off:=by simp[hz]);cases hc:(enc (L.getD k.toNat d)).drop off with| nil=>grind|cons y w=>(rw[hc]at c;have e:part (pc (L.flatMap enc)) (0+k.toNat*z+off) 1=some [.p y]:=by rw[Nat.zero_add];exact c);simp[a8,dO,A,x,fo,O,e,gg,hd,-Nat.zero_add]
def eV{b:Nat}{k:Int}{fz:Bool}(d:α)(A:a6 T t=some 1)(x:ej T t=some false)(O:hp[b]? =some (.cells (pc (L.flatMap enc)) fz))(hz:∀a,(enc a).length=z)(h:0<=k)(i:k<L.length)(B:1<=z): a8 T G t (.v (.one (.ref b (0+k.toNat*z)))) hp=some (.v (.one (.p (hd (enc (L.getD k.toNat d))))),hp):=by have:=HE (G:=G) (hp:=hp) (off:=0) d A x O hz h i w_;exact kg
def HF{b off n:Nat}{k:Int}{fz:Bool}(d:α)(A:a6 T t=some n)(x:ej T t=some true)(O:hp[b]? =some (.cells (pc (L.flatMap enc)) fz))(hz:∀a,(enc a).length=z)(h:0<=k)(i:k<L.length)(B:off+n<=z): a8 T G t (.v (.one (.ref b (0+k.toNat*z+off)))) hp=some (.v (.agg (pc (((enc (L.getD k.toNat d)).drop off).take n))),hp):=by have c:=xu hz (L:=L) (k:=k.toNat) d w_ B;simp[a8,dO,A,x,fo,O,c,gg]
def jF{b n:Nat}{k:Int}{fz:Bool}(d:α)(A:a6 T t=some n)(x:ej T t=some true)(O:hp[b]? =some (.cells (pc (L.flatMap enc)) fz))(hz:∀a,(enc a).length=z)(h:0<=k)(i:k<L.length)(B:n<=z): a8 T G t (.v (.one (.ref b (0+k.toNat*z)))) hp=some (.v (.agg (pc ((enc (L.getD k.toNat d)).take n))),hp):=by have:=HF (G:=G) (hp:=hp) (off:=0) d A x O hz h i w_;exact kg
def tY{c:Array TypeId}{w:lA}{b d by':Nat}{a:α}{i:TypeInfo}{zero new:lW}{fz:Bool}(A:(c[0]?).bind T.au=some (.slice e))(M:(c[1]?).bind T.au=some (.slice e))(y:T.info e=some i)(f:zeroOf T e=some zero)(B:i.size=z)(H:zero.length=i.size)(O:hp[b]? =some (.cells (pc (L.flatMap enc)) false))(x:hp[d]? =some (.cells new fz))(C:new=pc (enc a))(hz:∀a,(enc a).length=z)(D:i.bytes=by')(h:0<z)(Q:(L.length+1)*by'<=17592186044416)(R:L.length+1<=17592186044416): aV P T .append c w [.v (.one (.ad b 0 L.length z)),.v (.one (.ad d 0 1 z))] hp=some (.v (.one (.ad hp.length 0 (L++[a]).length z)),hp.set b .gone++[.cells (pc ((L++[a]).flatMap enc)) false]):=by(subst C;subst D;subst B;have hold:part (pc (L.flatMap enc)) 0 (L.length*i.size)=some (pc (L.flatMap enc)):=jL (by simp[pc,bc hz]);have E:elems hp i.size (.v (.one (.ad d 0 1 i.size)))=some (1,pc (enc a)):=by simp only[elems,if_true,x];rw[show 1*i.size=i.size by simp,jL (show(pc (enc a)).length=i.size by simp[pc,hz])];rfl);(have F:roomy (L.length+1) i.bytes=true:=by simp[roomy];omega);simp only[aV,A,M,y,f,E,H,if_true,O,hold,F];simp[h,pc]
def iS{c:Array TypeId}{ty:lA}{b by':Nat}{L2:List α}{x:PV}{i:TypeInfo}{zero:lW}(A:(c[0]?).bind T.au=some (.slice e))(M:(c[1]?).bind T.au=some (.slice e))(y:T.info e=some i)(d:zeroOf T e=some zero)(B:i.size=z)(H:zero.length=i.size)(O:hp[b]? =some (.cells (pc (L.flatMap enc)) false))(N:aa enc L2 x)(hz:∀a,(enc a).length=z)(C:i.bytes=by')(j:0<z)(Q:(L.length+L2.length)*by'<=17592186044416)(R:L.length+L2.length<=17592186044416): aV P T .append c ty [.v (.one (.ad b 0 L.length z)),.v (.one (.p x))] hp=some (.v (.one (.ad hp.length 0 (L++L2).length z)),hp.set b .gone++[.cells (pc ((L++L2).flatMap enc)) false]):=by(subst C;subst B;have hold:part (pc (L.flatMap enc)) 0 (L.length*i.size)=some (pc (L.flatMap enc)):=jL (by simp[pc,bc hz]);have D:elems hp i.size (.v (.one (.p x)))=some (L2.length,pc (L2.flatMap enc)):=by cases N with| nil h=>subst h;rfl|sl=>exact amG);(have E:roomy (L.length+L2.length) i.bytes=true:=by simp[roomy];omega);simp only[aV,A,M,y,d,D,H,if_true,O,hold,E];simp[j,pc]
end
def rp(b:ByteArray):∀(k i:Nat)(r:List UInt8),b.size - i=k->ByteArray.toList.loop b i r=r.reverse++b.data.toList.drop i
 | 0,i,r,h=>by
  unfold ByteArray.toList.loop;have:¬i<b.size:=by omega
  rw[if_neg this,List.drop_eq_nil_of_le (by simp_all)];simp
 |k+1,i,r,h=>by
  unfold ByteArray.toList.loop;have hi:i<b.size:=by omega
  rw[if_pos hi,rp b k (i+1) _ w_];have N:i<b.data.toList.length:=by simpa using hi
  rw[aeZ N];simp[ByteArray.get!]
  simp_all
def toList_inj{s t:ByteArray}:s.toList=t.toList↔s=t:=by constructor;{intro h;unfold ByteArray.toList at h;rw[rp s _ 0 [] rfl,rp t _ 0 [] rfl]at h;simp at h;cases s;simp_all};exact kg
end
section
variable {P:lB} {T:aq} {hp:ag} {t:lA} {j j':IntKind}
def aC(s:ByteArray)(l h:Int):ByteArray:=s.extract l.toNat h.toNat
def gA{s:ByteArray}{h:Int}(z:T.au t=some .string)(i:0<=h)(k:h<=s.size): aZ P T t (.v (.one (.p (.vl (.string s))))) none (some (.v (.one (.p (.vl (.int j h)))))) none hp=some (.v (.one (.p (.vl (.string (aC s 0 h))))),hp):=by(have hb:bounds s.size none (some h)=some (0,h.toNat):=by simp[bounds,i,k]);rw[tI (l':=none) (h':=some h) z rfl rfl hb];rfl
def eB{s:ByteArray}{l:Int}(z:T.au t=some .string)(h:0<=l)(i:l<=s.size): aZ P T t (.v (.one (.p (.vl (.string s))))) (some (.v (.one (.p (.vl (.int j l)))))) none none hp=some (.v (.one (.p (.vl (.string (aC s l s.size))))),hp):=by(have hb:bounds s.size (some l) none=some (l.toNat,s.size):=by simp[bounds,h,i]);rw[tI (l':=some l) (h':=none) z rfl rfl hb];rfl
def kL{s:ByteArray}{l h:Int}(z:T.au t=some .string)(i:0<=l)(k:l<=h)(m:h<=s.size): aZ P T t (.v (.one (.p (.vl (.string s))))) (some (.v (.one (.p (.vl (.int j l)))))) (some (.v (.one (.p (.vl (.int j' h)))))) none hp=some (.v (.one (.p (.vl (.string (aC s l h))))),hp):=by(have hb:bounds s.size (some l) (some h)=some (l.toNat,h.toNat):=by simp[bounds,i,k,m]);rw[tI (l':=some l) (h':=some h) z rfl rfl hb];rfl
def cp{s:ByteArray}{l h:Int}(i:0<=l)(j:l<=h)(k:h<=s.size):((aC s l h).size:Int)=h - l:=by simp[aC];omega
end
def aY(n:Int):rK:=[.vl (.int .u8 n)]
def cT(B:eF):ByteArray:=⟨(B.map fun n=>UInt8.ofNat n.toNat).toArray⟩
def zN(a:Int):(aY a).length=1:=rfl
def pK(B:eF):pc (B.flatMap aY)=B.map fun n=>LV.p (.vl (.int .u8 n)):=by induction B with| nil=>rfl|cons x l d=>simp only[XP,aY,pc,YR,VZ,acD]at d |-;rw[d];rfl
def tA(B:eF):bytesOf (B.map fun n=>LV.p (.vl (.int .u8 n)))=some (B.map fun n=>UInt8.ofNat n.toNat):=by induction B with| nil=>rfl|cons x l d=>simp only[VZ,bytesOf,d];rfl
section
variable {P:lB} {T:aq} {hp:ag} {e:lA}
def tf{s d:lA}{b:Nat}{B:eF}{fz:Bool}(h:T.au s=some (.slice e))(V:T.au e=some (.int .u8))(i:T.au d=some .string)(O:hp[b]? =some (.cells (pc (B.flatMap aY)) fz)): e8 P T s d (.v (.one (.ad b 0 B.length 1))) hp=some (.v (.one (.p (.vl (.string (cT B))))),hp):=by(have a:part (B.map fun n=>LV.p (.vl (.int .u8 n))) 0 (B.length*1)=some (B.map fun n=>LV.p (.vl (.int .u8 n))):=jL s_;have h3:ge P T s d (.v (.one (.ad b 0 B.length 1))) hp=some (.v (.one (.p (.vl (.string (cT B))))),hp):=by(rw[pK]at O;have D:bE (.v (.one (.ad b 0 B.length 1)))=none:=rfl;have C:elems hp 1 (.v (.one (.ad b 0 B.length 1)))=some (B.length,B.map fun n=>LV.p (.vl (.int .u8 n))):=by exact ale);exact alf);rw[<- h3];rfl
def Fe{c:Array TypeId}{w:lA}{b d:Nat}{L:eF}{a0 a1 a2:Int}{i:TypeInfo}{zero new:lW}{fz:Bool}(z:(c[0]?).bind T.au=some (.slice e))(M:(c[1]?).bind T.au=some (.slice e))(y:T.info e=some i)(f:zeroOf T e=some zero)(A:i.size=1)(H:zero.length=i.size)(O:hp[b]? =some (.cells (pc (L.flatMap aY)) false))(x:hp[d]? =some (.cells new fz))(B:new=[.p (.vl (.int .u8 a0)),.p (.vl (.int .u8 a1)),.p (.vl (.int .u8 a2))])(C:i.bytes=1)(Q:L.length+3<=17592186044416): aV P T .append c w [.v (.one (.ad b 0 L.length 1)),.v (.one (.ad d 0 3 1))] hp=some (.v (.one (.ad hp.length 0 (L++[a0,a1,a2]).length 1)),hp.set b .gone++[.cells (pc ((L++[a0,a1,a2]).flatMap aY)) false]):=by(subst B;have hold:part (pc (L.flatMap aY)) 0 (L.length*i.size)=some (pc (L.flatMap aY)):=jL (by simp[pc,bc zN,A]);have D:elems hp i.size (.v (.one (.ad d 0 3 1)))=some (3,[.p (.vl (.int .u8 a0)),.p (.vl (.int .u8 a1)),.p (.vl (.int .u8 a2))]):=by simp only[elems,A,if_true,x];rfl);(have E:roomy (L.length+3) i.bytes=true:=by simp[roomy,C];omega);simp only[aV,z,M,y,f,D,H,if_true,O,hold,E];simp[A,pc,aY]
end
def aR.mono{P:lB}{G:az}{f:FuncId}{args:eG}{Q T:RV->Prop}(h:aR P G f args Q)(M:∀r,Q r->T r):aR P G f args T:=
 am.mono h (fun r L ⟨y,Z,i,j⟩=>⟨y,Z,i,M _ j⟩)
def cx.mono{P:lB}{G:az}{f:FuncId}{args:eG}{cs:lW}{Q T:RV->lW->Prop}(h:cx P G f args cs Q)(M:∀r c,Q r c->T r c):cx P G f args cs T:=
 am.mono h (fun r L ⟨y,Z,b,i,j,k,l,m⟩=>⟨y,Z,b,i,j,k,l,M _ _ m⟩)
end Go.Sx
namespace Go.Sx
def IC(b:Bool){hp:ag}:(if b then hp else bv [] hp)=hp:=by cases b<;>rfl
end Go.Sx
