/- Part of MeaningExact. -/
import Derived.Test.YtkeiahlgcgabjaaGreatDoorP7
set_option linter.all false
set_option maxRecDepth 1000000
set_option maxHeartbeats 0
namespace Go.Sx
section
variable {P:lB} {T:aq} {G:az} {n:Nat} {fn:FuncId} {st:St} {Q:St->Prop} {todo:pA} {A:Nat->Prop} {S:ay} {L L':ag} {w:World}
def al.reshape(C:al G A S L w)(x:L'.length=L.length)(P:∀(b:Nat) y,L'[b]? =some y->∃o,L[b]? =some o/\bS o=bS y/\bT o=bT y)(Y:∀(b:Nat) y,L'[b]? =some y->dx A S w b y):al G A S L' w where
 ob:=Y
 ca B I z:=by
  obtain⟨b,y,d,i,j,k⟩:=z;obtain⟨o,e,f,_⟩:=P b y i;exact C.ca B I ⟨b,o,d,e,by simp_all,k⟩
 lt:=C.lt
 inj b g o y B d R H i j k h4 h5 l:=by
  obtain⟨p,e,f,_⟩:=P b o i;obtain⟨q,m,_,n⟩:=P g y k;exact C.inj b g p q B d R H e kg m kg h5 l
 cz b B d h:=by rw[x];exact C.cz b B d h
 gl:=C.gl
def Fin.ID[aG P T](b j:Nat){cs f:lW}{x:LV}{y:PV}{Z:ak}{fz:Bool}{R:ag}(O:st.hp[b]? =some (.cells cs fz))(u:(bv Z st.hp)[b]? =some (.cells cs fz))(s:cs[j]? =some x)(hz:b2 st.hp 12 x=some (y,Z))(g:cs.set j (.p y)=f)(V:(bv Z st.hp).set b (.cells f fz)=R)(U:Fin P G n fn todo ⟨st.regs,R⟩ Q):Fin P G n fn todo st Q:=by
 subst g V;refine Fin.go (F:=fun st'=>st'=⟨st.regs,(bv Z st.hp).set b (.cells (cs.set j (.p y)) fz)⟩) (todo':=todo) ?_ (fun _ e=>by simp_all);intro A S w t I h C r H;have hc:=qs 12 x y Z hz;have hx:=Ext.freeze C hc;have h1:=C.ey hx r;have D:=C.freeze hc;have W:∀(i:Nat) E,((bv Z st.hp).set b (.cells (cs.set j (.p y)) fz))[i]? =some E->∃o,(bv Z st.hp)[i]? =some o/\bS o=bS E/\bT o=bT E:=by intro i E J;by_cases e:b=i;{subst e;have K:b<(bv Z st.hp).length:=(se.1 u).1;rw[Yb K]at J;simp only[pB]at J;subst J;exact⟨_,u,rfl,rfl⟩};exact kg
 have K:al G (du A S Z) S ((bv Z st.hp).set b (.cells (cs.set j (.p y)) fz)) w:=by refine D.reshape s_ W ?_;intro i E J;by_cases e:b=i;{subst e;have L:b<(bv Z st.hp).length:=(se.1 u).1;rw[Yb L]at J;simp only[pB]at J;subst J;obtain⟨B,d,c,e,fr,k,l,m,M,N,X⟩:=D.ob b _ u;obtain⟨Y,a,ap,aw,a0,a1,a2,a_,be,bo,br⟩:=C.ob b _ O;rw[k]at a1;simp only[pB,q0]at a1;obtain⟨rfl,rfl⟩:=a1;rw[l]at a2;simp only[pB,Obj.cells.injEq]at a2;obtain⟨rfl,rfl,rfl⟩:=a2;refine⟨B,d,c,e,fr,k,l,by simpa using m,M,N,fun q z bU=> ?_⟩;by_cases b1:j=q;{subst b1;have b3:j<cs.length:=(se.1 s).1;rw[Yb b3]at bU;simp only[pB]at bU;subst bU;obtain⟨v,cb,cc⟩:=br j x s;exact⟨v,cb,rj C 12 x y Z v hz cc⟩};exact kg};rw[Vt e]at J;exact D.ob i E J
 refine⟨_,t,du A S Z,S,w,rfl,.refl _ _,h1,K,?_⟩
 exact {hx with
  len:=by simpa using hx.len
  own:=fun B a J=>by
   obtain⟨i,E,d,k,l,m⟩:=J;obtain⟨o,L,M,_⟩:=W i E k
   exact hx.own B a ⟨i,o,d,L,by simp_all,m⟩}
end
section
variable {P:lB} {T:aq} {hp:ag} {t:lA}
def hG{x y:Operand}{a b:ByteArray}(h:(a.size:Int)+(b.size:Int)<=4611686018427387904):bj P T .add t x y (.v (.one (.p (.vl (.string a))))) (.v (.one (.p (.vl (.string b))))) hp=some (.v (.one (.p (.vl (.string (a++b))))),hp):=by(have hn:¬((a.size+b.size:Nat):Int)>IntKind.i64.max:=by(have:IntKind.i64.max=9223372036854775807:=by decide);omega);(have:bi P (do eqGuard .add t x y (.string a) (.string b);binOp .add t (.string a) (.string b))=some (.string (a++b)):=by show bi P (Op.stringOp .add a b)=_;unfold Op.stringOp;simp only[hn,w4];rfl);exact ag5
variable {α:Type} {enc:α->rK} {z:Nat} {e:lA}
def kJ{c:Array TypeId}{w:lA}{b by':Nat}{L2:List α}{x:PV}{i:TypeInfo}{zero cs:lW}(A:(c[0]?).bind T.au=some (.slice e))(M:(c[1]?).bind T.au=some (.slice e))(y:T.info e=some i)(d:zeroOf T e=some zero)(B:i.size=z)(H:zero.length=i.size)(O:hp[b]? =some (.cells cs false))(f:cs=[])(N:aa enc L2 x)(hz:∀a,(enc a).length=z)(C:i.bytes=by')(h:0<z)(Q:(0+L2.length)*by'<=17592186044416)(R:0+L2.length<=17592186044416): aV P T .append c w [.v (.one (.ad b 0 0 z)),.v (.one (.p x))] hp=some (.v (.one (.ad hp.length 0 L2.length z)),hp.set b .gone++[.cells (pc (L2.flatMap enc)) false]):=by subst f;have:=iS (P:=P) (ty:=w) (enc:=enc) (L:=[]) A M y d B H O N hz C h w_ w_;exact kg
def ny{b:Array TypeId}{w:lA}{L2:List α}{x:PV}{i:TypeInfo}{zero:lW}(A:(b[0]?).bind T.au=some (.slice e))(M:(b[1]?).bind T.au=some (.slice e))(y:T.info e=some i)(d:zeroOf T e=some zero)(B:i.size=z)(H:zero.length=i.size)(N:aa enc L2 x)(hz:∀a,(enc a).length=z)(C:L2.length=0): aV P T .append b w [.v (.one (.p (.vl (.slice none 0 0)))),.v (.one (.p x))] hp=some (.v (.one (.p (.vl (.slice none 0 0)))),hp):=by(subst B;have s:L2=[]:=aeU C;subst s;have D:∃cs,elems hp i.size (.v (.one (.p x)))=some (0,cs):=by cases N with| nil h=>exact⟨_,rfl⟩|sl=>exact⟨[],by simp[elems,part]⟩);obtain⟨cs,D⟩:=D;simp only[aV,A,M,y,d,D,H,if_true]
def nC{b:Array TypeId}{w:lA}{by':Nat}{L2:List α}{x:PV}{i:TypeInfo}{zero:lW}(A:(b[0]?).bind T.au=some (.slice e))(M:(b[1]?).bind T.au=some (.slice e))(y:T.info e=some i)(d:zeroOf T e=some zero)(B:i.size=z)(H:zero.length=i.size)(N:aa enc L2 x)(hz:∀a,(enc a).length=z)(C:0<L2.length)(D:i.bytes=by')(j:0<z)(Q:L2.length*by'<=17592186044416)(R:L2.length<=17592186044416): aV P T .append b w [.v (.one (.p (.vl (.slice none 0 0)))),.v (.one (.p x))] hp=some (.v (.one (.ad hp.length 0 L2.length z)),hp++[.cells (pc (L2.flatMap enc)) false]):=by(subst D;subst B;have E:elems hp i.size (.v (.one (.p x)))=some (L2.length,pc (L2.flatMap enc)):=by cases N with| nil h=>simp_all| sl=>exact amG);(have F:roomy L2.length i.bytes=true:=by simp[roomy];omega);(have G:L2.length≠0:=by omega);simp only[aV,A,M,y,d,E,H,if_true,F,if_neg G];simp[j]
def l0{t:lA}{j Q:IntKind}{L:List α}{x:PV}{k h:Int}(d:α)(A:T.au t=some (.slice e))(B:a6 T e=some z)(M:aa enc L x)(hz:∀a,(enc a).length=z)(i:0<=k)(l:k<L.length)(o:h=k+1): aZ P T t (.v (.one (.p x))) (some (.v (.one (.p (.vl (.int j k)))))) (some (.v (.one (.p (.vl (.int Q h)))))) none hp=some (.v (.one (.p (.sl 1 (enc (L.getD k.toNat d))))),hp):=by subst o;cases M with| nil h=>grind|sl=>(have hb:bounds L.length (some k) (some (k+1))=some (k.toNat,(k+1).toNat):=by simp[bounds];omega);(have b:=qt hz (L:=L) (k:=k.toNat) (off:=0) (n:=z) d w_ w_;have f:(k+1).toNat - k.toNat=1:=by omega);have hl:(enc (L.getD k.toNat d)).take z=enc (L.getD k.toNat d):=Wt (by rw[hz];omega);simp only[Nat.add_zero,List.drop_zero,hl]at b;have m:em (RV.v (RW.one (LV.p (PV.vl (Value.int j k)))))=some k:=rfl;have q:em (RV.v (RW.one (LV.p (PV.vl (Value.int Q (k+1))))))=some (k+1):=rfl;simp only[aZ,g5,bE,e7,fP,A,B,m,q,hb,f,Nat.one_mul,b]
def GL{L:List α}{k:Nat}(hz:∀a,(enc a).length=z)(C:k<=L.length):part (L.flatMap enc) (k*z) ((L.length - k)*z)=some ((L.drop k).flatMap enc):=by(have e:(L.flatMap enc).drop (k*z)=(L.drop k).flatMap enc:=tX hz L k;have f:((L.drop k).flatMap enc).length=(L.length - k)*z:=by rw[bc hz,ZI]);unfold part;grind
def GM{L:List α}{k:Nat}(hz:∀a,(enc a).length=z)(C:k<=L.length):part (L.flatMap enc) (0*z) (k*z)=some ((L.take k).flatMap enc):=by(have e:L=L.take k++L.drop k:=(List.take_append_drop k L).symm;have f:((L.take k).flatMap enc).length=k*z:=by rw[bc hz,WZ,Nat.min_eq_left C]);(have g:(L.flatMap enc).take (k*z)=(L.take k).flatMap enc:=by(conv=>lhs;rw[e,List.flatMap_append,<- f]);simp);unfold part;grind
def th{t:lA}{j:IntKind}{L:List α}{k:Int}(A:T.au t=some (.slice e))(B:a6 T e=some z)(hz:∀a,(enc a).length=z)(h:0<=k)(i:k<=L.length): aZ P T t (.v (.one (.p (.sl L.length (L.flatMap enc))))) (some (.v (.one (.p (.vl (.int j k)))))) none none hp=some (.v (.one (.p (.sl (L.drop k.toNat).length ((L.drop k.toNat).flatMap enc)))),hp):=by(have hb:bounds L.length (some k) none=some (k.toNat,L.length):=by simp[bounds];omega);have l:em (RV.v (RW.one (LV.p (PV.vl (Value.int j k)))))=some k:=rfl;have b:=GL (L:=L) (k:=k.toNat) hz w_;simp only[aZ,g5,bE,e7,fP,A,B,l,hb,b,ZI]
def lZ{t:lA}{j:IntKind}{L:List α}{k:Int}(A:T.au t=some (.slice e))(B:a6 T e=some z)(hz:∀a,(enc a).length=z)(h:0<=k)(i:k<=L.length): aZ P T t (.v (.one (.p (.sl L.length (L.flatMap enc))))) none (some (.v (.one (.p (.vl (.int j k)))))) none hp=some (.v (.one (.p (.sl (L.take k.toNat).length ((L.take k.toNat).flatMap enc)))),hp):=by(have hb:bounds L.length none (some k)=some (0,k.toNat):=by simp[bounds];omega);(have l:em (RV.v (RW.one (LV.p (PV.vl (Value.int j k)))))=some k:=rfl;have b:=GM (L:=L) (k:=k.toNat) hz w_;have f:(L.take k.toNat).length=k.toNat:=by rw[WZ];omega);simp only[aZ,g5,bE,e7,fP,A,B,l,hb,Nat.sub_zero,b,f]
def xb{c:Array TypeId}{w:lA}{b by':Nat}{a:α}{L2:List α}{x:PV}{i:TypeInfo}{zero cs:lW}(A:(c[0]?).bind T.au=some (.slice e))(M:(c[1]?).bind T.au=some (.slice e))(y:T.info e=some i)(d:zeroOf T e=some zero)(B:i.size=z)(H:zero.length=i.size)(N:aa enc L2 x)(O:hp[b]? =some (.cells cs false))(f:cs=pc (enc a))(hz:∀a,(enc a).length=z)(C:i.bytes=by')(h:0<z)(Q:(1+L2.length)*by'<=17592186044416)(R:1+L2.length<=17592186044416): aV P T .append c w [.v (.one (.ad b 0 1 z)),.v (.one (.p x))] hp=some (.v (.one (.ad hp.length 0 (a::L2).length z)),hp.set b .gone++[.cells (pc ((a::L2).flatMap enc)) false]):=by(subst f;have S:hp[b]? =some (.cells (pc ([a].flatMap enc)) false):=by simpa using O);have:=iS (P:=P) (ty:=w) (enc:=enc) (L:=[a]) A M y d B H S N hz C h w_ w_;exact kg
def tZ(L:List α)(k:Nat):0<=(L.drop k).length/\(L.drop k).length<=L.length:=⟨Xq _,s_⟩
def qv(L:List α)(k:Nat):0<=(L.take k).length/\(L.take k).length<=L.length:=⟨Xq _,by simp;omega⟩
def y6(a:α)(L:List α):0<=(a::L).length/\(a::L).length<=L.length+1:=⟨Xq _,s_⟩
def jM(L M:List α):0<=(L++M).length/\(L++M).length<=L.length+M.length:=⟨Xq _,s_⟩
def l1{t:lA}{b k:Nat}{v:Int}{L:eF}(A:a6 T t=some 1)(O:hp[b]? =some (.cells (pc (L.flatMap aj)) false))(C:k<L.length): cf T t (.v (.one (.ref b k))) (.v (.one (.p (.vl (.int .i64 v))))) hp=some (bl,hp.set b (.cells (pc ((L.set k v).flatMap aj)) false)):=by(have e:∀(L:eF),pc (L.flatMap aj)=L.map fun n=>LV.p (.vl (.int .i64 n)):=by intro L;induction L with| nil=>rfl|cons x l d=>simp only[XP,aj,pc,YR,VZ,acD]at d |-;rw[d];rfl);(have f:eM (L.map fun n=>LV.p (.vl (.int .i64 n))) k [.p (.vl (.int .i64 v))]=(L.set k v).map fun n=>LV.p (.vl (.int .i64 n)):=by exact aj2);(rw[e]at O;have hl:k+1<=(L.map fun n=>LV.p (.vl (.int .i64 n))).length:=by simp;omega);exact akx
def F0{G:az}{t:lA}{n:Nat}{L:List α}(d:α)(A:a6 T t=some n)(x:ej T t=some true)(hz:∀a,(enc a).length=n)(h:0<L.length): a8 T G t (.v (.one (.aX (L.flatMap enc) 0))) hp=some (.v (.agg (pc (enc (L.getD 0 d)))),hp):=by have:=y4 (G:=G) (hp:=hp) (L:=L) (k:=0) d A x hz w_ w_ (vA n);grind
end
section
variable {P:lB} {T:aq} {G:az} {L:ag}
def uM{l:rK}:(pc l).all cj=true:=by simp[pc,cj]
def d7(P:lB)(G:az)(f:FuncId)(args:eG)(z:Nat)(R:Prop)(Q:Nat->lW->Prop):Prop:=
 am P G (.fn f) args [] fun r L=>(r= .v (.one (.p (.vl (.slice none 0 0))))/\R)\/∃n cs j,r= .v (.one (.ad j 0 n z))/\L[j]? =some (.cells cs false)/\cs.all cj=true/\Q n cs
def am.IE{f:FuncId}{args:eG}{z:Nat}{R:Prop}{Q:Nat->lW->Prop}(l:∀(k:Nat) o,L[k]? =some o->o= .gone)(C:ep L args=some (args,[]))(T:d7 P G f args z R Q): am P G (.fn f) args L fun r s=>(r= .v (.one (.p (.vl (.slice none 0 0))))/\R/\s=L)\/∃n cs,r= .v (.one (.ad L.length 0 n z))/\cs.all cj=true/\Q n cs/\s=L++[.cells cs false]:=by
 refine am.lift T ?_;intro A S w vs E D y T;have J:du A S []=A:=by funext B;simp[du]
 have F:aN A (fun _=>none) w args vs:=by have:=(aN.fz (S':=fun _=>none) D C y).1;exact kg
 have U:∀B,¬ch (fun _=>none) [] B:=by rintro B ⟨b,H,d,m,_⟩;simp at m
 have I:al G A (fun _=>none) [] w:=D.empty (fun B a=>a) D.lt;obtain⟨r,s,v,O,S',w',K,M,N,Y,V⟩:=T A (fun _=>none) I F;have W:∀B,O B->A B\/w.heap.size<=B:=by intro B a;(rcases V.down B a with h|h|h);{exact .inl h};{exact .inr h};exact kg
 have t:∀B,¬ch S L B:=by rintro B ⟨b,H,d,m,X,Z⟩;have:=l b H m;subst this;simp[bS]at X
 rcases K with⟨rfl,c⟩|⟨n,cs,j,rfl,ap,aw,c⟩
 ·let a0:Nat->Prop:=fun B=>A B\/(w.heap.size<=B/\B<w'.heap.size);have a1:∀B,O B->a0 B:=fun B a=>(W B a).imp id fun h=>⟨h,Y.lt B a⟩;refine⟨_,L,v,a0,S,w',.inl ⟨rfl,c,rfl⟩,M,aD.gr a1 rfl N,?_,?_⟩
  ·exact {
    ob:=fun b o h=>by have:=l b o h;subst this;trivial
    ca:=fun B _ a2=>t B a2
    lt:=fun B a=>a.elim (fun h=>W0 (D.lt B h) V.size) fun h=>h.2
    inj:=fun b a_ o be B d bo br m X=>by have:=l b o m;subst this;simp[bS]at X
    cz:=D.cz
    gl:=fun g bU b1=>⟨a1 g (Y.gl g bU b1).1,(Y.gl g bU b1).2⟩}
  exact {
   size:=V.size
   os:=V.os
   tape:=V.tape
   output:=V.output
   wh:=fun _ _ h=>h
   nw:=fun _ _ h=>h
   len:=vA _
   aK:=fun B a _=>V.aK B a (U B)
   da:=V.da
   up:=fun B h=> .inl h
   down:=fun B h=>h.imp id fun h=> .inl h.1
   own:=fun _ _ h=>h}
 obtain⟨a0,a1,q,a2,a_,be,bo,br⟩:=(N:Rel O S' w' (.ad j 0 n z) v);have bU:ch S' s a0:=⟨j,_,a1,ap,rfl,a_⟩;have b1:w.heap.size<=a0:=by(rcases VI a0 w.heap.size with h|h);{exact(U a0 (V.own a0 h bU)).elim};exact h
 obtain⟨B,d,b3,e,fr,cb,cc,cd,cg,ci,cl⟩:=Y.ob j _ ap;rw[a_]at cb;simp only[pB,q0]at cb;obtain⟨rfl,rfl⟩:=cb;let cm:Nat->Prop:=fun B=>A B\/((w.heap.size<=B/\B<w'.heap.size)/\B≠a0);let cn:ay:=fun k=>if k=L.length then some (a0,a1) else S k
 have ct:∀B,O B->cm B:=fun B a=>(W B a).imp id fun h=>⟨⟨h,Y.lt B a⟩,fun e=>Y.ca B a (e ▸ bU)⟩;have get:∀{k:Nat}{o:Ob},(L++[Ob.cells cs false])[k]? =some o->(k=L.length/\o= .cells cs false)\/o= .gone:=by intro k o h;(rcases aia k L.length with cv|cv|cv);{grind};{exact kg};grind
 have cw:cn L.length=some (a0,a1):=by simp[cn]
 have cI:∀B,ch cn (L++[Ob.cells cs false]) B->B=a0:=by rintro B ⟨k,H,d,m,X,Z⟩;(rcases get m with⟨rfl,rfl⟩|rfl);{exact kg};simp[bS]at X
 have cS:∀b p,S b=some p->b≠L.length:=fun b p h e=>by have:=D.cz b p.1 p.2 h;omega
 refine⟨_,_,v,cm,cn,w',.inr ⟨n,cs,rfl,aw,c,rfl⟩,M,?_,?_,?_⟩;{exact(⟨a0,a1,q,a2,cw,be,bo,br⟩:Rel cm cn w' (.ad L.length 0 n z) v)}
 ·exact {
   ob:=fun b o h=>by
    rcases get h with⟨rfl,rfl⟩|rfl
    ·refine⟨a0,a1,b3,e,fr,cw,cc,cd,cg,fun h=>by simp at h,fun i x c0=> ?_⟩;obtain⟨u,c1,c2⟩:=cl i x c0;exact⟨u,c1,Rel.gr ct (LA.1 aw x (WI c0)) c2⟩
    trivial
   ca:=fun B a c0=>by
    have:=cI B c0;subst this
    rcases a with h|h
    ·have:=D.lt B h;omega
    omega
   lt:=fun B a=>a.elim (fun h=>W0 (D.lt B h) V.size) fun h=>h.1.2
   inj:=fun b c1 o c2 B d c3 cS m X Z c4=>by
    rcases get m with⟨rfl,rfl⟩|rfl
    ·rcases get Z with⟨rfl,rfl⟩|rfl
     ·omega
     simp[bT]at c4
    simp[bS]at X
   cz:=fun b B d h=>by
    simp only[cn]at h;split at h
    ·exact VO
    have:=D.cz b B d h;simp;omega
   gl:=fun g dd dh=>⟨ct g (Y.gl g dd dh).1,(Y.gl g dd dh).2⟩}
 exact {
  size:=V.size
  os:=V.os
  tape:=V.tape
  output:=V.output
  wh:=fun b p h=>by grind
  nw:=fun b c0 h=>by grind
  len:=by simp
  aK:=fun B a _=>V.aK B a (U B)
  da:=V.da
  up:=fun B h=> .inl h
  down:=fun B h=>h.imp id fun h=> .inl h.1.1
  own:=fun B a c1=>by grind}
def ic(n:Nat):ak:=List.range n
def zO{L:ag}{x:RW}(h:h7 x=true):dy L x=some (x,[]):=by cases x with| one x=>cases x<;>simp[h7,cj]at h;rfl|agg xs=>(have:∀xs:lW,xs.all cj=true->∃y:rK,ba (b2 L 12) xs=some (y.map fun p=>(p,[]))/\xs=y.map .p:=by intro xs;induction xs with| nil=>intro _;exact⟨[],rfl,rfl⟩|cons x l d=>intro h;simp only[YQ,Cz]at h;obtain⟨y,e,f⟩:=d h.2;cases x<;>simp[cj]at h;rename_i p;refine⟨p::y,?_,by simp[f]⟩;simp only[ba,e];rfl);obtain⟨y,e,f⟩:=this xs h;simp only[dy,kj,e];exact kg
def HG{L:ag}{x:RV}(h:eE x=true):bg L x=some (x,[]):=by cases x with| v x=>simp only[bg,zO (L:=L) h]|ab xs=>(have:∀xs:List RW,xs.all h7=true->ba (dy L) xs=some (xs.map fun p=>(p,[])):=by intro xs;induction xs with| nil=>intro _;rfl|cons x l d=>intro h;simp only[YQ,Cz]at h;simp only[ba,zO (L:=L) h.1,d h.2];rfl);simp only[bg,this xs h];simp[aeR]
def GN{L:ag}:∀{xs:eG},xs.all eE=true->ep L xs=some (xs,[]):=by(intro xs h;have:∀xs:eG,xs.all eE=true->ba (bg L) xs=some (xs.map fun p=>(p,[])):=by intro xs;induction xs with| nil=>intro _;rfl|cons x l d=>intro h;simp only[YQ,Cz]at h;simp only[ba,HG (L:=L) h.1,d h.2];rfl);simp only[ep,this xs h];simp[aeR]
def am.Bp{f:FuncId}{args:eG}{z:Nat}{R:Prop}{Q:Nat->lW->Prop}{T:RV->ag->Prop}(hp:args.all eE=true)(S:d7 P G f args z R Q)(h:R->T (.v (.one (.p (.vl (.slice none 0 0))))) L)(i:∀n cs,Q n cs->T (.v (.one (.ad L.length 0 n z))) (L++[.cells cs false])):am P G (.fn f) args L T:=by(have F:∀k,k<L.length->k∈ic L.length:=fun k i=>by simp[ic,i]);refine am.mono (am.frame (M:=ic L.length) (fun k C=>by simpa[ic] using C) (fun k o C A=> ?_) (am.IE (fun k o A=> ?_) (GN hp) S)) ?_;{grind};{(have w:k<L.length:=by have:=(se.1 A).1;rwa [cr]at this);rw[i7 (F k w),v9 w]at A;exact kg};rintro r _ ⟨N,(⟨rfl,O,rfl⟩|⟨n,cs,rfl,c,O,rfl⟩),rfl⟩;{(have e:c8 (ic L.length) L (aL (ic L.length) L)=L:=by apply Wr;intro k;by_cases C:k<L.length;{rw[gE (F k C) C (by rw[cr];exact C)]};rw[gD (by simp[ic];omega),Yf (by rw[cr];omega),Yf w_]);exact kg};(have e:c8 (ic L.length) L (aL (ic L.length) L++[.cells cs false])=L++[.cells cs false]:=by apply Wr;intro k;by_cases C:k<L.length;{rw[gE (F k C) C (by rw[WJ,cr];omega),Ws C]};rw[gD (by simp[ic];omega),Xo (by rw[cr];omega),Xo w_,cr]);rw[e,cr];simp_all
def d7.ex[aG P T]{f:FuncId}{fn:Func}{c:Code}{args:eG}{z:Nat}{R:Prop}{Q:Nat->lW->Prop}(U:P.funcs[f]? =some fn)(O:fn.body=some c) (x:fn.name≠ "runtime.NumGoroutine")
  (h:Fin P G 0 f [.code c] ⟨dm fn args,[]⟩ fun st=>∃r,bQ T G fn st=some r/\((r= .v (.one (.p (.vl (.slice none 0 0))))/\R)\/∃n cs j,r= .v (.one (.ad j 0 n z))/\st.hp[j]? =some (.cells cs false)/\cs.all cj=true/\Q n cs)) (S:cK f=false:=by rfl):d7 P G f args z R Q:=
 am.ex (L:=[]) U O x h S
variable {n:Nat} {fn:FuncId} {st:St} {Q:St->Prop} {todo:pA}
def rq:pA->St->Option (FuncId×List RV×Option Tmp×pA)
 | .inRegion ops (i::is)::k,st=>match ops[i]? with
  |some o=>match bD ops st.regs o with
   |some true=>match cR o with
    |true=>match bR o.op with
     |some (f,args)=>match cL (aQ st.regs f) (args.map (aQ st.regs)) with
      |some (.fn g,M)=>match M.all eE with
       |true=>some (g,M,o.dst,.inRegion ops is::k)
       |false=>none
      |_=>none
     |none=>none
    |false=>none
   |_=>none
  |none=>none
 |_,_=>none
def Fin.oX[aG P T](k:bf T){g:FuncId}{l:eG}{dst:Option Tmp}{a:pA}{z:Nat}{R:Prop}{F:Nat->lW->Prop}(h:rq todo st=some (g,l,dst,a))(S:d7 P G g l z R F)(i:R->Fin P G n fn a ⟨aT st.regs dst (.v (.one (.p (.vl (.slice none 0 0))))),st.hp⟩ Q)(j:∀m cs,F m cs->Fin P G n fn a ⟨aT st.regs dst (.v (.one (.ad st.hp.length 0 m z))),st.hp++[.cells cs false]⟩ Q):Fin P G n fn todo st Q:=by unfold rq at h;split at h;{split at h;{rename_i o A;split at h;{rename_i hw;split at h;{rename_i x;split at h;{rename_i f args hc;split at h;{rename_i u y q;split at h;{rename_i hz;simp only[pB,q0]at h;obtain⟨rfl,rfl,rfl,rfl⟩:=h;exact Fin.call k A hw x hc q (am.Bp hz S i j)};simp at h};simp at h};simp at h};simp at h};simp at h};simp at h};simp at h
def rI(T:aq)(ops:Array Oper)(i:Nat)(st:St):Option (FuncId×List RV×Option Tmp):=match ops[i]? with
 |some o=>match bD ops st.regs o with
  |some true=>match cR o with
   |true=>match bR o.op with
    |some (f,args)=>match di (cq T o.op) with
     |false=>match cL (aQ st.regs f) (args.map (aQ st.regs)) with
       |some (.fn g,M)=>match M.all eE with
        |true=>some (g,M,o.dst)
        |false=>none
       |_=>none
     |true=>none
    |none=>none
   |false=>none
  |_=>none
 |none=>none
def DU.oX[aG P T]{ops:Array Oper}{b y:List (ak)}{i:Nat}{is:ak}{g:FuncId}{l:eG}{dst:Option Tmp}{z:Nat}{R:Prop}{F:Nat->lW->Prop}(h:rI T ops i st=some (g,l,dst))(S:d7 P G g l z R F)(j:R->DU P T G ops (aU b) (aU y) Q is ⟨aT st.regs dst (.v (.one (.p (.vl (.slice none 0 0))))),st.hp⟩)(k:∀m cs,F m cs->DU P T G ops (aU b) (aU y) Q is ⟨aT st.regs dst (.v (.one (.ad st.hp.length 0 m z))),st.hp++[.cells cs false]⟩)(n:aU b i=[]:=by rfl): DU P T G ops (aU b) (aU y) Q (i::is) st:=by unfold rI at h;split at h;{rename_i o A;split at h;{rename_i hw;split at h;{rename_i x;split at h;{rename_i f args hc;split at h;{rename_i M;split at h;{rename_i u B q;split at h;{rename_i hz;simp only[pB,q0]at h;obtain⟨rfl,rfl,rfl⟩:=h;refine⟨o,A,.inr (.inl ⟨hw,M,.inr n,x,?_⟩)⟩;simp only[hc];exact⟨_,_,q,am.Bp hz S (fun M=>⟨d6.refl,j M⟩) fun m cs U=>⟨hI,k m cs U⟩⟩};simp at h};simp at h};simp at h};simp at h};simp at h};simp at h};simp at h
def d7.bE{f:FuncId}{args:eG}{z:Nat}{Q:Prop}{F:Nat->lW->Prop}{R:RV->Prop}(h:d7 P G f args z Q F)(i:Q->R (.v (.one (.p (.vl (.slice none 0 0))))))(k:∀n cs,F n cs->∃l,cs=pc l/\l.length=n*z/\R (.v (.one (.p (.sl n l))))):aR P G f args R:=by refine am.mono h ?_;rintro r L (⟨rfl,M⟩|⟨n,cs,j,rfl,B,_,M⟩);{exact⟨_,[],rfl,i M⟩};obtain⟨l,rfl,x,C⟩:=k n cs M;exact⟨_,_,cQ (bq B x),C⟩
end
section
variable {P:lB} {T:aq} {G:az} {L:ag} {n:Nat} {fn:FuncId} {st:St} {Q:St->Prop}
def Fin.range[aG P T](l:bf T){k:pA}{f:Operand}{params:Array Tmp}{assign body:Code}{g:FuncId}{ags:eG}(x:eY f=true)(c:cL (aQ st.regs f) [.v (.one (.aI st.hp.length))]=some (.fn g,ags))(h:am P G (.fn g) ags (st.hp++[.loop {fn:=fn,regs:=st.regs,params:=params.toList,assign:=assign,body:=body,state:= .ready,pending:=none}]) fun _ hp=>∃r,hp[st.hp.length]? =some (.loop r)/\r.state≠.busy/\r.pending=none/\Fin P G n fn k ⟨st.regs,hp.set st.hp.length .gone⟩ Q)(R:cK fn=false:=by rfl): Fin P G n fn (.code (.rangeFunc f params assign body)::k) st Q:=by(intro A S w t b cs base y B C U d V O;rw[mt R]at U;have hw:dQ P T G (am P G) (cW P G) fn false (.rangeFunc f params assign body) st fun e st'=>e= .normal/\Fin P G n fn k st' Q:=by refine⟨rfl,x,?_⟩;rw[c];refine am.mono h ?_;rintro r hp ⟨s,i,j,m,o⟩;simp only[i,m];exact⟨j,rfl,o⟩);obtain⟨p,N,u,D,W,z,E,Z,F,H,I,M,X⟩:=gB (b:=b) (k:=k) (cs:=cs) l fn false _ _ _ hw B C U (by rw[d];exact R) V O;obtain⟨rfl,q⟩:=Z;have J:=M.m9 y;obtain⟨Y,K,L,a,ap,aw,a0,e,a1,a2,a_,be,bo,br⟩:=q (b:={b with defers:=E}) (cs:=cs) J.len I H (by rw[mt R];exact U) d X (Wu O M.size);exact⟨Y,K,L,a,ap,aw,a0,e,a1,F.trans a2,a_,be,J.trans bo,br⟩
def rr:pA->St->Option (dw×List RV×Option Tmp×pA)
 | .inRegion ops (i::is)::k,st=>match ops[i]? with
  |some o=>match bD ops st.regs o with
   |some true=>match cR o with
    |true=>match bR o.op with
     |some (f,args)=>match cL (aQ st.regs f) (args.map (aQ st.regs)) with
      |some (c,M)=>some (c,M,o.dst,.inRegion ops is::k)
      |none=>none
     |none=>none
    |false=>none
   |_=>none
  |none=>none
 |_,_=>none
def Fin.jg[aG P T](k:bf T){todo todo':pA}{c:dw}{ags:eG}{dst:Option Tmp}{F:RV->ag->Prop}(h:rr todo st=some (c,ags,dst,todo'))(R:am P G c ags st.hp F)(U:∀r hp,F r hp->Fin P G n fn todo' ⟨aT st.regs dst r,hp⟩ Q):Fin P G n fn todo st Q:=by unfold rr at h;split at h;{split at h;{rename_i o z;split at h;{rename_i hw;split at h;{rename_i x;split at h;{rename_i f args hc;split at h;{rename_i u y m;simp only[pB,q0]at h;obtain⟨rfl,rfl,rfl,rfl⟩:=h;exact Fin.call k z hw x hc m (am.mono R U)};simp at h};simp at h};simp at h};simp at h};simp at h};simp at h
def la(T:aq)(ops:Array Oper)(i:Nat)(st:St):Option (dw×List RV×Option Tmp):=match ops[i]? with
 |some o=>match bD ops st.regs o with
  |some true=>match cR o with
   |true=>match bR o.op with
    |some (f,args)=>match di (cq T o.op) with
     |false=>match cL (aQ st.regs f) (args.map (aQ st.regs)) with
       |some (c,M)=>some (c,M,o.dst)
       |none=>none
     |true=>none
    |none=>none
   |false=>none
  |_=>none
 |none=>none
def sF(W:ak)(n:Nat):Bool:=(List.range n).all fun b=>W.contains b
def HH{W:ak}{hp R:ag}(h:sF W hp.length=true):d6 W hp R:=by intro k x C M;obtain⟨i,j⟩:=dt C M;have hl:=(se.1 j).1;simp only[sF,LA,ZJ]at h;exact kg
def DU.jg[aG P T]{ops:Array Oper}{b y:List (ak)}{i:Nat}{is:ak}{Q:St->Prop}{c:dw}{ags:eG}{dst:Option Tmp}{F:RV->ag->Prop}(h:la T ops i st=some (c,ags,dst))(u:sF (aU y i) st.hp.length=true)(R:am P G c ags st.hp F)(U:∀r hp,F r hp->DU P T G ops (aU b) (aU y) Q is ⟨aT st.regs dst r,hp⟩)(n:aU b i=[]:=by rfl):DU P T G ops (aU b) (aU y) Q (i::is) st:=by unfold la at h;split at h;{rename_i o z;split at h;{rename_i hw;split at h;{rename_i x;split at h;{rename_i f args hc;split at h;{rename_i M;split at h;{rename_i v A m;simp only[pB,q0]at h;obtain⟨rfl,rfl,rfl⟩:=h;refine⟨o,z,.inr (.inl ⟨hw,M,.inr n,x,?_⟩)⟩;simp only[hc];exact⟨_,_,m,am.mono R fun r hp p=>⟨HH u,U r hp p⟩⟩};simp at h};simp at h};simp at h};simp at h};simp at h};simp at h
end
def na(J:Nat->RV):Nat->List Bool->eG->eG
 |i,true::l,r::rs=>r::na J (i+1) l rs
 |i,false::l,_::rs=>J i::na J (i+1) l rs
 |_,[],rs=>rs
 |_,_,[]=>[]
def ua(regs:eG):∀(i:Nat)(f:List Bool)(rs:eG),rs=regs.drop i->na (fun k=>regs.getD k bl) i f rs=rs
 |_,[],rs,_=>by rfl
 |_,true::_,[],_=>rfl
 |_,false::_,[],_=>rfl
 |i,true::l,r::rs,h=>by
  have h2:rs=regs.drop (i+1):=by rw[<- acG (i:=1) (j:=i),<- h];rfl
  simp only[na,ua regs (i+1) l rs h2]
 |i,false::l,r::rs,h=>by
  have h2:rs=regs.drop (i+1):=by rw[<- acG (i:=1) (j:=i),<- h];rfl
  have h3:regs.getD i bl=r:=by
   rw[VS];have:(regs.drop i)[0]? =some r:=by rw[<- h];rfl
   rw[List.getElem?_drop]at this;rw[show i=i+0 from rfl,this];rfl
  simp only[na,ua regs (i+1) l rs h2,h3]
section
variable {P:lB} {T:aq} {G:az} {n:Nat} {fn:FuncId} {st:St} {Q:St->Prop} {todo:pA}
noncomputable def fU(P:lB)(T:aq)(G:az)(m:Nat)(x:ak)(J:Nat->RV)(todo:pA)(st:St):List Item×List RV×ag:=
 match a' P T G m todo st with
 |(todo',st')=>(todo',na J 0 (ko st'.regs.length x) st'.regs,st'.hp)
def Fin.fU[aG P T](l:bf T)(m:Nat)(x:ak){todo':pA}{f:(Nat->RV)->eG}{hp':ag}(h:∀J,Sx.fU P T G m x J todo st=(todo',f J,hp'))(U:∀J,Fin P G n fn todo' ⟨f J,hp'⟩ Q):Fin P G n fn todo st Q:=by cases t:Sx.a' P T G m todo st with| mk a s=>refine Fin.a' (P:=P) (T:=T) l m t ?_;have i:=h (fun k=>s.regs.getD k bl);unfold Sx.fU at i;rw[t]at i;simp only at i;rw[ua s.regs 0 (ko s.regs.length x) s.regs rfl]at i;simp only[q0]at i;obtain⟨rfl,e,rfl⟩:=i;have:=U (fun k=>s.regs.getD k bl);rw[<- e]at this;exact this
end
section
variable {P:lB} {T:aq} {G:az} {n:Nat} {fn:FuncId} {k:pA} {st:St} {Q:St->Prop}
def Fin.wp[aG P T](l:bf T){c:Code} (u:dQ P T G (am P G) (cW P G) fn false c st fun e st'=>match e with
  | .normal=>Fin P G n fn k st' Q
  | .ret=>Q st'
  | .exit _=>False) (R:cK fn=false:=by rfl):Fin P G n fn (.code c::k) st Q:=by(intro A S w t b cs base x B C U d V O;have Z:b.fn=fn:=by rw[U];exact mt R);obtain⟨f,N,v,D,W,y,E,Y,z,F,H,M,X⟩:=gB (b:=b) (k:=k) (cs:=cs) l fn false _ _ _ u B C Z (by rw[d];exact R) V O;have I:=M.m9 x;cases f with| exit i=>exact Y.elim|ret=>obtain⟨m,h⟩:=z;exact⟨N,v,D,W,y,E,_,.ret,⟨by rw[iZ R];exact Y,fun _=>⟨_,rfl⟩⟩,by rw[R];exact Yg h (Steps.cG (rB (by rw[R]at d;simpa using d))),F,H,I,X⟩|normal=>obtain⟨a,J,K,g,L,j,o,e,q,r,s,p,ap,aw⟩:=Y (b:={b with defers:=E}) (cs:=cs) I.len H F U d X (Wu O M.size);exact⟨a,J,K,g,L,j,o,e,q,Yg z r,s,p,I.trans ap,aw⟩
def HI{b:Frame}{t:Array Value}{cs:BY}{w w':World}{ops:Array Oper}{i:Nat}{rest:ak}{o:Oper}{c:Call}(z:ops[i]? =some o)(U:o.op= .defer c)(u:Region.wanted o (yielded ops t)=true)(e:b.roundOf=none){d:Deferred}(C:(execOp (bx t) o).run P w= .ok (.defer d) w'):step P (lone (Fr b t (.inRegion ops (i::rest)::k)) cs w)= .next (lone (Fr {b with defers:=d::b.defers} (il t o.dst undef) (.inRegion ops rest::k)) cs w'):=by obtain⟨f,K,a,j,O,M,A⟩:=b;simp only at e |-;(subst e;have T:=l5 (b:={fn:=f,tmps:=K,todo:=a,defers:=d::j,mode:=O,kind:=M,roundOf:=none}) (t:=t) (k:=k) (ops:=ops) i rest undef;rw[z]at T;simp only[YV]at T;rw[<- T];refine Eo ?_;have he:({fn:=f,tmps:=t,todo:=Item.inRegion ops (i::rest)::k,defers:=j,mode:=FrameMode.run,kind:=M}:Frame).eval=bx t:=by funext x;cases x<;>rfl);simp only[stepG,stepG.exec,stepG.oper,Frame.oper?,Fr,z,u,acF,aaQ,if_true,he];simp[stepG.apply,C]
def F1{fr:Frame}{cs:BY}{w:World}{g:FuncId}{O:Func}{x:Array Value}{A:List Deferred}(T:fr.mode= .returning)(U:fr.defers={target:= .fn (.func g) x,args:=#[]}::A)(h:P.funcs[g]? =some O)(i:O.body.isSome=true) (j:O.name≠ "runtime.NumGoroutine"): step P (lone fr cs w)= .next (lone (Frame.enter P g x .deferred) ({fr with defers:=A}::cs) w):=by(apply Eo;have hc:(invoke (.fn (.func g) x) #[]).run P w= .ok (.enter g x) w:=by simp only[invoke];rw[ta h i j];simp);simp only[stepG,T,unwind,U,callDeferred,YT,hc,YU];simp
def F2{b c:Frame}{t:Array Value}{cs:BY}{w:World}{ops:Array Oper}{i:Nat}{rest:ak}{o:Oper}{d:Array TypeId}(z:ops[i]? =some o)(U:o.op= .call {callee:= .builtin .recover,args:=#[],argTypes:=d})(u:Region.wanted o (yielded ops t)=true)(e:b.roundOf=none)(f:c.mode= .returning)(C:b.kind= .deferred): step P (lone (Fr b t (.inRegion ops (i::rest)::k)) (c::cs) w)= .next (lone (Fr b (il t o.dst .nilIface) (.inRegion ops rest::k)) (c::cs) w):=by(have T:=l5 (b:=b) (t:=t) (k:=k) (ops:=ops) i rest .nilIface;rw[z]at T;simp only[YV]at T;rw[<- T];refine Eo ?_;have D:(execOp (bx t) o).run P w= .ok .recover w:=by unfold execOp;simp only[U,resolve,Sem.run_bind,Sem.run_pure,Result.andThen_ok,invoke];rfl);rw[n4 z u (by rw[U];rfl)];simp[stepG.apply,D,Fr,e,tryRecover,f,C]
def Ft{fr c:Frame}{cs:BY}{w:World}{O:Func}{v:Value}(T:fr.mode= .returning)(U:fr.defers=[])(C:fr.kind= .deferred)(V:P.funcs[fr.fn]? =some O)(D:(results O fr.tmps).run P w= .ok v w)(d:c.mode= .returning): step P (lone fr (c::cs) w)= .next (lone c cs w):=by exact Eo (by simp[stepG,unwind,doReturn,T,U,C,V,D,d])
def oY(P:lB)(G:az)(g:FuncId)(x:eG)(L:ag)(R:ag->Prop):Prop:=
 ∀⦃A:Nat->Prop⦄ ⦃S:ay⦄ ⦃w:World⦄ ⦃vs:List Value⦄,al G A S L w->aN A S w x vs->∀(c:Frame)(cs:BY),c.mode= .returning->
  ∃n O S' w',R n/\Steps P (lone (Frame.enter P g vs.toArray .deferred) (c::cs) w) (lone c cs w')/\al G O S' n w'/\Ext A S L w O S' n w'
def wq(c:Nat×Nat):RV:= .v (.one (.ref c.1 c.2))
def sa(ρ:Operand->RV):Op->Option (FuncId×List (Nat×Nat))
 | .defer {callee:= .value f,args:=⟨[]⟩,argTypes:=_}=>match ρ f with
  | .v (.one (.fn g M))=>match Nat.blt g mK,eY f with
   |true,true=>some (g,M)
   |_,_=>none
  |_=>none
 |_=>none
def xS{ρ:Operand->RV}{op:Op}{g:FuncId}{M:List (Nat×Nat)}(h:sa ρ op=some (g,M)):∃f b,op= .defer {callee:= .value f,args:=#[],argTypes:=b}/\ρ f= .v (.one (.fn g M))/\Nat.blt g mK=true/\eY f=true:=by unfold sa at h;grind
def Fin.defer[aG P T]{ops:Array Oper}{i:Nat}{is:ak}{o:Oper}{g:FuncId}{O:Func}{M:List (Nat×Nat)}(z:ops[i]? =some o)(u:bD ops st.regs o=some true)(U:sa (aQ st.regs) o.op=some (g,M))(l:P.funcs[g]? =some O)(m:O.body.isSome=true) (p:O.name≠ "runtime.NumGoroutine") (h:Fin P G st.hp.length fn (.inRegion ops is::k) ⟨aT st.regs o.dst bl,st.hp⟩ fun st'=>oY P G g (M.map wq) st'.hp fun q=>Q ⟨st'.regs,q⟩) (R:cK fn=false:=by rfl): Fin P G n fn (.inRegion ops (i::is)::k) st Q:=by(intro A S w t b cs base x C D V q W X;have E:b.roundOf=none:=by rw[R]at q;simpa using q);(obtain⟨f,c,Y,s,y,Z⟩:=xS U;have F:=gh D Z;rw[s]at F;obtain⟨H,a,v,I⟩:=F;have J:bx t f= .func (.func g) #[] H.toArray:=by rw[a,jd,y]);(have hex:(execOp (bx t) o).run P w= .ok (.defer {target:= .fn (.func g) H.toArray,args:=#[]}) w:=by unfold execOp;simp only[Y,resolve,Sem.run_bind,J,Deferred.ofValue,Sem.run_pure,Result.andThen_ok];simp);have L:=HI (P:=P) (b:=b) (t:=t) (k:=k) (cs:=cs) (rest:=is) z Y (iO D u) E hex;have K:Marks A S st.hp w ⟨w.heap.size,{target:= .fn (.func g) H.toArray,args:=#[]}::b.defers⟩ ({target:= .fn (.func g) H.toArray,args:=#[]}::b.defers):=⟨[],rfl,YS,fun d U=>by cases U⟩;(obtain⟨st',N,ap,S',w',aw,a0,e,⟨a1,a2⟩,a_,be,bo,br,bU⟩:=h (b:={b with defers:={target:= .fn (.func g) H.toArray,args:=#[]}::b.defers}) (cs:=cs) (vA _) C (D.put jC) V q K (vA _);rw[iZ R]at a1;rw[R]at a_;have hx:Ext A S st.hp w ap S' st'.hp w':=br.k8 C;obtain⟨b1,b3,cb,cc,cd⟩:=nD (P:=P) (fr:={Fr {b with defers:=aw} N a0 with mode:= .returning}) (cs:=cs) rfl (vA _) aw w' rfl bU bo be hx;have cg:aN ap S' b1 (M.map wq) H:=by refine⟨by simp[v],fun j r ci=> ?_⟩;simp only[VJ,CG]at ci;obtain⟨⟨cl,cm⟩,ci,rfl⟩:=ci;obtain⟨B,d,cn,ct⟩:=I j cl cm ci;exact⟨_,ct,B,d,cd.wh cl (B,d) cn,rfl⟩);obtain⟨cv,cw,cI,cS,c0,c1,c2,c3⟩:=a1 cb cg {Fr {b with defers:=b.defers} N a0 with mode:= .returning} cs rfl;have c4:=F1 (P:=P) (fr:={Fr {b with defers:={target:= .fn (.func g) H.toArray,args:=#[]}::b.defers} N a0 with mode:= .returning}) (cs:=cs) (w:=b1) rfl rfl l m p;refine⟨⟨st'.regs,cv⟩,N,cw,cI,cS,b.defers,a0,.normal,⟨by rw[iZ R];exact c0,fun dd=>by rw[R]at dd;simp at dd⟩,by rw[R];exact .head L (a_.trans (b3.trans (.head c4 c1))),al.ey cb c3 cc,c2,((cd.trans c3).m9 x),W.ph ((cd.trans c3).m9 x)⟩
def uo(T:aq)(ρ:Operand->RV):Op->Option RV
 | .typeAssert x _ t true=>match ρ x,eY x,T.au t,mI T t with
  | .v (.one (.p (.vl .nilIface))),true,some (.struct _),some (.v z)=>some (.ab [z,.one (.p (.vl (.bool false)))])
  |_,_,_,_=>none
 |_=>none
def Fin.assert[aG P T]{ops:Array Oper}{i:Nat}{is:ak}{o:Oper}{r:RV}(B:ops[i]? =some o)(u:bD ops st.regs o=some true)(U:uo T (aQ st.regs) o.op=some r)(h:Fin P G n fn (.inRegion ops is::k) ⟨aT st.regs o.dst r,st.hp⟩ Q):Fin P G n fn (.inRegion ops (i::is)::k) st Q:=by refine Fin.go (F:=fun st'=>st'=⟨aT st.regs o.dst r,st.hp⟩) ?_ (fun _ e=>by rw[e];exact h);intro A S w t b cs C D V;unfold uo at U;split at U;{rename_i x E ty W;split at U;{(rename_i f z hx K hu hz;simp at U;subst U;have O:=gh D K;rw[hx]at O;have R:bx t x= .nilIface:=by generalize bx t x=v at O;cases O;rfl);(obtain⟨v,Z,J⟩:=x_ (P:=P) (A:=A) (S:=S) (w:=w) hz;have hex:(execOp (bx t) o).run P w= .ok (.value (.tuple #[v,.bool false])) w:=by unfold execOp;simp only[W,Instr.typeAssert,R,Sem.run_bind,bp hu,Result.andThen_ok,if_true,Z,Sem.run_pure]);refine⟨_,_,A,S,w,rfl,Steps.cG (iN B (iO D u) (by rw[W];rfl) hex),D.put ?_,C,Ext.refl⟩;refine⟨_,rfl,rfl,fun j y s=> ?_⟩;match j,s with| 0,s=>simp at s;subst s;exact⟨v,rfl,J⟩ | 1,s=>simp at s;subst s;exact⟨.bool false,rfl,.vl _ rfl⟩};simp at U};simp at U
def oY.ex[aG P T]{g:FuncId}{O:Func}{f:Nat}{ops:Array Oper}{r:Code}{o:Oper}{i:Array TypeId}{is:ak}{z:eG}{L:ag}{R:ag->Prop}(U:P.funcs[g]? =some O)(Q:O.body=some (.seq (.region f ops false) r))(B:ops[0]? =some o)(V:o.op= .call {callee:= .builtin .recover,args:=#[],argTypes:=i})(u:bD ops (dm O z) o=some true)(C:List.range ops.size=0::is)(h:Fin P G L.length g (.inRegion ops is::[.code r]) ⟨aT (dm O z) o.dst (atR .nilIface),L⟩ fun st=>∃r,bQ T G O st=some r/\R st.hp)(W:cK g=false:=by rfl):oY P G g z L R:=by intro A S w vs D E c cs j;let b:Frame:={fn:=g,tmps:=#[],todo:=[],defers:=[],mode:= .run,kind:= .deferred,roundOf:=none};(have F:Frame.enter P g vs.toArray .deferred=Fr b (vs.toArray++Array.replicate (O.ntmps - vs.toArray.size) undef) [.code (.seq (.region f ops false) r)]:=by simp[Frame.enter,Fr,U,Q,b]);rw[F];have H:=qr (fn:=O) E;have s1:=jW (P:=P) (b:=b) (t:=vs.toArray++Array.replicate (O.ntmps - vs.toArray.size) undef) (k:=[]) (cs:=c::cs) (w:=w) (x:= .region f ops false) (y:=r);have s2:=nR (P:=P) (b:=b) (t:=vs.toArray++Array.replicate (O.ntmps - vs.toArray.size) undef) (k:=[.code r]) (cs:=c::cs) (w:=w) (id:=f) (ops:=ops);rw[C]at s2;have s:=F2 (P:=P) (b:=b) (c:=c) (t:=vs.toArray++Array.replicate (O.ntmps - vs.toArray.size) undef) (k:=[.code r]) (cs:=cs) (w:=w) (rest:=is) B V (iO H u) rfl j rfl;have X:Marks A S L w ⟨w.heap.size,[]⟩ b.defers:=⟨[],rfl,YS,fun d Y=>by cases Y⟩;obtain⟨st,t,Z,S',w',I,a,e,⟨N,_⟩,J,K,l,M,m⟩:=h (b:=b) (cs:=c::cs) (vA _) D (H.put (dst:=o.dst) (r:=atR .nilIface) (v:= .nilIface) (.vl _ rfl)) (mt W).symm W.symm X (vA _);rw[iZ W]at N;rw[W]at J;obtain⟨p,n,q⟩:=N;have M:=M.k8 D;obtain⟨ap,aw,a0,a1,a2⟩:=nD (P:=P) (fr:={Fr {b with defers:=I} t a with mode:= .returning}) (cs:=c::cs) rfl (vA _) I w' rfl m l K M;obtain⟨v,a_,be⟩:=qc (P:=P) (fn:=O) (regs:=st.regs) a0 a1 n;have bo:=Ft (P:=P) (fr:={{Fr {b with defers:=I} t a with mode:= .returning} with defers:=[]}) (c:=c) (cs:=cs) (w:=ap) rfl rfl rfl U a_ j;exact⟨st.hp,Z,S',ap,q,.head s1 (.head s2 (.head s (J.trans (aw.trans (Steps.cG bo))))),a0,a2⟩
end
def ub:Op->Bool
 | .call {callee:= .builtin .recover,args:=⟨[]⟩,argTypes:=_}=>true
 |_=>false
def Ff{op:Op}(h:ub op=true):∃b,op= .call {callee:= .builtin .recover,args:=#[],argTypes:=b}:=by unfold ub at h;grind
noncomputable def u_(C:bO)(m:Nat)(g:FuncId)(y:eG)(L:ag):Option (ag):=
 match C.func g with
 |some O=>match O.body with
  |some (.seq (.region _ ops false) r)=>match ops.toList,List.range ops.size with
   |o::p::_,0::1::is=>match ub o.op,bD ops (dm O y) o,bD ops (aT (dm O y) o.dst (atR .nilIface)) p,uo C.T (aQ (aT (dm O y) o.dst (atR .nilIface))) p.op with
    |true,some true,some true,some x=>match a' C.P C.T C.G m (.inRegion ops is::[.code r]) ⟨aT (aT (dm O y) o.dst (atR .nilIface)) p.dst x,L⟩ with
     |([],st)=>match bQ C.T C.G O st with
      |some _=>some st.hp
      |none=>none
     |_=>none
    |_,_,_,_=>none
   |_,_=>none
  |_=>none
 |none=>none
def GO{C:bO}(A:C.Ok){m:Nat}{g:FuncId}{y:eG}{L n:ag}(h:u_ C m g y L=some n)(R:cK g=false):oY C.P C.G g y L (·=n):=by have:=A.tok;unfold u_ at h;split at h;{rename_i O z;obtain⟨U,B⟩:=A.func _ _ z;split at h;{rename_i id ops r hb;split at h;{rename_i o p tl is hl D;split at h;{rename_i x h1 h2 h3 h4;split at h;{rename_i st s;split at h;{(rename_i q V;simp at h;subst h;obtain⟨b,W⟩:=Ff h1;have e:ops[0]? =some o:=by rw[<- acy,hl];rfl);(have f:ops[1]? =some p:=by rw[<- acy,hl];rfl);exact oY.ex (T:=C.T) U hb e W h2 D (Fin.assert f h3 h4 (Fin.a' A.wf m s (Fin.done (by rw[iZ R];exact⟨q,V,rfl⟩)))) R};simp at h};simp at h};simp at h};simp at h};simp at h};simp at h
noncomputable def u'(C:bO)(l:dp)(k:Nat)(f:FuncId)(args:eG):Option RV:=
 match C.func f with
 |some fn=>match fn.body with
  |some (.seq a (.seq b c))=>match dq C l k f false (.seq a b) ⟨dm fn args,[]⟩ with
   |some (.normal,st)=>match a' C.P C.T C.G 10 [.code c] st with
    |([.inRegion ops [1],.code d],b6)=>match ops.toList with
     |_::o::_=>match bD ops b6.regs o,sa (aQ b6.regs) o.op with
      |some true,some (g,M)=>match C.func g with
       |some O=>match O.body with
        |some _=>match dq C l k f false d ⟨aT b6.regs o.dst bl,b6.hp⟩ with
         |some (.ret,bM)=>match u_ C k g (M.map wq) bM.hp with
          |some n=>match bQ C.T C.G fn ⟨bM.regs,n⟩ with
           |some r=>match bg n r with
            |some (y,_)=>some y
            |none=>none
           |none=>none
          |none=>none
         |_=>none
        |none=>none
       |none=>none
      |_,_=>none
     |_=>none
    |_=>none
   |_=>none
  |_=>none
 |none=>none
def GP{C:bO}(B:C.Ok){l:dp}(m:hY C.P C.G l){k:Nat}{f:FuncId}{args:eG}{r:RV}(h:u' C l k f args=some r)(R:cK f=false:=by rfl):aR C.P C.G f args (·=r):=by have:=B.tok;unfold u' at h;split at h;{rename_i fn H;obtain⟨U,x⟩:=B.func _ _ H;split at h;{rename_i a b c hb;split at h;{rename_i st y;split at h;{rename_i ops d b6 t;split at h;{rename_i o p tl hl;split at h;{rename_i g M hw hd;split at h;{rename_i O z;obtain⟨V,v⟩:=B.func _ _ z;split at h;{rename_i gc u;split at h;{rename_i bM D;split at h;{rename_i n W;split at h;{rename_i E X;split at h;{(rename_i F ts hz;simp at h;subst h;have e:ops[1]? =some p:=by rw[<- acy,hl];rfl);have i:=iP (fn:=f) (rnd:=false) B m d _ _ _ D;refine aR.ex (T:=C.T) U hb x ?_ R;refine Fin.step (fun _ _ _ _=>jW) ?_;rw[zG]at y;split at y;{(rename_i I h1;refine Fin.wp B.wf (fL a (iP B m a _ _ _ h1) ?_) R;rintro J s ⟨rfl,rfl⟩;refine Fin.step (fun _ _ _ _=>jW) ?_;refine Fin.wp B.wf (fL b (iP B m b _ _ _ y) ?_) R;rintro J s ⟨rfl,rfl⟩;refine Fin.a' B.wf 10 t ?_;refine Fin.defer (T:=C.T) e hw hd V (by rw[u];rfl) v ?_ R;refine Fin.step (fun _ _ _ _=>iJ) ?_;refine Fin.wp B.wf (fL d i ?_) R;rintro J s ⟨rfl,rfl⟩;have K:cK g=false:=by obtain⟨_,_,_,_,j,_⟩:=xS hd;have L:g<1000:=aaK j;unfold cK;cases N:Nat.ble 1000000 g;{rfl};have:=aaK N;exact absurd (W0 L (Wu d_ this)) (Nat.lt_irrefl g));intro A S w vs Q Y Z cs ap;obtain⟨L2,aw,S',w',rfl,q⟩:=GO B W K Q Y Z cs ap;grind};exact kg};simp at h};simp at h};simp at h};simp at h};simp at h};simp at h};simp at h};simp at h};simp at h};simp at h};simp at h};simp at h
inductive Z where
 |s (a:pA) (st:St)
 |r (ops:Array Oper) (b ws:List (ak)) (l:ak) (a:pA) (st:St)
section
variable {P:lB} {T:aq} {G:az} {n:Nat} {fn:FuncId} {Q:St->Prop} {z:Z}
def FX(P:lB)(T:aq)(G:az)(n:Nat)(fn:FuncId)(z:Z)(Q:St->Prop):Prop:=match z with
 | .s a st=>Fin P G n fn a st Q
 | .r ops b ws l a st=>DU P T G ops (aU b) (aU ws) (fun st'=>Fin P G n fn a st' Q) l st
def cY:Z->St
 | .s _ st=>st
 | .r _ _ _ _ _ st=>st
noncomputable def sb(P:lB)(T:aq)(G:az):Z->Option Z
 | .s a st=>match km P T G a st with
  |some (g,st')=>some (.s g st')
  |none=>none
 | .r _ _ _ [] a st=>some (.s a st)
 | .r ops b ws (i::is) a st=>match oC P T G ops b ws i st with
  |some st'=>some (.r ops b ws is a st')
  |none=>none
def FX.step[aG P T](k:bf T){z W:Z}(h:sb P T G z=some W)(U:FX P T G n fn W Q):FX P T G n fn z Q:=by unfold sb at h;split at h;{split at h;{rename_i s;simp at h;subst h;exact Fin.km k s U};simp at h};{simp at h;subst h;exact U};split at h;{rename_i A;simp at h;subst h;exact y2 A U};simp at h
noncomputable def aE(P:lB)(T:aq)(G:az)(m:Nat):Z->Z:=
 Nat.rec (motive:=fun _=>Z->Z) (fun z=>z) (fun _ d z=>match sb P T G z with
  |some W=>d W
  |none=>z) m
def FX.a'[aG P T](k:bf T):∀(m:Nat){z:Z},FX P T G n fn (aE P T G m z) Q->FX P T G n fn z Q
 | 0,z,h=>h
 |m+1,z,h=>by
  have h:FX P T G n fn (match sb P T G z with
   |some W=>aE P T G m W
   |none=>z) Q:=h
  split at h
  ·rename_i A;exact FX.step k A (FX.a' k m h)
  exact h
noncomputable def gx(T:aq):Z->Option (Oper×(Operand->RV)×ag)
 | .s a st=>match sD a st with
  |some (o,_)=>some (o,aQ st.regs,st.hp)
  |none=>none
 | .r ops b ws (i::_) _ st=>match mQ ops i st with
  |some o=>match di (cq T o.op) with
   |true=>some (o,aQ st.regs,aL (aU b i) st.hp)
   |false=>match jX (aU ws i) (aQ st.regs) o.op with
    |true=>some (o,aQ st.regs,st.hp)
    |false=>none
  |none=>none
 |_=>none
noncomputable def sc(T:aq)(z:Z)(r:RV)(hp:ag):Z:=match z with
 | .s a st=>match sD a st with
  |some (o,g)=> .s g ⟨aT st.regs o.dst r,hp⟩
  |none=>z
 | .r ops b ws (i::is) a st=>match ops[i]? with
  |some o=> .r ops b ws is a ⟨aT st.regs o.dst r,match di (cq T o.op) with
   |true=>st.hp
   |false=>hp⟩
  |none=>z
 |z=>z
def FX.gx[aG P T](k:bf T){o:Oper}{ρ:Operand->RV}{h hp:ag}{r:RV}(t:Sx.gx T z=some (o,ρ,h))(A:aJ P T G ρ o h=some (r,hp))(U:FX P T G n fn (sc T z r hp) Q):FX P T G n fn z Q:=by rw[<- hQ]at A;unfold Sx.gx at t;split at t;{split at t;{rename_i y g V;simp at t;obtain⟨rfl,rfl,rfl⟩:=t;simp only[sc,V]at U;exact Fin.pJ k V A U};simp at t};{split at t;{rename_i y V;have s:=(q2 V).1;simp only[sc,s]at U;split at t;{rename_i M;simp at t;obtain⟨rfl,rfl,rfl⟩:=t;simp only[M]at U;exact DU.eZ V M rfl A U};rename_i M;split at t;{rename_i W;simp at t;obtain⟨rfl,rfl,rfl⟩:=t;simp only[M]at U;exact DU.pJ V M W A U};simp at t};simp at t};simp at t
noncomputable def nr(P:lB)(T:aq)(G:az)(m:Nat)(z:Z):Option (RV×ag):=match gx T (aE P T G m z) with
 |some (o,ρ,h)=>hE o.op P T G ρ o h
 |none=>none
noncomputable def b4(P:lB)(T:aq)(G:az)(m:Nat)(z:Z):ag:=match gx T (aE P T G m z) with
 |some (_,_,h)=>h
 |none=>[]
noncomputable def dD(P:lB)(T:aq)(G:az)(m:Nat)(z:Z)(r:RV)(hp:ag):Z:=sc T (aE P T G m z) r hp
noncomputable def b7(P:lB)(T:aq)(G:az)(m:Nat)(z:Z):ag:=(cY (aE P T G m z)).hp
def FX.op[aG P T](k:bf T)(m:Nat)(F:ag->Option (RV×ag)){r:RV}{hp:ag}(i:nr P T G m z=F (b4 P T G m z))(j:F (b4 P T G m z)=some (r,hp))(U:FX P T G n fn (dD P T G m z r hp) Q):FX P T G n fn z Q:=by have h:=i.trans j;unfold nr at h;refine FX.a' k m ?_;split at h;{rename_i o ρ A B;rw[hQ]at h;exact FX.gx k B h U};simp at h
def FX.lP[aG P T](k:bf T)(m:Nat){o:Oper}{ρ:Operand->RV}{h hp:ag}{r:RV}(t:Sx.gx T (aE P T G m z)=some (o,ρ,h))(A:aJ P T G ρ o h=some (r,hp))(U:FX P T G n fn (dD P T G m z r hp) Q):FX P T G n fn z Q:=
 FX.a' k m (FX.gx k t A U)
class cZ{α:Type}(enc:α->rK)(s:outParam Nat):Prop where
 h:∀a,(enc a).length=s
noncomputable def pi(P:lB)(T:aq)(G:az)(m:Nat)(z:Z):Option PV:=match gx T (aE P T G m z) with
 |some (o,ρ,_)=>match o.op with
  | .call {callee:= .builtin .len,args,argTypes}=>match args.toList.map ρ,(argTypes[0]?).bind T.au with
   | [.v (.one (.p x))],some (.slice _)=>match dX P (Builtin.len_ argTypes o.type #[.slice none 0 0]) with
    |some (.v (.one (.p (.vl (.int .i64 k)))))=>match k with
     | .ofNat 0=>some x
     |_=>none
    |_=>none
   |_,_=>none
  |_=>none
 |none=>none
def FX.len[aG P T](k:bf T)(m:Nat){α:Type}{enc:α->rK}{L:List α}{x:PV}(y:aa enc L x)(h:pi P T G m z=some x)(U:FX P T G n fn (dD P T G m z (.v (.one (.p (.vl (.int .i64 (L.length:Int)))))) (b4 P T G m z)) Q):FX P T G n fn z Q:=by unfold pi at h;split at h;{(rename_i o ρ A B;have e:b4 P T G m z=A:=by unfold b4;rw[B]);rw[e]at U;refine FX.lP k m B ?_ U;obtain⟨dst,op,w,pos,after,guard⟩:=o;simp only at h;split at h;{rename_i args b;split at h;{rename_i C D;split at h;{rename_i R;split at h;{simp at h;subst h;show aV P T .len _ _ _ _=_;rw[C];refine P9 y ?_ D;simp only[aV,D,bE];show Option.map (fun r=>(r,A)) (dX P (Builtin.len_ b w #[.slice none 0 0]))=_;rw[R];rfl};simp at h};simp at h};simp at h};simp at h};simp at h
noncomputable def pj(P:lB)(T:aq)(G:az)(m:Nat)(z:Z):Option (PV×Int×Nat):=match gx T (aE P T G m z) with
 |some (o,ρ,_)=>match o.op with
  | .indexAddr t x R=>match ρ x,ρ R,T.au t with
   | .v (.one (.p x)),.v (.one (.p (.vl (.int _ k)))),some (.slice e)=>match a6 T e with
    |some s=>some (x,k,s)
    |none=>none
   |_,_,_=>none
  |_=>none
 |none=>none
def FX.idx[aG P T](l:bf T)(m:Nat)(k:Int){α:Type}{enc:α->rK}{L:List α}{x:PV}{s:Nat}[cZ enc s](y:aa enc L x)(i:0<=k)(j:k<L.length)(h:pj P T G m z=some (x,k,s))(U:FX P T G n fn (dD P T G m z (.v (.one (.aX (L.flatMap enc) (k.toNat*s)))) (b4 P T G m z)) Q):FX P T G n fn z Q:=by unfold pj at h;split at h;{(rename_i o ρ A B;have e:b4 P T G m z=A:=by unfold b4;rw[B]);rw[e]at U;refine FX.lP l m B ?_ U;obtain⟨dst,op,w,pos,after,guard⟩:=o;simp only at h;split at h;{rename_i t p R;split at h;{rename_i h2 h3 C;split at h;{rename_i r;simp at h;obtain⟨rfl,rfl,rfl⟩:=h;show a5 T t (ρ p) (ρ R) A=_;rw[h2,h3];exact kK C r y i j};simp at h};simp at h};simp at h};simp at h
noncomputable def gS(P:lB)(T:aq)(G:az)(m:Nat)(z:Z):Option (List PV×Nat×Nat):=match gx T (aE P T G m z) with
 |some (o,ρ,_)=>match o.op with
  | .load t x=>match ρ x,a6 T t,ej T t with
   | .v (.one (.aX cs off)),some k,some false=>match k with
    | 1=>some (cs,off,0)
    |_=>none
   | .v (.one (.aX cs off)),some k,some true=>some (cs,off,k+1)
   |_,_,_=>none
  |_=>none
 |none=>none
def FX.ld[aG P T](l:bf T)(m:Nat){α:Type}(enc:α->(List PV))(L:List α)(k:Int){s:Nat}[cZ enc s][Inhabited α](i:0<=k)(j:k<L.length)(h:gS P T G m z=some (L.flatMap enc,k.toNat*s,0))(A:Nat.ble 1 s=true)(U:FX P T G n fn (dD P T G m z (.v (.one (.p (hd (enc (L.getD k.toNat default)))))) (b4 P T G m z)) Q):FX P T G n fn z Q:=by unfold gS at h;split at h;{(rename_i o ρ B C;have e:b4 P T G m z=B:=by unfold b4;rw[C]);rw[e]at U;refine FX.lP l m C ?_ U;obtain⟨dst,op,w,pos,after,guard⟩:=o;simp only at h;split at h;{rename_i t q;split at h;{rename_i h2 r u;split at h;{simp at h;obtain⟨rfl,rfl⟩:=h;show a8 T G t (ρ q) B=_;rw[h2];exact kR default r u cZ.h i j (by simpa using A)};simp at h};all_goals simp_all};simp at h};simp at h
def FX.Uy[aG P T](l:bf T)(m:Nat){α:Type}(enc:α->(List PV))(L:List α)(k:Int)(d:Nat){s:Nat}[cZ enc s][Inhabited α](i:0<=k)(j:k<L.length)(h:gS P T G m z=some (L.flatMap enc,k.toNat*s+d,0))(A:Nat.ble (d+1) s=true)(U:FX P T G n fn (dD P T G m z (.v (.one (.p (hd ((enc (L.getD k.toNat default)).drop d))))) (b4 P T G m z)) Q):FX P T G n fn z Q:=by unfold gS at h;split at h;{(rename_i o ρ B C;have e:b4 P T G m z=B:=by unfold b4;rw[C]);rw[e]at U;refine FX.lP l m C ?_ U;obtain⟨dst,op,w,pos,after,guard⟩:=o;simp only at h;split at h;{rename_i t q;split at h;{rename_i h2 r u;split at h;{simp at h;obtain⟨rfl,rfl⟩:=h;show a8 T G t (ρ q) B=_;rw[h2];exact q3 default r u cZ.h i j (by simpa using A)};simp at h};all_goals simp_all};simp at h};simp at h
def FX.Uz[aG P T](l:bf T)(m:Nat){α:Type}(enc:α->rK)(L:List α)(k:Int)(q:Nat){s:Nat}[cZ enc s][Inhabited α](i:0<=k)(j:k<L.length)(h:gS P T G m z=some (L.flatMap enc,k.toNat*s,q+1))(A:Nat.ble q s=true)(U:FX P T G n fn (dD P T G m z (.v (.agg (pc ((enc (L.getD k.toNat default)).take q)))) (b4 P T G m z)) Q):FX P T G n fn z Q:=by unfold gS at h;split at h;{(rename_i o ρ B C;have e:b4 P T G m z=B:=by unfold b4;rw[C]);rw[e]at U;refine FX.lP l m C ?_ U;obtain⟨dst,op,w,pos,after,guard⟩:=o;simp only at h;split at h;{rename_i t p;split at h;{grind};{rename_i h2 r u;simp at h;obtain⟨rfl,rfl,rfl⟩:=h;show a8 T G t (ρ p) B=_;rw[h2];exact y4 default r u cZ.h i j alM};simp at h};simp at h};simp at h
noncomputable def pM(P:lB)(T:aq)(G:az)(m:Nat)(z:Z):Option (ByteArray×Int):=match gx T (aE P T G m z) with
 |some (o,ρ,_)=>match o.op with
  | .index t x R=>match ρ x,ρ R,T.au t with
   | .v (.one (.p (.vl (.string s)))),.v (.one (.p (.vl (.int _ k)))),some .string=>some (s,k)
   |_,_,_=>none
  |_=>none
 |none=>none
def FX.byte[aG P T](l:bf T)(m:Nat)(s:ByteArray)(k:Int)(i:0<=k)(j:k<s.size)(h:pM P T G m z=some (s,k))(U:FX P T G n fn (dD P T G m z (.v (.one (.p (.vl (.int .u8 (an s k)))))) (b4 P T G m z)) Q):FX P T G n fn z Q:=by unfold pM at h;split at h;{(rename_i o ρ A B;have e:b4 P T G m z=A:=by unfold b4;rw[B]);rw[e]at U;refine FX.lP l m B ?_ U;obtain⟨dst,op,w,pos,after,guard⟩:=o;simp only at h;split at h;{rename_i t q R;split at h;{rename_i h2 h3 C;simp at h;obtain⟨rfl,rfl⟩:=h;show cD P T t (ρ q) (ρ R) A=_;rw[h2,h3];exact kM C i j};simp at h};simp at h};simp at h
def wt(b:Nat)(hp:ag):Option (lW):=match hp[b]? with
 |some (.cells cs _)=>some cs
 |_=>none
def vP(b:Nat)(hp:ag):Option (lW):=match hp[b]? with
 |some (.cells cs false)=>some cs
 |_=>none
def IF{b:Nat}{hp:ag}{cs:lW}(h:wt b hp=some cs):∃f,hp[b]? =some (.cells cs f):=by unfold wt at h;grind
def HJ{b:Nat}{hp:ag}{cs:lW}(h:vP b hp=some cs):hp[b]? =some (.cells cs false):=by unfold vP at h;grind
noncomputable def lG(P:lB)(T:aq)(G:az)(m:Nat)(z:Z):Option ((List LV×Nat×Nat×List LV×Nat)×Nat):=match gx T (aE P T G m z) with
 |some (o,ρ,h)=>match u3 o.pos with
  |true=>none
  |false=>match o.op with
   | .call {callee:= .builtin .append,args,argTypes}=>match args.toList.map ρ,(argTypes[0]?).bind T.au,(argTypes[1]?).bind T.au with
    | [.v (.one (.ad b 0 k s)),.v (.one (.ad c 0 1 s2))],some (.slice e),some (.slice f)=>match T.info e,zeroOf T e with
     |some i,some zero=>match Nat.beq i.size s,Nat.beq zero.length s,Nat.beq s2 s && Nat.beq f e,Nat.blt 0 s with
      |true,true,true,true=>match vP b h,wt c h with
       |some j,some new=>some ((j,k,s,new,i.bytes),b)
       |_,_=>none
      |_,_,_,_=>none
     |_,_=>none
    |_,_,_=>none
   |_=>none
 |none=>none
noncomputable def pk(P:lB)(T:aq)(G:az)(m:Nat)(z:Z):Nat:=match lG P T G m z with
 |some (_,b)=>b
 |none=>0
def FX.app[aG P T](k:bf T)(m:Nat){α:Type}(enc:α->rK)(L:List α)(a:α)(y:Nat){s:Nat}[cZ enc s](C:(L.length+1)*y<=17592186044416)(D:L.length+1<=17592186044416)(h:(lG P T G m z).map (·.1)=some (pc (L.flatMap enc),L.length,s,pc (enc a),y))(U:FX P T G n fn (dD P T G m z (.v (.one (.ad (b4 P T G m z).length 0 (L++[a]).length s))) ((b4 P T G m z).set (pk P T G m z) .gone++[.cells (pc ((L++[a]).flatMap enc)) false])) Q):FX P T G n fn z Q:=by unfold pk at U;cases t:lG P T G m z with| none=>simp_all| some q=>rw[t]at h U;simp only[acF,pB]at h;obtain⟨r,b⟩:=q;simp only at h U;subst h;unfold lG at t;split at t;{(rename_i o ρ A B;have e:b4 P T G m z=A:=by unfold b4;rw[B]);rw[e]at U;refine FX.lP k m B ?_ U;obtain⟨dst,op,w,pos,after,guard⟩:=o;simp only at t;split at t;{simp at t};rename_i M;split at t;{split at t;{rename_i args c E F hX;split at t;{rename_i i zero hi hzero;split at t;{rename_i h1 h2 h3 h4;split at t;{rename_i j new H I;simp only[pB,q0]at t;obtain⟨⟨rfl,rfl,rfl,rfl,rfl⟩,rfl⟩:=t;have f:=Wv h1;have g:=Wv h2;rw[Cz]at h3;have l:=Wv h3.1;have p:=Wv h3.2;subst l p;obtain⟨fz,x⟩:=IF I;simp only[aJ,M];rw[E];exact tY F hX hi hzero f (g.trans f.symm) (HJ H) x rfl cZ.h rfl (by simpa using h4) C D};simp at t};simp at t};simp at t};simp at t};simp at t};simp at t
def cX(c:Nat)(r:RV):Z->Z
 | .s a st=> .s a ⟨st.regs.set c r,st.hp⟩
 | .r ops b ws l a st=> .r ops b ws l a ⟨st.regs.set c r,st.hp⟩
def nb(b:Nat)(x:Ob):Z->Z
 | .s a st=> .s a ⟨st.regs,st.hp.set b x⟩
 | .r ops c ws l a st=> .r ops c ws l a ⟨st.regs,st.hp.set b x⟩
def uq{α:Type}{l:List α}{c:Nat}{r:α}(h:l[c]? =some r):l.set c r=l:=by apply Wr;grind
def FX.gT[aG P T](k:bf T)(m c:Nat){α:Type}{x y:α}(e:x=y)(f:α->RV)(h:(cY (aE P T G m z)).regs[c]? =some (f x))(U:FX P T G n fn (cX c (f y) (aE P T G m z)) Q):FX P T G n fn z Q:=by(subst e;refine FX.a' k m ?_;have:cX c (f x) (aE P T G m z)=aE P T G m z:=by generalize aE P T G m z=W at h;cases W<;>(simp only[cY]at h;simp only[cX,uq h]));exact kg
def FX.obj[aG P T](k:bf T)(m b:Nat){α:Type}{x y:α}(e:x=y)(f:α->Ob)(h:(cY (aE P T G m z)).hp[b]? =some (f x))(U:FX P T G n fn (nb b (f y) (aE P T G m z)) Q):FX P T G n fn z Q:=by(subst e;refine FX.a' k m ?_;have:nb b (f x) (aE P T G m z)=aE P T G m z:=by generalize aE P T G m z=W at h;cases W<;>(simp only[cY]at h;simp only[nb,uq h]));exact kg
def FX.br[aG P T](k:bf T)(m c:Nat)(p:Prop)[Decidable p](h:(cY (aE P T G m z)).regs[c]? =some (.v (.one (.p (.vl (.bool (decide p)))))))(i:p->FX P T G n fn (cX c (.v (.one (.p (.vl (.bool true))))) (aE P T G m z)) Q)(j:¬p->FX P T G n fn (cX c (.v (.one (.p (.vl (.bool false))))) (aE P T G m z)) Q):FX P T G n fn z Q:=by by_cases hp:p;{exact FX.gT k m c (Ye hp) (fun v=> .v (.one (.p (.vl (.bool v))))) h (i hp)};exact FX.gT k m c (XQ hp) (fun v=> .v (.one (.p (.vl (.bool v))))) h (j hp)
noncomputable def vb(T:aq):Z->Option (FuncId×List RV×ak)
 | .s a st=>match oA a st with
  |some (g,l,ts,_,_)=>some (g,l,ts)
  |none=>none
 | .r ops b ws (i::_) _ st=>match r_ T ops i st with
  |some (g,l,ts,_)=>match aU b i,ts with
   | [],ts=>some (g,l,ts)
   |_,[]=>some (g,l,[])
   |_,_=>none
  |none=>none
 |_=>none
noncomputable def oD(T:aq)(z:Z)(r:RV)(a:ak):Z:=match z with
 | .s b st=>match oA b st with
  |some (_,_,_,dst,g)=> .s g ⟨aT st.regs dst r,match a with
   | []=>st.hp
   |_=>match ei r with
    |true=>st.hp
    |false=>bv a st.hp⟩
  |none=>z
 | .r ops c ws (i::is) b st=>match r_ T ops i st with
  |some (_,_,_,dst)=> .r ops c ws is b ⟨aT st.regs dst r,match a with
   | []=>st.hp
   |_=>match ei r with
    |true=>st.hp
    |false=>bv a st.hp⟩
  |none=>z
 |z=>z
def zP(Z:ak)(r:RV)(hp:ag):(match Z with
   | []=>hp
   |_=>match ei r with
    |true=>hp
    |false=>bv Z hp)=if ei r then hp else bv Z hp:=by cases Z with| nil=>cases ei r<;>rfl|cons t Z=>grind
def FX.CK[aG P T](k:bf T){g:FuncId}{l:eG}{Z:ak}{F:RV->Prop}(R:aR P G g l F)(h:vb T z=some (g,l,Z))(U:∀r,F r->FX P T G n fn (oD T z r Z) Q):FX P T G n fn z Q:=by unfold vb at h;split at h;{split at h;{rename_i u v W dst j hc;simp at h;obtain⟨rfl,rfl,rfl⟩:=h;refine Fin.gp k hc R fun r L _=> ?_;exact auF};simp at h};{split at h;{(rename_i ops b ws i is a st _ u v W dst hc;have key:∀c,W=c->(aU b i=[]\/c=[])->(∀r,F r->FX P T G n fn (oD T (.r ops b ws (i::is) a st) r c) Q)->u=g->v=l->FX P T G n fn (.r ops b ws (i::is) a st) Q:=by rintro c rfl s U rfl rfl;refine DU.gp hc R (fun r L _=> ?_) s;exact auF);grind};simp at h};simp at h
noncomputable def jh(P:lB)(T:aq)(G:az)(m:Nat)(z:Z):Option (FuncId×List RV×ak):=vb T (aE P T G m z)
noncomputable def i_(P:lB)(T:aq)(G:az)(m:Nat)(z:Z)(r:RV)(a:ak):Z:=oD T (aE P T G m z) r a
def FX.call[aG P T](k:bf T)(m:Nat){g:FuncId}{ags:eG}{F:RV->Prop}(R:aR P G g ags F)(h:jh P T G m z=some (g,ags,[]))(U:∀r,F r->FX P T G n fn (i_ P T G m z r []) Q):FX P T G n fn z Q:=
 FX.a' k m (FX.CK k R h U)
def FX.P'[aG P T](k:bf T)(m:Nat)(Z:ak){g:FuncId}{l:eG}{F:RV->Prop}(R:aR P G g l F)(h:jh P T G m z=some (g,l,Z))(U:∀r,F r->FX P T G n fn (i_ P T G m z r Z) Q):FX P T G n fn z Q:=
 FX.a' k m (FX.CK k R h U)
noncomputable def AN(T:aq)(b:Nat):Z->Option (FuncId×List RV×lW)
 | .s a st=>match rm b a st with
  |some (g,l,cs,_,_)=>some (g,l,cs)
  |none=>none
 | .r ops c ws (i::_) _ st=>match rH T ops b i (aU ws i) st,aU c i with
  |some (g,l,cs,_),[]=>some (g,l,cs)
  |_,_=>none
 |_=>none
noncomputable def uN(T:aq)(b:Nat)(z:Z)(r:RV)(cs:lW):Z:=match z with
 | .s a st=>match rm b a st with
  |some (_,_,_,dst,g)=> .s g ⟨aT st.regs dst r,st.hp.set b (.cells cs false)⟩
  |none=>z
 | .r ops c ws (i::is) a st=>match rH T ops b i (aU ws i) st with
  |some (_,_,_,dst)=> .r ops c ws is a ⟨aT st.regs dst r,st.hp.set b (.cells cs false)⟩
  |none=>z
 |z=>z
noncomputable def oE(P:lB)(T:aq)(G:az)(m b:Nat)(z:Z):Option (FuncId×List RV×lW):=AN T b (aE P T G m z)
noncomputable def oF(P:lB)(T:aq)(G:az)(m b:Nat)(z:Z)(r:RV)(cs:lW):Z:=uN T b (aE P T G m z) r cs
def FX.oV[aG P T](k:bf T)(m b:Nat){g:FuncId}{l:eG}{cs:lW}{F:RV->lW->Prop}(R:cx P G g l cs F)(h:oE P T G m b z=some (g,l,cs))(U:∀r c,F r c->FX P T G n fn (oF P T G m b z r c) Q):FX P T G n fn z Q:=by refine FX.a' k m ?_;unfold oE at h;unfold oF at U;generalize aE P T G m z=W at h U;unfold AN at h;split at h;{split at h;{rename_i hc;simp at h;obtain⟨rfl,rfl,rfl⟩:=h;refine Fin.oV k b hc R fun r c L _ _=> ?_;exact avO};simp at h};{split at h;{rename_i hc o;simp at h;obtain⟨rfl,rfl,rfl⟩:=h;refine DU.oV b hc R (fun r c L _ _=> ?_) o;exact avO};simp at h};simp at h
noncomputable def AO(T:aq):Z->Option (FuncId×eG)
 | .s a st=>match rq a st with
  |some (g,l,_,_)=>some (g,l)
  |none=>none
 | .r ops b ws (i::_) _ st=>match rI T ops i st,aU b i with
  |some (g,l,_),[]=>some (g,l)
  |_,_=>none
 |_=>none
noncomputable def mh(T:aq)(z:Z)(f:ag->RV×ag):Z:=match z with
 | .s a st=>match rq a st with
  |some (_,_,dst,g)=> .s g ⟨aT st.regs dst (f st.hp).1,(f st.hp).2⟩
  |none=>z
 | .r ops b ws (i::is) a st=>match rI T ops i st with
  |some (_,_,dst)=> .r ops b ws is a ⟨aT st.regs dst (f st.hp).1,(f st.hp).2⟩
  |none=>z
 |z=>z
noncomputable def mv(P:lB)(T:aq)(G:az)(m:Nat)(z:Z):Option (FuncId×eG):=AO T (aE P T G m z)
noncomputable def oG(P:lB)(T:aq)(G:az)(m:Nat)(z:Z):Z:=mh T (aE P T G m z) fun hp=>(.v (.one (.p (.vl (.slice none 0 0)))),hp)
noncomputable def oH(P:lB)(T:aq)(G:az)(m s:Nat)(z:Z)(k:Nat)(cs:lW):Z:=mh T (aE P T G m z) fun hp=>(.v (.one (.ad hp.length 0 k s)),hp++[.cells cs false])
def FX.oX[aG P T](l:bf T)(m:Nat){g:FuncId}{o:eG}{s:Nat}{R:Prop}{F:Nat->lW->Prop}(S:d7 P G g o s R F)(h:mv P T G m z=some (g,o))(i:R->FX P T G n fn (oG P T G m z) Q)(j:∀k cs,F k cs->FX P T G n fn (oH P T G m s z k cs) Q):FX P T G n fn z Q:=by refine FX.a' l m ?_;unfold mv at h;unfold oG at i;unfold oH at j;generalize aE P T G m z=W at h i j;unfold AO at h;split at h;{split at h;{rename_i hc;simp at h;obtain⟨rfl,rfl⟩:=h;refine Fin.oX l hc S (fun p=> ?_) fun k cs L=> ?_;{have:=i p;exact agW};have:=j k cs L;exact agW};simp at h};{split at h;{rename_i hc p;simp at h;obtain⟨rfl,rfl⟩:=h;refine DU.oX hc S (fun q=> ?_) (fun k cs L=> ?_) p;{have:=i q;exact agW};have:=j k cs L;exact agW};simp at h};simp at h
noncomputable def oZ(P:lB)(T:aq)(G:az)(m:Nat)(b y:List (ak))(τ:ak)(z:Z):Bool:=match aE P T G m z with
 | .s a _=>match mu a with
  |some (ops,_)=>r9 T ops b y τ
  |none=>false
 |_=>false
noncomputable def o0(P:lB)(T:aq)(G:az)(m:Nat)(b y:List (ak))(τ:ak)(z:Z):Z:=match aE P T G m z with
 | .s a st=>match mu a with
  |some (ops,g)=> .r ops b y τ g st
  |none=>z
 |_=>z
def FX.draw[aG P T](k:bf T)(x:P.follows .mixedOrders=true)(m:Nat)(b y:List (ak))(τ:ak)(h:oZ P T G m b y τ z=true)(U:FX P T G n fn (o0 P T G m b y τ z) Q):FX P T G n fn z Q:=by refine FX.a' k m ?_;unfold oZ at h;unfold o0 at U;split at h;{rename_i a st hz;rw[hz]at U |-;simp only at U;split at h;{rename_i ops g hd;rw[hd]at U;exact Fin.kb k x b y τ hd h U};simp at h};simp at h
def b9(N:Nat)(p:List (Nat×RV)×ag)(J:Nat->RV):St:=⟨bd N p.1 J,p.2⟩
noncomputable def ho(P:lB)(T:aq)(G:az)(m n:Nat)(K:ak)(N:Nat)(L:List (Nat×RV))(J:Nat->RV)(z:Z):Option (List Item×eG):=match oz n K with
 |true=>match aE P T G m z with
  | .s a st=>match fS (posOf n K) J 0 (ko N (L.map (·.1))) st.regs with
   |some r=>some (a,r)
   |none=>none
  |_=>none
 |false=>none
def FX.cut[aG P T](k:bf T)(m:Nat)(K:ak){N:Nat}{p:List (Nat×RV)×ag}{a:pA}(U:∀J,FX P T G n fn (.s a (b9 N p J)) Q)(c:∀J,ho P T G m n K N p.1 J z=some (a,bd N p.1 J))(o:gL n K (b7 P T G m z)=some p.2):FX P T G n fn z Q:=by refine FX.a' k m ?_;unfold ho at c;unfold b7 at o;cases C:oz n K with| false=>(have:=c fun _=>bl;simp_all)|true=>(rw[C]at c;simp only at c;generalize aE P T G m z=W at c o;cases W with| r _ _ _ _ _ _=>(have:=c fun _=>bl;simp at this)|s b st=>((simp only[cY]at c o;have key:∀J,b=a/\fS (posOf n K) J 0 (ko N (p.1.map (·.1))) st.regs=some (bd N p.1 J):=by intro J;have:=c J;split at this;{exact kg};simp at this);obtain⟨rfl,_⟩:=key fun _=>bl;refine Fin.abs (lF.EB K (ko N (p.1.map (·.1))) C o (fun J=>(key J).2)) ?_;rintro st' ⟨J,rfl⟩;exact U J))
def FX.loop[aG P T](k:bf T)(m:Nat)(K:ak)(N:Nat)(a:pA){α:Type}(I:α->Prop)(μ:α->Nat)(s:α->List (Nat×RV)×ag)(y:α)(H:I y)(c:∀J,ho P T G m n K N (s y).1 J z=some (a,bd N (s y).1 J))(o:gL n K (b7 P T G m z)=some (s y).2)
  (h:∀x,I x->(∀l,I l->μ l<μ x->∀J,FX P T G n fn (.s a (b9 N (s l) J)) Q)->∀J,FX P T G n fn (.s a (b9 N (s x) J)) Q):FX P T G n fn z Q:=
 FX.cut k m K (Fin.ind I μ (fun x J=>b9 N (s x) J) h y H) c o
def FX.ind{N:Nat}{a:pA}{α:Type}(I:α->Prop)(μ:α->Nat)(s:α->List (Nat×RV)×ag)
  (h:∀x,I x->(∀k,I k->μ k<μ x->∀J,FX P T G n fn (.s a (b9 N (s k) J)) Q)->∀J,FX P T G n fn (.s a (b9 N (s x) J)) Q):∀x,I x->∀J,FX P T G n fn (.s a (b9 N (s x) J)) Q:=
 Fin.ind I μ (fun x J=>b9 N (s x) J) h
def FX.out[aG P T](k:bf T)(m:Nat)(K:ak)(N:Nat)(a:pA)(L:List (Nat×RV))(hp:ag)(c:∀J,ho P T G m n K N L J z=some (a,bd N L J))(o:gL n K (b7 P T G m z)=some hp)(U:∀J,Fin P G n fn a ⟨bd N L J,hp⟩ Q):FX P T G n fn z Q:=
 FX.cut k m K (p:=(L,hp)) U c o
def FX.fa{a:pA}{st:St}(h:FX P T G n fn (.s a st) Q):Fin P G n fn a st Q:=h
noncomputable def o1(P:lB)(T:aq)(G:az)(m d:Nat)(z:Z):Option RV:=match aE P T G m z with
 | .s _ st=>st.regs[d]?
 |_=>none
noncomputable def pN(P:lB)(T:aq)(G:az)(m d:Nat)(r:RV)(a:ak)(z:Z):Z:=match aE P T G m z with
 | .s b st=> .s b ⟨st.regs.set d r,bv a st.hp⟩
 |z=>z
def FX.fz[aG P T](k:bf T)(m d:Nat){r y:RV}{Z:ak}(hz:bg (b7 P T G m z) r=some (y,Z))(A:o1 P T G m d z=some r)(U:FX P T G n fn (pN P T G m d y Z z) Q):FX P T G n fn z Q:=by refine FX.a' k m ?_;unfold b7 at hz;unfold o1 at A;unfold pN at U;generalize aE P T G m z=W at hz A U;cases W with| r _ _ _ _ _ _=>simp at A|s a st=>exact Fin.freeze (T:=T) d A hz U
def y7{b:Nat}:∀(Z:ak)(L:ag),Z.contains b=false->(bv Z L)[b]? =L[b]?
 | [],L,_=>rfl
 |t::Z,L,h=>by
  simp only[List.contains_cons,Bool.or_eq_false_iff,Xs]at h;show(bv Z (match L[t]? with| some o=>L.set t (gq o)|none=>L))[b]? =L[b]?;rw[y7 Z _ h.2]
  grind
noncomputable def o2(P:lB)(T:aq)(G:az)(m b j:Nat)(a:ak)(z:Z):Option LV:=match aE P T G m z with
 | .s _ st=>match a.contains b with
  |false=>match st.hp[b]? with
   |some (.cells cs _)=>cs[j]?
   |_=>none
  |true=>none
 |_=>none
noncomputable def pm(P:lB)(T:aq)(G:az)(m b j:Nat)(y:PV)(a:ak)(z:Z):Z:=match aE P T G m z with
 | .s c st=>match st.hp[b]? with
  |some (.cells cs fz)=> .s c ⟨st.regs,(bv a st.hp).set b (.cells (cs.set j (.p y)) fz)⟩
  |_=>z
 |_=>z
def FX.UA[aG P T](k:bf T)(m b j:Nat){x:LV}{y:PV}{Z:ak}(hz:b2 (b7 P T G m z) 12 x=some (y,Z))(A:o2 P T G m b j Z z=some x)(U:FX P T G n fn (pm P T G m b j y Z z) Q):FX P T G n fn z Q:=by refine FX.a' k m ?_;unfold b7 at hz;unfold o2 at A;unfold pm at U;split at A;{rename_i a st X;rw[X]at U hz |-;simp only[cY]at U hz;split at A;{rename_i hb;split at A;{rename_i cs fz e;rw[e]at U;exact Fin.ID (T:=T) b j e (by rw[y7 Z _ hb];exact e) A hz rfl rfl U};simp at A};simp at A};simp at A
noncomputable def ee(P:lB)(T:aq)(G:az)(fn:FuncId)(m:Nat)(f:Func)(z:Z):Option RV:=match aE P T G m z with
 | .s a st=>match oU fn a with
  |true=>bQ T G f (io fn (EC a) st)
  |false=>none
 |_=>none
def FX.res[aG P T](k:bf T)(m:Nat){f:Func}{r:RV}(h:ee P T G fn m f z=some r)(M:∀st,bQ T G f st=some r->st.hp=b7 P T G m z->Q st):FX P T G n fn z Q:=by refine FX.a' k m ?_;unfold ee at h;unfold b7 at M;generalize aE P T G m z=W at h M;cases W with| r _ _ _ _ _ _=>simp at h|s a st=>simp only at h;split at h;{rename_i he;exact Fin.fin he (M _ h (by rw[AM];rfl))};simp at h
noncomputable def jp(P:lB)(T:aq)(G:az)(fn:FuncId)(m:Nat)(f:Func)(z:Z):Option RV:=match ee P T G fn m f z with
 |some r=>match bg (b7 P T G m z) r with
  |some (y,_)=>some y
  |none=>none
 |none=>none
def FX.fin[aG P T](k:bf T)(m:Nat){f:Func}(r:RV){U:RV->Prop}(h:jp P T G fn m f z=some r)(M:U r):FX P T G n fn z fun st=>∃r,bQ T G f st=some r/\∃y Z,bg st.hp r=some (y,Z)/\U y:=by unfold jp at h;split at h;{rename_i s i;split at h;{rename_i y Z hz;simp at h;subst h;exact FX.res k m i fun st j l=>⟨s,j,y,Z,by simp_all,M⟩};simp at h};simp at h
def FX.Sf[aG P T](k:bf T)(m:Nat){f:Func}(r:RV){y:RV}{Z:ak}{U:RV->Prop}(h:ee P T G fn m f z=some r)(hz:bg (b7 P T G m z) r=some (y,Z))(M:U y):FX P T G n fn z fun st=>∃r,bQ T G f st=some r/\∃y Z,bg st.hp r=some (y,Z)/\U y:=
 FX.res k m h fun st i j=>⟨r,i,y,Z,by simp_all,M⟩
def FX.Sg[aG P T](k:bf T)(m:Nat){f:Func}(r:RV)(cs:lW){y:RV}{Z:ak}{U:RV->lW->Prop}(h:ee P T G fn m f z=some r)(hz:bg (b7 P T G m z) r=some (y,Z))(i:Z.contains 0=false)(c:(b7 P T G m z)[0]? =some (.cells cs false))(hp:cs.all cj=true)(M:U y cs):
  FX P T G n fn z fun st=>∃r,bQ T G f st=some r/\∃y Z b,bg st.hp r=some (y,Z)/\0∉Z/\st.hp[0]? =some (.cells b false)/\b.all cj=true/\U y b:=
 FX.res k m h fun st j l=>⟨r,j,y,Z,cs,by simp_all,by simpa using i,by simp_all,hp,M⟩
def FX.Sh[aG P T](k:bf T)(m:Nat){f:Func}{s:Nat}{Q:Prop}{U:Nat->lW->Prop}(h:ee P T G fn m f z=some (.v (.one (.p (.vl (.slice none 0 0))))))(M:Q):
  FX P T G n fn z fun st=>∃r,bQ T G f st=some r/\((r= .v (.one (.p (.vl (.slice none 0 0))))/\Q)\/∃n cs j,r= .v (.one (.ad j 0 n s))/\st.hp[j]? =some (.cells cs false)/\cs.all cj=true/\U n cs):=
 FX.res k m h fun st i l=>⟨_,i,.inl ⟨rfl,M⟩⟩
def FX.Si[aG P T](l:bf T)(m:Nat){f:Func}{s:Nat}{Q:Prop}{U:Nat->lW->Prop}(k j:Nat)(cs:lW)(h:ee P T G fn m f z=some (.v (.one (.ad j 0 k s))))(c:(b7 P T G m z)[j]? =some (.cells cs false))(hp:cs.all cj=true)(M:U k cs):
  FX P T G n fn z fun st=>∃r,bQ T G f st=some r/\((r= .v (.one (.p (.vl (.slice none 0 0))))/\Q)\/∃n cs j,r= .v (.one (.ad j 0 n s))/\st.hp[j]? =some (.cells cs false)/\cs.all cj=true/\U n cs):=
 FX.res l m h fun st i o=>⟨_,i,.inr ⟨k,cs,j,rfl,by simp_all,hp,M⟩⟩
def FX.Sj[aG P T](k:bf T)(m:Nat){f:Func}(r:RV)(hp:ag){U:RV->ag->Prop}(h:ee P T G fn m f z=some r)(o:b7 P T G m z=hp)(M:U r hp):FX P T G n fn z fun st=>∃r,bQ T G f st=some r/\U r st.hp:=
 FX.res k m h fun st i j=>⟨r,i,by simp_all⟩
end
attribute [irreducible] FX aE nr b4 dD b7 pi pj gS pM lG pk cX nb jh i_ oE oF mv oG oH oZ o0 ho o1 pN o2 pm ee jp
end Go.Sx
