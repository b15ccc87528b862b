/- Part of MeaningExact. -/
import Derived.Laws.BytesString
import Derived.Test.YtkeiahlgcgabjaaGreatDoorP1
set_option linter.all false
set_option maxRecDepth 1000000
set_option maxHeartbeats 0
namespace Go.Sx
section
variable {P:lB} {T:aq} [aG P T] {G:az} {A:Nat->Prop} {S:ay} {L:ag} {w:World}
def Ba(a b:ByteArray):(a==b)=true↔a=b:=by obtain⟨a⟩:=a;obtain⟨b⟩:=b;have:((⟨a⟩:ByteArray)==⟨b⟩)=(a==b):=rfl;exact kg
def bG.heap{w':World}(o:w'.heap=w.heap){x:PV}{v:Value}(h:bG A w x v):bG A w' x v:=h.ext fun B a=>⟨a,by rw[o]⟩
def Ext.heap{w':World}(o:w'.heap=w.heap)(i:w'.os=w.os)(j:w'.tape=w.tape)(k:w'.output=w.output):Ext A S L w A S L w' where
 size:=by simp_all
 os:=i
 tape:=j
 output:=k
 wh _ _ h:=h
 nw _ _ h:=h
 len:=vA _
 aK B _ _:=by rw[o]
 da B c e fr h:=⟨c,⟨fr,by simp_all⟩,rfl⟩
 up _ h:=h
 down _ h:= .inl h
 own _ _ h:=h
def al.heap{w':World}(C:al G A S L w)(p:w'.heap=w.heap)(h:w'.os=w.os)(j:w'.tape=w.tape)(k:w'.output=w.output):al G A S L w' where
 ob b o hb:=dx.ext C (Ext.heap p h j k) (C.ob b o hb) fun _ B d _=>by rw[p]
 ca:=C.ca
 lt B I:=by rw[p];exact C.lt B I
 inj:=C.inj
 cz:=C.cz
 gl g vs x:=by
  obtain⟨l,m⟩:=C.gl g vs x;refine⟨l,fun i v y=> ?_⟩;have:=m i v y;unfold World.cell? at*
  simp_all
def al.drew(B:al G A S L w):al G A S L {w with drawn:=w.drawn+1}:=B.heap rfl rfl rfl rfl
def Ext.drew:Ext A S L w A S L {w with drawn:=w.drawn+1}:=Ext.heap rfl rfl rfl rfl
def E'{x r:RV}{v:Value}{n:ag}(h:qi x L=some (r,n))(M:aD A S w x v): r=x/\n=L/\((∃a,v= .pointer (some a))\/(∃f a b,v= .func (.func f) a b)\/∃l,v= .func (.yield l) #[] #[]):=by unfold qi at h;split at h;{exact aub};{simp at h;obtain⟨rfl,rfl⟩:=h;obtain⟨B,d,vs,rfl,_⟩:=M;simp_all};{simp at h;obtain⟨rfl,rfl⟩:=h;obtain⟨y,P,_⟩:=M;obtain⟨g,a,b,e⟩:=tD ‹FuncId› y.toArray;simp_all};{simp at h;obtain⟨rfl,rfl⟩:=h;cases M;exact⟨rfl,rfl,.inr (.inl ⟨_,_,_,rfl⟩)⟩};{exact aub};simp at h
def xk{x y:LV}{v:Value}{k:Nat}(h:nY x k=some y)(M:Rel A S w x v): ∃B o,v= .pointer (some ⟨B,o,none⟩)/\Rel A S w y (.pointer (some ⟨B,o+k,none⟩)):=by unfold nY at h;split at h;{rename_i b o;simp at h;subst h;obtain⟨B,d,i,rfl⟩:=M;exact⟨B,d+o,rfl,B,d,i,by grind⟩};{rename_i cs o;simp at h;subst h;obtain⟨B,d,vs,rfl,i⟩:=M;exact⟨B,d+o,rfl,B,d,vs,by grind,i⟩};{rename_i g o;simp at h;subst h;cases M;exact⟨g,o,rfl,.vl _ rfl⟩};simp at h
def EZ(C:al G A S L w){s:lA}{x r:RV}{f:Nat}{v:Value}{p:ag}(h:nG T s x f L=some (r,p))(M:aD A S w x v): a7 P G A S L w (Instr.fieldAt s v f) r p:=by
 unfold nG at h;split at h
 ·rename_i fields y h1 h2;split at h
  ·rename_i fd U;split at h
   ·rename_i n z h3 h4;simp at h;obtain⟨rfl,rfl⟩:=h;have hy:Rel A S w y v:=by
     cases x with
     |ab _=>simp[dO]at h2
     |v x=>cases x with
      |agg _=>simp[dO]at h2
      |one x=>simp[dO]at h2;subst h2;exact M
    obtain⟨B,o,rfl,D⟩:=xk h4 hy;refine a7.still C ?_ D;simp[Instr.fieldAt,bp h1,U,Instr.sureAddr,fieldPlace,dV h3,g0]
   simp at h
  simp at h
 simp at h
def Hc{t:lA}{g:Bool}{n o:Nat}{cs l:lW}{vs:List Value}{r:RV}(h:ej T t=some g)(j:a6 T t=some n)(k:part cs o n=some l)(m:gg g l=some r)(y:(g || n==1)=true)(C:bh A S w cs vs):∃v,(Go.part t vs.toArray o).run P w= .ok v w/\aD A S w r v:=by(obtain⟨z,c⟩:=gY k;have J:bh A S w l ((vs.drop o).take n):=by(have hlen:((vs.drop o).take n).length=l.length:=by(have f:=C.1;have:n=0\/o+n<=cs.length:=by(rcases aeV n with p|p);{exact .inl p};right;have:=c (n - 1) w_;grind);exact VO);(refine⟨hlen,fun i x B=> ?_⟩;obtain⟨u,q,s⟩:=C.2 (o+i) x (fJ k B);have K:i<n:=by have:=(se.1 B).1;omega);exact⟨u,by grind,s⟩);(rcases xj m J with⟨rfl,E⟩|⟨rfl,v,Q,E⟩);{refine⟨_,?_,E⟩;simp only[Go.part,Sem.run_bind,qj h,Result.andThen_ok,Sem.run_ite,if_true,dV j,Sem.run_pure];exact kg};(refine⟨v,?_,E⟩;have hn:n=1:=by simpa using y);(subst hn;have:vs[o]? =some v:=by(have e:((vs.drop o).take 1)[0]? =some v:=by rw[Q];rfl);grind);simp[Go.part,qj h,this]
def zq(B:al G A S L w){t:lA}{cs:lW}{o:Nat}{r:RV}{vs:List Value}{p:ag}(h:jc T t cs o L=some (r,p))(C:bh A S w cs vs): a7 P G A S L w (Go.part t vs.toArray o) r p:=by unfold jc at h;split at h;{rename_i g n h1 h2;split at h;{rename_i x;split at h;{rename_i l h3;split at h;{rename_i y h4;simp at h;obtain⟨rfl,rfl⟩:=h;obtain⟨v,k,m⟩:=Hc (P:=P) h1 h2 h3 h4 x C;exact a7.still B k m};simp at h};simp at h};simp at h};simp at h
def Gj(B:al G A S L w){t:lA}{x r:RV}{f:Nat}{v:Value}{n:ag}(h:rz T t x f L=some (r,n))(M:aD A S w x v): a7 P G A S L w (Instr.field t v f) r n:=by unfold rz at h;split at h;{rename_i fields cs h1;split at h;{rename_i fd U;obtain⟨vs,rfl,y⟩:=M;obtain⟨u,w',O,S',k,l⟩:=zq (P:=P) B h y;refine⟨u,w',O,S',?_,l⟩;simp at k;simp[Instr.field,bp h1,U,asAgg,k]};simp at h};simp at h
def kV{r:RV}{n:Int}{v:Value}(h:em r=some n)(C:aD A S w r v):∃k,v= .int k n:=by unfold em at h;split at h;{rename_i k m;simp at h;subst h;cases C;exact kg};simp at h
def E0(C:al G A S L w){t:lA}{x R r:RV}{v D:Value}{p:ag}(h:a5 T t x R L=some (r,p))(M:aD A S w x v)(E:aD A S w R D): a7 P G A S L w (Instr.indexAt t v D) r p:=by
 unfold a5 at h;split at h;{rename_i n e x i h1 h2;split at h;{rename_i s h3;split at h;{rename_i O;split at h;{rename_i y h4;simp at h;obtain⟨rfl,rfl⟩:=h;obtain⟨k,rfl⟩:=kV h2 E;obtain⟨B,o,rfl,F⟩:=xk h4 M;refine a7.still C ?_ F;simp[Instr.indexAt,asIntOf,bp h1,Instr.sureAddr,O,dV h3,g0]};simp at h};simp at h};simp at h}
 ·rename_i e n cs i h1 h2;split at h
  ·rename_i s h3;split at h
   ·rename_i O;simp at h;obtain⟨rfl,rfl⟩:=h;obtain⟨k,rfl⟩:=kV h2 E;cases M with
    |sl _ _ B o F vs hn I hc he=>
    refine a7.still C (v:= .pointer (some ⟨B,o+i.toNat*s,none⟩)) ?_ ⟨B,o,vs,rfl,fun j c u=>⟨I j c u,hc j c u,he j c u⟩⟩;simp[Instr.indexAt,asIntOf,bp h1,O,dV h3,g0]
   simp at h
  simp at h
 {rename_i e b o n z i h1 h2;split at h;{rename_i s h3;split at h;{rename_i O;obtain⟨rfl,O⟩:=O;simp at h;obtain⟨rfl,rfl⟩:=h;obtain⟨k,rfl⟩:=kV h2 E;obtain⟨B,d,q,F,u,rfl,H,I⟩:=M;obtain⟨rfl,_⟩:=I w_;refine a7.still C (v:= .pointer (some ⟨B,d+(o+i.toNat*z),none⟩)) ?_ ⟨B,d,u,rfl⟩;simp[Instr.indexAt,asIntOf,bp h1,O,dV h3,g0,aaF]};simp at h};simp at h};simp at h
def Gk(B:al G A S L w){t:lA}{x R r:RV}{v y:Value}{o:ag}(h:mq P T t x R L=some (r,o))(M:aD A S w x v)(z:aD A S w R y): a7 P G A S L w (Instr.index t v y) r o:=by unfold mq at h;split at h;{rename_i u k h1 h2;split at h;{rename_i C D;simp at h;obtain⟨rfl,rfl⟩:=h;rw[fl h1 M,fl h2 z];exact iW B D};simp at h};split at h;{rename_i n e cs i h1 h2 _;split at h;{rename_i s h3;split at h;{rename_i hb;obtain⟨k,rfl⟩:=kV h2 z;obtain⟨vs,rfl,C⟩:=M;obtain⟨u,w',O,S',l,m⟩:=zq (P:=P) B h C;refine⟨u,w',O,S',?_,m⟩;simp at l;simp[Instr.index,asIntOf,bp h1,hb,dV h3,l]};simp at h};simp at h};simp at h
def Gl(C:al G A S L w){t:lA}{x r:RV}{v:Value}{n:ag}(h:ry P T t x L=some (r,n))(M:aD A S w x v): a7 P G A S L w (Instr.makeInterface t v) r n:=by unfold ry at h;split at h;{rename_i b o;split at h;{simp at h};{rename_i d H h1;simp at h;obtain⟨rfl,rfl⟩:=h;obtain⟨B,R,q,rfl⟩:=M;refine a7.still C ?_ ⟨B,R,q,rfl⟩;cases d<;>first| (simp[Instr.makeInterface,bp h1];done)|simp_all};simp at h};split at h;{rename_i u h1;split at h;{rename_i y D;simp at h;obtain⟨rfl,rfl⟩:=h;rw[fl h1 M];exact iW C D};simp at h};simp at h
def E2{t:lA}{a b:RV}{u v:Value}(h:oh a b=true)(i:jT T t b=true)(s:aD A S w a u)(O:aD A S w b v): (Op.equal t u v).run P w= .ok false w/\∀op x y,(eqGuard op t x y u v).run P w= .ok () w:=by(have key:∀d,(Op.equalIn (d+1) t u v).run P w= .ok false w/\∀op x y,(eqGuard op t x y u v).run P w= .ok () w:=by intro d;unfold oh at h;split at h;{cases O;unfold jT at i;split at i<;>first| (rename_i heq;cases heq;rename_i hd;cases s;refine⟨by simp[Op.equalIn,bp hd],fun op x y=>by unfold eqGuard;split<;>simp⟩)|simp_all| simp_all};{cases O;unfold jT at i;split at i<;>first| (rename_i heq;cases heq;rename_i hd;obtain⟨B,d,q,z,r,rfl,C,D⟩:=s;refine⟨by simp[Op.equalIn,bp hd],fun op x y=>by unfold eqGuard;split<;>simp⟩)|(simp at i;done)|exact aly};{exact am2};{cases O;unfold jT at i;split at i<;>first| (rename_i heq;cases heq;rename_i hd;obtain⟨z,Q,r⟩:=s;obtain⟨g,c,e,f⟩:=tD ‹FuncId› z.toArray;rw[f]at Q;subst Q;refine⟨by simp[Op.equalIn,bp hd],fun op x y=>by unfold eqGuard;split<;>simp⟩)|(simp at i;done)|exact aly};{exact am2};{cases O;unfold jT at i;split at i<;>first| exact ard|simp_all| simp_all};simp at h);exact key 9999
def w9{a b:RV}{u v:Value}(h:oh a b=true)(s:aD A S w a u)(O:aD A S w b v)(op:BinOp)(t:lA)(z:op= .eql\/op= .neq): binOp op t u v=(if op= .eql then(do pure (.bool (<- Op.equal t u v))) else(do pure (.bool (!(<- Op.equal t u v))))):=by unfold oh at h;split at h;{cases O;cases s;rcases z with rfl|rfl<;>rfl};{cases O;obtain⟨B,d,q,x,r,rfl,y,C⟩:=s;rcases z with rfl|rfl<;>rfl};{exact ako};{cases O;obtain⟨x,P,r⟩:=s;obtain⟨g,c,e,f⟩:=tD ‹FuncId› x.toArray;rw[f]at P;subst P;rcases z with rfl|rfl<;>rfl};{exact ako};{exact ako};simp at h
def Hd(C:al G A S L w){op:BinOp}{t:lA}{x y:Operand}{a b r:RV}{u v:Value}{o:ag}(h:mG T op t a b L=some (r,o))(s:aD A S w a u)(O:aD A S w b v): a7 P G A S L w (do eqGuard op t x y u v;binOp op t u v) r o:=by unfold mG at h;split at h;{rename_i c p f q e hu;split at h;{rename_i n hn;split at h;{(rename_i l;subst l;obtain⟨B,d,z,rfl⟩:=s;obtain⟨Z,R,D,rfl⟩:=O;rw[z]at D;simp only[pB,q0]at D;obtain⟨rfl,rfl⟩:=D;have E:∀g:BinOp,(eqGuard g t x y (.pointer (some ⟨B,d+p,none⟩)) (.pointer (some ⟨B,d+q,none⟩))).run P w= .ok () w:=by intro g;unfold eqGuard;split<;>simp);(have F:((⟨B,d+p,none⟩:Addr)==⟨B,d+q,none⟩)=Nat.beq p q:=by rw[Bool.eq_iff_iff,Vw];constructor;{exact kg};exact kg);(have heq:(Op.equal t (.pointer (some ⟨B,d+p,none⟩)) (.pointer (some ⟨B,d+q,none⟩))).run P w= .ok (Nat.beq p q) w:=by(have key:∀k:Nat,(Op.equalIn (k+1) t (.pointer (some ⟨B,d+p,none⟩)) (.pointer (some ⟨B,d+q,none⟩))).run P w= .ok (Nat.beq p q) w:=by intro k;simp only[Op.equalIn,Sem.run_bind,bp hu,Result.andThen_ok,dV hn];simp[sameAddr,F]);exact key 9999);split at h;{simp at h;obtain⟨rfl,rfl⟩:=h;refine a7.still C (v:= .bool (Nat.beq p q)) ?_ (.vl _ rfl);rw[Sem.run_bind,E,Result.andThen_ok];show(do pure (.bool (<- Op.equal t _ _)):Sem Value).run P w=_;simp[heq]};{simp at h;obtain⟨rfl,rfl⟩:=h;refine a7.still C (v:= .bool !(Nat.beq p q)) ?_ (.vl _ rfl);rw[Sem.run_bind,E,Result.andThen_ok];show(do pure (.bool (!(<- Op.equal t _ _))):Sem Value).run P w=_;simp[heq]};simp at h};simp at h};simp at h};simp at h
def In(B:al G A S L w){op:BinOp}{t:lA}{x y:Operand}{a b r:RV}{u v:Value}{n:ag}(h:bj P T op t x y a b L=some (r,n))(s:aD A S w a u)(O:aD A S w b v): a7 P G A S L w (do eqGuard op t x y u v;binOp op t u v) r n:=by unfold bj at h;split at h;{rename_i l U h1 h2;split at h;{rename_i z C;simp at h;obtain⟨rfl,rfl⟩:=h;rw[fl h1 s,fl h2 O];exact iW B C};simp at h};split at h;{rename_i hn;simp only[Cz]at hn;obtain⟨k,l⟩:=E2 (P:=P) hn.1 hn.2 s O;split at h;{simp at h;obtain⟨rfl,rfl⟩:=h;refine a7.still B (v:= .bool false) ?_ (.vl _ rfl);rw[Sem.run_bind,l,Result.andThen_ok,w9 hn.1 s O .eql t (.inl rfl)];simp[k]};{simp at h;obtain⟨rfl,rfl⟩:=h;refine a7.still B (v:= .bool true) ?_ (.vl _ rfl);rw[Sem.run_bind,l,Result.andThen_ok,w9 hn.1 s O .neq t (.inr rfl)];simp[k]};simp at h};exact Hd B h s O
def jB{α β:Type}{f:α->Option β}:∀{l:List α}{r:List β},ba f l=some r->r.length=l.length/\∀(i:Nat) x,l[i]? =some x->∃y,r[i]? =some y/\f x=some y
 | [],r,h=>by simp[ba]at h;simp_all
 |a::l,r,h=>by
  simp only[ba]at h;split at h
  ·rename_i y w h1 h2;simp at h;subst h;obtain⟨k,m⟩:=jB h2
   grind
  simp at h
def aN(A:Nat->Prop)(S:ay)(w:World)(x:eG)(vs:List Value):Prop:=vs.length=x.length/\∀(i:Nat) r,x[i]? =some r->∃v,vs[i]? =some v/\aD A S w r v
def aN.nil:aN A S w [] []:=⟨rfl,fun i x h=>by simp at h⟩
def aN.cons{x:RV}{v:Value}{xs:eG}{vs:List Value}(h:aD A S w x v)(B:aN A S w xs vs):aN A S w (x::xs) (v::vs):=by exact ass
def aN.dc{x:RV}{xs:eG}{vs:List Value}(h:aN A S w (x::xs) vs):∃v k,vs=v::k/\aD A S w x v/\aN A S w xs k:=by exact aqY
def aN.dR{vs:List Value}(h:aN A S w [] vs):vs=[]:=by have:=h.1;simp_all
def aN.map{α:Type}(f:α->RV)(g:α->Value)(h:∀x,aD A S w (f x) (g x))(l:List α):aN A S w (l.map f) (l.map g):=by induction l with| nil=>exact aN.nil|cons a l d=>exact aN.cons (h a) d
def aN.k5:∀{rs:eG}{vs us:List Value},ba bE rs=some us->aN A S w rs vs->vs=us
 | [],vs,us,h,C=>by simp[ba]at h;subst h;exact C.dR
 |r::rs,vs,us,h,C=>by
  obtain⟨v,k,rfl,i,j⟩:=C.dc;simp only[ba]at h;split at h
  ·rename_i y x l m;simp at h;subst h;rw[fl l i,aN.k5 m j]
  simp at h
def He(C:al G A S L w){fn:Fn}{first D:eG}{p x:List Value}{r:RV}{n:ag}(h:rY fn first D L=some (r,n))(T:aN A S w first p)(c:aN A S w D x): a7 P G A S L w (Instr.makeFunc fn p.toArray x.toArray) r n:=by unfold rY at h;split at h;{rename_i a b h1 h2;simp at h;obtain⟨rfl,rfl⟩:=h;rw[aN.k5 h1 T,aN.k5 h2 c];exact a7.still C rfl (.vl _ rfl)};{rename_i h1 h2;split at h;{rename_i f l h3;split at h;rotate_left;{simp at h};(rename_i K;simp at h;obtain⟨rfl,rfl⟩:=h;rw[aN.k5 h1 T];refine a7.still C rfl ?_;obtain⟨k,m⟩:=jB h3;refine⟨x,by simp only[jd,show Nat.blt f mK=true by simp_all],by rw[c.1,k],fun i b o z=> ?_⟩;have M:i<D.length:=by have:=(se.1 z).1;omega);obtain⟨y,q,s⟩:=m i D[i] (v9 M);rw[z]at q;simp at q;subst q;obtain⟨v,t,u⟩:=c.2 i D[i] (v9 M);exact arF};simp at h};{rename_i h1 h2;split at h;{(rename_i f l h3;simp at h;obtain⟨rfl,rfl⟩:=h;rw[aN.k5 h2 c];refine a7.still C rfl ?_;obtain⟨k,m⟩:=jB h3;have J:Nat.blt (f+mK) mK=false:=by cases hb:Nat.blt (f+mK) mK with| false=>rfl|true=>rw[Ya]at hb;omega);(refine⟨p,by simp only[jd,J,Nat.add_sub_cancel],by rw[T.1,k],fun i b o z=> ?_⟩;have K:i<first.length:=by have:=(se.1 z).1;omega);(obtain⟨y,q,s⟩:=m i first[i] (v9 K));(rw[z]at q;simp at q;subst q;obtain⟨v,t,u⟩:=T.2 i first[i] (v9 K));exact arF};simp at h};simp at h
def re{L:Nat->Option (Nat×Nat)}:∀{y:List (Nat×RV)}{vs:List (Nat×Value)}{cells cs:lW}{cv:Array Value},jb L cells y=some cs->
  y.map (·.1)=vs.map (·.1)->aN A S w (y.map (·.2)) (vs.map (·.2))->bh A S w cells cv.toList->
  ∃z:Array Value,Instr.fill L cv vs=some z/\bh A S w cs z.toList
 | [],vs,cells,cs,cv,h,C,D,hc=>by
  simp at C;subst C;simp[jb]at h;subst h;exact⟨cv,rfl,hc⟩
 |(i,x)::y,vs,cells,cs,cv,h,C,D,hc=>by
  cases vs with
  |nil=>simp at C
  |cons t vs=>
   obtain⟨j,v⟩:=t;simp at C;obtain⟨rfl,C⟩:=C;simp only[jb]at h;split at h
   ·rename_i off size xs h1 h2;split at h
    ·rename_i hb;obtain⟨s,r⟩:=hb;simp only[VZ]at D;obtain⟨T,n,e,E,F⟩:=D.dc;simp at e;obtain⟨rfl,rfl⟩:=e;have U:=nI h2 E;have hlen:v.cells.size=size:=by have:=U.1;simp at this;omega
     have b:=hc.1;simp at b
     let B:Array Value:=v.cells.zipIdx.foldl (fun cs (c,j)=>cs.setIfInBounds (off+j) c) cv
     have G:∀(l:List Value)(k:Nat)(a:Array Value),off+k+l.length<=a.size->
       ((l.zipIdx k).foldl (fun(cs:Array Value)(o:Value×Nat)=>cs.setIfInBounds (off+o.2) o.1) a).size=a.size/\
       ∀m,((l.zipIdx k).foldl (fun(cs:Array Value)(o:Value×Nat)=>cs.setIfInBounds (off+o.2) o.1) a)[m]? =if off+k<=m/\m<off+k+l.length then l[m - (off+k)]? else a[m]? :=by
      intro l
      induction l with
      |nil=>intro k a H;exact⟨rfl,fun m=>by simp;omega⟩
      |cons u l d=>
       intro k a H;simp only[VP]at H;simp only[List.zipIdx_cons,aaG]
       grind
     have hz:=G v.cells.toList 0 cv VO;have J:B=(v.cells.toList.zipIdx 0).foldl (fun(cs:Array Value)(o:Value×Nat)=>cs.setIfInBounds (off+o.2) o.1) cv:=by
      show Array.foldl _ _ _=_;rw[<- ahY];simp
     obtain⟨z,q,I⟩:=re (cv:=B) h C F (by
      rw[J];refine⟨by simp[hz.1,lY (show off+xs.length<=cells.length by omega),b],fun m x V=> ?_⟩;rw[tr w_]at V;have:=hz.2 m;simp at this;simp only[acy,this];have P:=U.1;simp at P;split at V
      ·rename_i o;obtain⟨u,f,g⟩:=U.2 _ _ V
       simp_all
      rename_i o;obtain⟨u,f,g⟩:=hc.2 _ _ V
      grind)
     refine⟨z,?_,I⟩;simp only[Instr.fill,h1]
     grind
    simp at h
   simp at h
def w7(w:World):∀(e:List Field)(pl:Nat->Option (Nat×Nat))(k:Nat),
  (∀i,i<e.length->pl (k+i)=match e[i]? with| some f=>(match a6 T f.type with| some s=>some (f.offset,s)|none=>none)|none=>none)->
  (∀(i:Nat)(f:Field),e[i]? =some f->(a6 T f.type).isSome=true)->
  ∃D:List (Nat×Nat),(e.mapM fun f=>(do pure (f.offset,<- Go.sizeOf f.type):Sem (Nat×Nat))).run P w= .ok D w/\D.length=e.length/\∀i,i<e.length->D[i]? =pl (k+i)
 | [],pl,k,h,V=>⟨[],s_,rfl,fun i y=>by simp at y⟩
 |f::e,pl,k,h,V=>by
  have U:=V 0 f rfl;obtain⟨s,A⟩:=ahZ.1 U;obtain⟨D,j,l,m⟩:=w7 w e pl (k+1) (fun i y=>by have:=h (i+1) VO;grind) (fun i g y=>V (i+1) g (by simpa using y));refine⟨(f.offset,s)::D,?_,by simp[l],fun i y=> ?_⟩
  ·simp only[List.mapM_cons,Sem.run_bind,dV A,Result.andThen_ok,j,Sem.run_pure]
  grind
def xH{p q:Nat->Option (Nat×Nat)}:∀{x:List (Nat×Value)}{c f:Array Value},(∀i v,(i,v)∈x->p i=q i)->Instr.fill p c x=some f->Instr.fill q c x=some f
 | [],c,f,h,T=>T
 |(i,v)::x,c,f,h,T=>by
  have e:=h i v (aaO ..);simp only[Instr.fill,<- e];simp only[Instr.fill]at T;split at T
  ·simp at T
  rename_i off size hp;split at T
  ·simp at T
  rename_i hn;rw[if_neg hn];exact xH (fun i v U=>h i v (Xr _ U)) T
def xl{p:Nat->Option (Nat×Nat)}:∀{x:List (Nat×Value)}{c e:Array Value},Instr.fill p c x=some e->∀i v,(i,v)∈x->(p i).isSome=true
 | [],c,e,h,i,v,hm=>by simp at hm
 |(j,u)::x,c,e,h,i,v,hm=>by
  simp only[Instr.fill]at h;split at h
  ·simp at h
  rename_i off size hp;split at h
  ·simp at h
  rcases V0.1 hm with he|hm
  ·simp_all
  exact xl h i v hm
def Gm(B:al G A S L w){t:lA}{x:List (Nat×RV)}{vs:List (Nat×Value)}{r:RV}{o:ag}(h:rx T t x L=some (r,o))(g:∀C,T.au t=some (.struct C)->∀f∈C,(a6 T f.type).isSome=true)(C:x.map (·.1)=vs.map (·.1))(D:aN A S w (x.map (·.2)) (vs.map (·.2))): a7 P G A S L w (Instr.build t vs.toArray) r o:=by unfold rx at h;split at h;{rename_i zero place h1 h2;split at h;{rename_i cs h3;simp at h;obtain⟨rfl,rfl⟩:=h;obtain⟨M,hz,Y⟩:=iM (P:=P) h1;obtain⟨u,q,y⟩:=re (cv:=M.cells) h3 C D Y;refine a7.still B (v:= .agg u) ?_ ⟨u,rfl,y⟩;unfold placesOf at h2;split at h2;{(rename_i E hu;simp at h2;subst h2;obtain⟨F,j,k,l⟩:=w7 (P:=P) w E.toList (fun i=>match E[i]? with| some f=>(match a6 T f.type with| some s=>some (f.offset,s)|none=>none)|none=>none) 0 (fun i z=>by simp) (fun i f z=>g E hu f (acz.1 (WI z)));have U:(E.mapM fun f=>(do pure (f.offset,<- Go.sizeOf f.type):Sem (Nat×Nat))).run P w= .ok F.toArray w:=by rw[ah0,Sem.run_map,j];rfl);(have Q:Instr.fill (fun i=>F.toArray[i]?) M.cells vs=some u:=by refine xH (fun i v U=> ?_) q;have V:=xl q i v U;by_cases z:i<E.toList.length;{grind};exact kg);simp only[Instr.build,Sem.run_bind,hz,bp hu,Result.andThen_ok,U,Q,Sem.run_pure]};{rename_i n e hu;split at h2;{rename_i s z;simp at h2;subst h2;simp only[Instr.build,Sem.run_bind,hz,bp hu,Result.andThen_ok,dV z,q,Sem.run_pure]};simp at h2};simp at h2};simp at h};simp at h
def ql{zero:lW}{M:List Value}(h:bh A S w zero M):∀n,bh A S w (List.replicate n zero).flatten (List.replicate n M).flatten
 | 0=>by simpa using bh.nil
 |n+1=>by
  have d:=ql h n;simp only[List.replicate_succ,ah1];have app:∀{a:lW}{z:List Value}{b:lW}{t:List Value},bh A S w a z->bh A S w b t->bh A S w (a++b) (z++t):=by
   intro a
   induction a with
   |nil=>intro z b t i j;rw[i.dR];simpa using j
   |cons x a y=>
    intro z b t i j;obtain⟨v,T,rfl,k,l⟩:=i.dc;exact bh.cons k (y l j)
  exact app h d
def bh.app{a:lW}{z:List Value}{b:lW}{t:List Value}(h:bh A S w a z)(i:bh A S w b t):bh A S w (a++b) (z++t):=by induction a generalizing z with| nil=>rw[h.dR];simpa using i|cons x a d=>obtain⟨v,T,rfl,k,l⟩:=h.dc;exact bh.cons k (d l)
def p_(z:Array Value):∀n,(((Array.range (n*z.size)).map (fun i=>z[i%z.size]!)).toList)=(List.replicate n z.toList).flatten
 | 0=>by simp
 |n+1=>by
  have d:=p_ z n;simp only[Array.toList_map,Array.toList_range]at d |-
  rw[List.replicate_succ',List.flatten_append,<- d,Nat.succ_mul,List.range_add,YR]
  congr 1
  simp only[ah1,List.flatten_nil,List.append_nil,aeQ];apply Wr;intro i
  by_cases hi:i<z.size
  ·simp[hi,aeR,Nat.mod_eq_of_lt hi,Nat.add_mod]
  simp_all
def tj{L:Nat->Option (Nat×Nat)}:∀{y:List (Nat×RV)}{cells cs:lW},jb L cells y=some cs->cs.length=cells.length
 | [],cells,cs,h=>by simp[jb]at h;subst h;rfl
 |(i,x)::y,cells,cs,h=>by
  simp only[jb]at h;split at h
  ·split at h
   ·rename_i hb;rw[tj h,lY w_]
   simp at h
  simp at h
def ET(B:al G A S L w){t:TypeId}{j:Nat}{x:List (Nat×RV)}{vs:List (Nat×Value)}{r:RV}{n:(List Ob)}(h:jz T t j x L=some (r,n))(C:x.map (·.1)=vs.map (·.1))(D:aN A S w (x.map (·.2)) (vs.map (·.2))): a7 P G A S L w (Instr.buildSlice t j vs.toArray) r n:=by unfold jz at h;split at h;{rename_i e hu;split at h;{rename_i s zero u hz;split at h;{rename_i hb;split at h;{(rename_i cs U;simp at h;obtain⟨rfl,rfl⟩:=h;obtain⟨M,E,F⟩:=iM (P:=P) hz;have V:M.cells.size=s:=by have:=(F (A:=A) (S:=S) (w:=w)).1;simp at this;omega);let base:Array Value:=(Array.range (j*s)).map (fun i=>(if j*s=0 then #[] else M.cells)[i%(if j*s=0 then(#[]:Array Value) else M.cells).size]!);(have f:base.toList=(List.replicate j M.cells.toList).flatten:=by show((Array.range (j*s)).map _).toList=_;by_cases k:j*s=0;{(simp only[k,if_true];have:j=0\/M.cells.toList=[]:=by(rcases Nat.mul_eq_zero.1 k with h|h);{exact .inl h};simp_all);(rcases this with h|h);all_goals simp_all};simp only[k,if_false];rw[<- V];exact p_ M.cells j);obtain⟨v,q,y⟩:=re (cv:=base) U C D (by rw[f];exact ql F j);obtain⟨S',l,m,o,p⟩:=tL (P:=P) B e y;refine⟨.slice (some ⟨w.heap.size,0,none⟩) j j,_,A,S',?_,?_,o,p⟩;{(have hle:¬(j*s>2^24):=by omega);have N:Instr.fill (fun i=>some (i*s,s)) ((Array.range (j*s)).map (fun i=>(if j*s=0 then #[] else M.cells)[i%(if j*s=0 then(#[]:Array Value) else M.cells).size]!)) vs=some v:=q;simp only[Instr.buildSlice,Sem.run_bind,bp hu,Result.andThen_ok,dV u,Sem.run_ite,hle,if_false,Sem.run_pure,E];by_cases k:j*s=0;all_goals simp_all};(refine⟨w.heap.size,0,0,j,m,s_,vA _,fun _=>⟨s_,v,e,(0,0),eL w _,?_⟩⟩;have h1:=y.1;simp at h1;have h2:cs.length=j*s:=by rw[tj U];have:=hb.2;simp[this]);omega};simp at h};simp at h};simp at h};simp at h
def tM(B:al G A S L w){cs:lW}{c:Array Value}(e:lA)(fr:Nat×Nat)(T:∀i,i<c.size->¬(fr.1<=i/\i<fr.2))(y:cs.length<=c.size)(d:∀(i:Nat) x,cs[i]? =some x->∃v,c[i]? =some v/\Rel A S w x v): ∃S',S' L.length=some (w.heap.size,0)/\al G A S' (L++[.cells cs false]) (bF w (.cells c e fr))/\Ext A S L w A S' (L++[.cells cs false]) (bF w (.cells c e fr)):=by refine⟨S.put L.length (w.heap.size,0),ay.dG _ _ _,B.push _ _ 0 ?_,Ext.push B _ _ 0⟩;refine⟨w.heap.size,0,c,e,fr,ay.dG _ _ _,eL w _,by simpa using y,T,fun h=>by simp at h,fun i x z=> ?_⟩;obtain⟨v,j,k⟩:=d i x z;exact⟨v,by simpa using j,B.rel (Ext.push B (.cells cs false) (.cells c e fr) 0) k⟩
def xI{n b:Nat}(h:roomy n b=true):n*b<=17592186044416/\n<=17592186044416:=by unfold roomy at h;simpa using h
def E3(B:al G A S L w){t:lA}{l c r:RV}{C y:Value}{o:ag}(h:eC T t l c L=some (r,o))(z:aD A S w l C)(d:aD A S w c y): a7 P G A S L w (Instr.makeSlice t C y) r o:=by
 unfold eC at h;split at h
 ·rename_i e n m h1 h2 h3;split at h
  ·rename_i i zero h4 h5;split at h
   ·rename_i hb;obtain⟨b,g,p,s,u⟩:=hb;simp at h;obtain⟨rfl,rfl⟩:=h;obtain⟨D,rfl⟩:=kV h2 z;obtain⟨E,rfl⟩:=kV h3 d;obtain⟨M,F,H⟩:=iM (P:=P) h5;have U:M.cells.size=i.size:=by have:=(H (A:=A) (S:=S) (w:=w)).1;simp at this;omega
    obtain⟨I,J⟩:=xI p;obtain⟨K,rfl⟩:=aeS b;obtain⟨N,rfl⟩:=aeS (aeT b g);simp only[ZH]at*;have O:K<=N:=by omega
    let base:Array Value:=(Array.range (N*i.size)).map (fun k=>M.cells[k%M.cells.size]!);have Q:base.toList=(List.replicate N M.cells.toList).flatten:=by show((Array.range (N*i.size)).map _).toList=_;rw[<- U];exact p_ M.cells N
    have R:base.size=N*i.size:=by show((Array.range (N*i.size)).map _).size=_;simp
    have V:bh A S w (List.replicate N zero).flatten base.toList:=by rw[Q];exact ql H N
    obtain⟨S',W,X,Y⟩:=tM (cs:=(List.replicate K zero).flatten) (c:=base) B e (0,0) (fun _ _ h=>by simp at h)
     (by simp[s,R];exact aaH _ O) (fun j x Z=>by
      have:(List.replicate N zero).flatten[j]? =some x:=by
       have a:(List.replicate N zero).flatten=(List.replicate K zero).flatten++(List.replicate (N - K) zero).flatten:=by
        rw[<- List.flatten_append,List.replicate_append_replicate];congr 2;omega
       rw[a,Ws (se.1 Z).1];exact Z
      obtain⟨v,ap,a⟩:=V.2 j x this
      grind)
    refine⟨.slice (some ⟨w.heap.size,0,none⟩) K N,_,A,S',?_,⟨w.heap.size,0,0,N,W,s_,O,fun _=>⟨s_,base,e,(0,0),eL w _,by simp[R]⟩⟩,X,Y⟩;have aw:IntKind.i64.wrap (K:Int)=K:=IntWalk.i64_in _ w_;have a0:IntKind.i64.wrap (N:Int)=N:=IntWalk.i64_in _ w_;have hm:∃q:Nat,(i.bytes:Int)*(N:Int)=(q:Int)/\q<=17592186044416:=
     ⟨N*i.bytes,by grind,I⟩
    obtain⟨q,a1,_⟩:=hm;have t1:((N:Int)<0)=False:=by apply eq_false;omega
    have a2:(2:Int)^48=281474976710656:=by decide+kernel
    have t2:((i.bytes:Int)*(N:Int)>2^48)=False:=by rw[a2,a1];apply eq_false;omega
    have t3:((K:Int)<0)=False:=by apply eq_false;omega
    have t4:((K:Int)>(N:Int))=False:=by apply eq_false;omega
    simp only[Instr.makeSlice,Sem.run_bind,bp h1,Result.andThen_ok,asInt,asIntOf,Sem.run_pure,n0 h4,aw,a0,t1,t2,t3,t4,decide_false,Bool.or_false,Vp,w4,run_askRoom,Sem.run_ite,dV (show a6 T e=some i.size by simp[a6,h4]),ZH,F];by_cases a_:N*i.size=0;{(have be:N=0:=by rcases ah2.1 a_ with h|h<;>omega);(subst be;have bo:base=#[]:=by show(Array.range (0*i.size)).map _=_;simp);(have br:∀f:Nat->Value,(Array.range (0*i.size)).map f=#[]:=fun f=>by simp);simp only[Nat.zero_mul,if_true];rw[Nat.zero_mul]at br;simp only[br,newRow,Sem.run_bind,run_newObj,Result.andThen_ok,Sem.run_pure,bo];rfl};simp only[a_,w4];rfl
   simp at h
  simp at h
 simp at h
def p'{i:Nat}{L y:Option Int}{l h:Nat}(O:bounds i L y=some (l,h)): L.getD 0=l/\y.getD i=h/\l<=h/\h<=i:=by unfold bounds at O;grind
def qg{r:Option RV}{n:Option Int}{v:Option Value}(h:fP r=some n)(C:∀x u,r=some x->v=some u->aD A S w x u)(P:r.isSome=v.isSome): (n=none/\v=none)\/∃m k,n=some m/\v=some (.int k m):=by cases r with| none=>simp[fP]at h;simp_all| some x=>(cases v with| none=>simp at P|some u=>simp only[fP]at h;split at h;{rename_i m hm;simp at h;subst h;obtain⟨k,rfl⟩:=kV hm (C x u rfl rfl);exact kg};simp at h)
def p7{n:Bool}{i v l h:Nat}{L y:Option Int}{C M:Option Value}(O:bounds i L y=some (l,h))(c:i<=v)(j:(L=none/\C=none)\/∃m k,L=some m/\C=some (.int k m))(o:(y=none/\M=none)\/∃m k,y=some m/\M=some (.int k m)): (Instr.sliceBounds n i v C M none).run P w= .ok (l,h,v) w:=by obtain⟨b,d,e,f⟩:=p' O;(rcases j with⟨rfl,rfl⟩|⟨m,k,rfl,rfl⟩<;>rcases o with⟨rfl,rfl⟩|⟨g,G,rfl,rfl⟩<;>simp at b d);{(have p:l=0:=by omega);(have q:h=i:=by omega);subst p q;rfl};{(subst d;have p:l=0:=by omega);(subst p;have:h<=v:=by omega);exact avN};{(subst b;have p:h=i:=by omega);subst p;exact avN};(subst b d;have p:h<=v:=by omega);simp[Instr.sliceBounds,Instr.sliceBound,asIntOf,p,e]
def tE{r:Option RV}{n v:Option Value}(h:mn r=some n)(C:∀x u,r=some x->v=some u->aD A S w x u)(P:r.isSome=v.isSome):v=n:=by cases r with| none=>simp[mn]at h;simp_all| some x=>(cases v with| none=>simp at P|some u=>simp only[mn]at h;split at h;{rename_i m hm;simp at h;subst h;rw[fl hm (C x u rfl rfl)]};simp at h)
def Gn(C:al G A S L w){t:lA}{x r:RV}{M y f:Option RV}{v:Value}{D N m:Option Value}{E:ag}(h:g5 P T t x M y f L=some (r,E))(O:aD A S w x v)(j:∀x u,M=some x->D=some u->aD A S w x u)(F:M.isSome=D.isSome)(H:∀x u,y=some x->N=some u->aD A S w x u)(I:y.isSome=N.isSome)(J:∀x u,f=some x->m=some u->aD A S w x u)(K:f.isSome=m.isSome): a7 P G A S L w (Instr.sliceAt t v D N m) r E:=by
 unfold g5 at h;split at h;{rename_i u hu;split at h;{rename_i l' V g Q R U;split at h;{rename_i W X;simp at h;obtain⟨rfl,rfl⟩:=h;rw[fl hu O,tE Q j F,tE R H I,tE U J K];exact iW C X};simp at h};simp at h};split at h
 ·rename_i l' V _ Q R;have U:m=none:=by simp_all
  subst U;have W:=qg Q j F;have X:=qg R H I;split at h
  ·rename_i e n cs hu _;split at h
   ·rename_i s l Y Z hb;split at h
    ·rename_i p hp;simp at h;obtain⟨rfl,rfl⟩:=h;cases O with
     |sl _ _ B o a vs hn g hc he=>
     obtain⟨ap,aw,a0,a1⟩:=p' hb;refine a7.still C (v:= .slice (if a=l then some ⟨B,o,none⟩ else some ⟨B,o+l*s,none⟩) (Y - l) (a - l)) ?_ ?_;{simp only[Instr.sliceAt,Sem.run_bind,bp hu,Result.andThen_ok,Instr.slice,p7 hb hn W X,dV Z,Sem.run_pure];congr 2;split<;>simp[g0]};by_cases a2:a=l;{(have:p=[]:=by(have:=(gY hp).1;have:Y - l=0:=by omega);exact kg);subst this;rw[if_pos a2];exact .sl _ _ B o _ vs w_ (fun i c y=>by simp at y) (fun i c y=>by simp at y) (fun i c y=>by simp at y)};rw[if_neg a2];refine .sl _ _ B _ _ (fun i=>vs (l*s+i)) w_ (fun i c y=>g _ c (fJ hp y)) (fun i c y=> ?_) (fun i c y=>he _ c (fJ hp y));rw[aaF];exact hc _ c (fJ hp y)
    simp at h
   simp at h
  {rename_i e b o n z hu _;split at h;{rename_i s l Y Z hb;split at h;{rename_i hz;subst hz;simp at h;obtain⟨rfl,rfl⟩:=h;obtain⟨B,d,q,a,g,rfl,ap,aw⟩:=O;obtain⟨a0,a1,a2,a_⟩:=p' hb;refine a7.still C (v:= .slice (if a=l then some ⟨B,q,none⟩ else some ⟨B,q+l*z,none⟩) (Y - l) (a - l)) ?_ ?_;{simp only[Instr.sliceAt,Sem.run_bind,bp hu,Result.andThen_ok,Instr.slice,p7 hb ap W X,dV Z,Sem.run_pure];congr 2;split<;>simp[g0]};by_cases be:a=l;{rw[if_pos be];exact⟨B,d,q,a - l,g,rfl,w_,fun hp=>by omega⟩};rw[if_neg be];refine⟨B,d,q+l*z,a - l,g,rfl,w_,fun hp=> ?_⟩;obtain⟨rfl,c,bo,fr,br,bU⟩:=aw w_;refine⟨w_,c,bo,fr,br,?_⟩;have:(a - l)*z=a*z - l*z:=Nat.sub_mul a l z;have:l*z<=a*z:=aaH z w_;omega};simp at h};simp at h};{rename_i k e b o hu _;split at h;{rename_i s l Y cs fz Z hb a;split at h;{rename_i hle;simp at h;obtain⟨rfl,rfl⟩:=h;obtain⟨B,d,g,rfl⟩:=O;obtain⟨ap,aw,a0,a1⟩:=p' hb;obtain⟨a2,a_,c,be,fr,bo,br,bU,_⟩:=C.ob b _ a;rw[g]at bo;simp only[pB,q0]at bo;obtain⟨rfl,rfl⟩:=bo;refine a7.still C (v:= .slice (some (if k=l then⟨B,d+o,none⟩ else⟨B,d+o+l*s,none⟩)) (Y - l) (k - l)) ?_ ?_;{simp only[Instr.sliceAt,Sem.run_bind,bp hu,Result.andThen_ok,Instr.sureAddr,Sem.run_pure,p7 hb (vA _) W X,dV Z];congr 3;split<;>simp[g0]};by_cases b1:k=l;{rw[if_pos b1];exact⟨B,d,_,k - l,g,rfl,w_,fun hp=>by omega⟩};rw[if_neg b1];refine⟨B,d,d+o+l*s,k - l,g,rfl,w_,fun hp=>⟨w_,c,be,fr,br,?_⟩⟩;have:(k - l)*s=k*s - l*s:=Nat.sub_mul k l s;have:l*s<=k*s:=aaH s w_;omega};simp at h};simp at h};simp at h
 simp at h
def Fy{A:Nat->Prop}{S:ay}{w:World}{B d:Nat}:∀{cs:rK}{vs:Nat->Value},(∀(i:Nat) c,cs[i]? =some c->w.cell? ⟨B,d+i,none⟩=some (vs i)/\bG A w c (vs i))-> ∃l:List Value,l.length=cs.length/\bh A S w (cs.map .p) l/\∀(j:Nat) u,l[j]? =some u->w.cell? ⟨B,d+j,none⟩=some u:=by intro cs vs h;obtain⟨l,k,m⟩:=kY cs (fun x i v=>w.cell? ⟨B,d+i,none⟩=some v/\bG A w x v) fun i x z=>⟨vs i,h i x z⟩;refine⟨l,k,⟨by simp[k],fun i x z=> ?_⟩,fun j u s=> ?_⟩;{simp only[VJ,CG]at z;obtain⟨y,hy,rfl⟩:=z;obtain⟨u,q,r⟩:=m i y hy;exact⟨u,q,r.2⟩};(have K:j<cs.length:=by have:=(se.1 s).1;omega);obtain⟨n,q,r,_⟩:=m j cs[j] (v9 K);exact kg
def bh.take{xs:lW}{vs:List Value}(h:bh A S w xs vs)(k:Nat):bh A S w (xs.take k) (vs.take k):=by(refine⟨by simp[h.1],fun i x y=> ?_⟩;have K:i<k:=by have:=(se.1 y).1;simp at this;omega);rw[ah3 K]at y |-;exact h.2 i x y
def xm(s:ByteArray):bh A S w (ofBytes s) (s.data.toList.map fun b=> .int .u8 b.toNat):=by(unfold ofBytes;have:(s.data.toList.map fun b=>(LV.p (.vl (.int .u8 b.toNat)):LV))=(s.data.toList.map fun b=>(Value.int .u8 b.toNat:Value)).map fun v=> .p (.vl v):=by simp[aeR]);rw[this];apply nH;induction s.data.toList with| nil=>rfl|cons a l d=>simp[jD,single,d]
def tN{w':World}(t:w'.heap=w.heap){a:Addr}:w'.cell? a=w.cell? a:=by unfold World.cell?;rw[t]
def l9(C:al G A S L w){z m:Nat}{x:RV}{cs:lW}{v:Value}(h:elems L z x=some (m,cs))(M:aD A S w x v): (Builtin.lenOf v).run P w= .ok m w/\cs.length=m*z/\ ∃vs,bh A S w cs vs/\(∀k,k<=m->∀w':World,w'.heap=w.heap->(Builtin.firstCells z k v).run P w'= .ok (vs.take (k*z)).toArray w'):=by
 unfold elems at h;split at h;{simp at h;obtain⟨rfl,rfl⟩:=h;cases M;refine⟨by rfl,s_,[],bh.nil,fun k D w' H=>by simp[Builtin.firstCells]⟩};{rename_i s;split at h;{rename_i hz;simp at h;obtain⟨rfl,rfl⟩:=h;cases M;subst hz;refine⟨by rfl,by simp[ofBytes],_,xm s,fun k D w' H=> ?_⟩;simp only[Builtin.firstCells,Nat.mul_one,Sem.run_pure];congr 1;(have e:(s.extract 0 k).data=s.data.extract 0 k:=by simp);grind};simp at h}
 ·rename_i n H;simp only[CG]at h;obtain⟨l,hp,V⟩:=h;simp at V;obtain⟨rfl,rfl⟩:=V;cases M with
  |sl _ _ B o y vs hn I hc V=>
  obtain⟨l',f,g,p⟩:=Fy (A:=A) (S:=S) (w:=w) (B:=B) (d:=o) (cs:=l) (vs:=vs) (fun i c D=>by have:=fJ hp D;simp_all);have hl:=(gY hp).1;refine⟨by rfl,by simp[hl],l',g,fun k D w' J=> ?_⟩;simp only[Builtin.firstCells];refine p6 ?_ (fun j u t=>(tN J).trans (p j u ?_));{exact kg};grind
 {rename_i b o n W;split at h;{rename_i hz;subst hz;split at h;{rename_i H fz D;simp only[CG]at h;obtain⟨l,hp,V⟩:=h;simp at V;obtain⟨rfl,rfl⟩:=V;obtain⟨B,d,q,y,p,rfl,r,t⟩:=M;have hl:=(gY hp).1;obtain⟨Z,R,c,e,fr,E,F,I,J,K,N⟩:=C.ob b _ D;rw[p]at E;simp only[pB,q0]at E;obtain⟨rfl,rfl⟩:=E;obtain⟨vs,Q,T⟩:=kY l (fun x i v=>c[d+(o+i)]? =some v/\Rel A S w x v) fun i x O=>N (o+i) x (fJ hp O);refine⟨by rfl,hl,vs,⟨Q,fun i x O=>let ⟨u,U,X⟩:=T i x O;⟨u,U,X.2⟩⟩,fun k Y w' a=> ?_⟩;simp only[Builtin.firstCells];by_cases f:k=0;{subst f;simp[loadCells,loadCellsFrom]};obtain⟨rfl,_⟩:=t w_;refine p6 ?_ (fun j u g=> ?_);{exact kg};(have ap:j<k*W:=by have:=(se.1 g).1;simp at this;omega);(rw[ah3 ap]at g;have aw:j<l.length:=by have:=(se.1 g).1;omega);obtain⟨a0,U,X,_⟩:=T j l[j] (v9 aw);rw[g]at U;simp at U;subst U;exact(tN a).trans (cell_of_heap F (by grind))};{rename_i t0 H fz D;simp only[CG]at h;obtain⟨l,hp,V⟩:=h;simp at V;obtain⟨rfl,rfl⟩:=V;obtain⟨B,d,q,y,p,rfl,r,t⟩:=M;have hl:=(gY hp).1;obtain⟨Z,c,fr,E,F,I,J,K,N⟩:=C.ob b _ D;rw[p]at E;simp only[pB,q0]at E;obtain⟨rfl,rfl⟩:=E;obtain⟨vs,Q,R⟩:=kY l (fun x i v=>c[o+i]? =some v/\Rel A S w x v) fun i x O=>N (o+i) x (fJ hp O);refine⟨by rfl,hl,vs,⟨Q,fun i x O=>let ⟨u,T,U⟩:=R i x O;⟨u,T,U.2⟩⟩,fun k X w' Y=> ?_⟩;simp only[Builtin.firstCells];by_cases a:k=0;{subst a;simp[loadCells,loadCellsFrom]};obtain⟨rfl,_⟩:=t w_;refine p6 ?_ (fun j u f=> ?_);{exact kg};(have g:j<k*W:=by have:=(se.1 f).1;simp at this;omega);(rw[ah3 g]at f;have ap:j<l.length:=by have:=(se.1 f).1;omega);obtain⟨aw,T,U,_⟩:=R j l[j] (v9 ap);rw[f]at T;simp at T;subst T;exact(tN Y).trans (cell_of_heap F kg)};simp at h};simp at h};simp at h
def x7(n:Nat):∀(r c:Nat),Builtin.growBy n r c<=max c (n+(n+768) /4)
 | 0,c=>Nat.le_max_left ..
 |r+1,c=>by
  simp only[Builtin.growBy];split
  ·omega
  rename_i h;refine Wu (x7 n r _) ?_;omega
def FA{n c:Nat}(h:c<n):Builtin.nextslicecap n c<=2*n:=by unfold Builtin.nextslicecap;split;{omega};split;{omega};have:=x7 n 4 c;omega
def qa{s:Value}{base:Option Addr}{n m v:Nat}{x:Value}{e:lA}{i:TypeInfo}{M:Value}{b:Array TypeId}{ty t u:lA}{y:TypeDesc}{old new:List Value}(l:s= .slice base n v)(h:b[0]? =some t)(j:b[1]? =some u)(o:T.au t=some (.slice e))(p:T.au u=some y)(H:∀k,y≠.int k)(z:T.info e=some i)(hz:∀w:World,(zeroValue e).run P w= .ok M w)(A:∀w:World,(Builtin.lenOf x).run P w= .ok m w)(q:v<n+m)(Q:roomy (n+m) i.bytes=true)(r:∀w':World,w'.heap=w.heap->(Builtin.firstCells i.size n s).run P w'= .ok old.toArray w')(B:∀w':World,w'.heap=w.heap->(Builtin.firstCells i.size m x).run P w'= .ok new.toArray w'): ∃C D,n+m<=C/\D.size=(C - (n+m))*M.cells.size/\ (Builtin.append_ b ty #[s,x]).run P w= .ok (.slice (some ⟨w.heap.size,0,none⟩) (n+m) C) (bF {w with drawn:=w.drawn+1} (.cells (old.toArray++new.toArray++D) e)):=by
 subst l;obtain⟨E,F⟩:=xI Q;refine⟨n+m+w.tape w.drawn (.appendCap (n+m) v e)%(2^63 - (n+m)),Builtin.zeroCells M.cells (n+m+w.tape w.drawn (.appendCap (n+m) v e)%(2^63 - (n+m)) - (n+m)),w_,by simp[Builtin.zeroCells],?_⟩;have J:Builtin.nextslicecap (n+m) v*i.bytes<=2*17592186044416:=by
  calc Builtin.nextslicecap (n+m) v*i.bytes<=2*(n+m)*i.bytes:=aaH _ (FA q)
   _=2*((n+m)*i.bytes):=Nat.mul_assoc ..
   _<=2*17592186044416:=Nat.mul_le_mul_left _ E
 have f:(2:Nat)^48=281474976710656:=by decide+kernel
 have G:¬(Builtin.nextslicecap (n+m) v*i.bytes>2^48):=by rw[f];omega
 have I:¬(n+m<=v):=by omega
 have K:¬(((n+m:Nat):Int)>IntKind.i64.max):=by(have:IntKind.i64.max=9223372036854775807:=by decide+kernel);rw[this];omega
 have hd:({w with drawn:=w.drawn+1}:World).heap=w.heap:=rfl;unfold Builtin.append_;simp only[h,j];have g:(#[Value.slice base n v,x]:Array Value)[0]? =some (.slice base n v):=rfl;have L:(#[Value.slice base n v,x]:Array Value)[1]? =some x:=rfl;simp only[g,L,Sem.run_bind,bp o,Result.andThen_ok,dV (show a6 T e=some i.size by simp[a6,z]),bp p,Sem.run_pure,Vp,w4,A,I,Sem.run_ite,n0 z,K,false_and,G,run_choose,Question.forced,run_askRoom];simp only[r _ hd,B _ hd,Result.andThen_ok,Bool.not_false,if_true,hz,newRow,Sem.run_bind,run_newObj,Sem.run_pure,Question.cut];rfl
def qb{B q n m v:Nat}{x:Value}{e:lA}{i:TypeInfo}{b:Array TypeId}{y t u:lA}{z:TypeDesc}{new:List Value}{w':World}(h:b[0]? =some t)(j:b[1]? =some u)(l:T.au t=some (.slice e))(o:T.au u=some z)(H:∀k,z≠.int k)(A:T.info e=some i)(C:∀w:World,(Builtin.lenOf x).run P w= .ok m w)(p:n+m<=v)(D:(Builtin.firstCells i.size m x).run P w= .ok new.toArray w)(E:(storeCells ⟨B,q+n*i.size,none⟩ new).run P w= .ok () w'): (Builtin.append_ b y #[.slice (some ⟨B,q,none⟩) n v,x]).run P w= .ok (.slice (some ⟨B,q,none⟩) (n+m) v) w':=by unfold Builtin.append_;simp only[h,j];have g:(#[Value.slice (some ⟨B,q,none⟩) n v,x]:Array Value)[0]? =some (.slice (some ⟨B,q,none⟩) n v):=rfl;have r:(#[Value.slice (some ⟨B,q,none⟩) n v,x]:Array Value)[1]? =some x:=rfl;simp only[g,r,Sem.run_bind,bp l,Result.andThen_ok,dV (show a6 T e=some i.size by simp[a6,A]),bp o,Sem.run_pure,Vp,w4,C,p,if_true,Sem.run_ite,Bool.not_false,D,g0,E]
def append_nil{x:Value}{e:lA}{i:TypeInfo}{b:Array TypeId}{v t u:lA}{y:TypeDesc}{new:List Value}(h:b[0]? =some t)(j:b[1]? =some u)(l:T.au t=some (.slice e))(m:T.au u=some y)(H:∀k,y≠.int k)(z:T.info e=some i)(A:∀w:World,(Builtin.lenOf x).run P w= .ok 0 w)(B:(Builtin.firstCells i.size 0 x).run P w= .ok new.toArray w): (Builtin.append_ b v #[.slice none 0 0,x]).run P w= .ok (.slice none 0 0) w:=by unfold Builtin.append_;simp only[h,j];have g:(#[Value.slice none 0 0,x]:Array Value)[0]? =some (.slice none 0 0):=rfl;have n:(#[Value.slice none 0 0,x]:Array Value)[1]? =some x:=rfl;simp only[g,n,Sem.run_bind,bp l,Result.andThen_ok,dV (show a6 T e=some i.size by simp[a6,z]),bp m,Sem.run_pure,Vp,w4,A,Nat.add_zero,vA,if_true,Sem.run_ite,Bool.not_false,B]
def x8{x:Value}{m:Nat}(h:(Builtin.lenOf x).run P w= .ok m w)(w':World):(Builtin.lenOf x).run P w'= .ok m w':=by cases x<;>simp[Builtin.lenOf]at h |-<;>exact h
def zr(B:al G A S L w){old new:lW}{ov nv:List Value}{rest:Array Value}(e:lA)(z:bh A S w old ov)(y:bh A S w new nv): ∃S',S' L.length=some (w.heap.size,0)/\al G A S' (L++[.cells (old++new) false]) (bF {w with drawn:=w.drawn+1} (.cells (ov.toArray++nv.toArray++rest) e))/\ Ext A S L w A S' (L++[.cells (old++new) false]) (bF {w with drawn:=w.drawn+1} (.cells (ov.toArray++nv.toArray++rest) e)):=by
 have C:=z.app y;obtain⟨S',q,r,s⟩:=tM (cs:=old++new) (c:=ov.toArray++nv.toArray++rest) B.drew e (0,0) (fun _ _ h=>by simp at h)
  alq (fun i x D=>by
   obtain⟨v,j,k⟩:=C.2 i x D;refine⟨v,?_,B.rel Ext.drew k⟩
   grind)
 exact⟨S',q,r,Ext.drew.trans s⟩
def FB(C:al G A S L w){f:Array TypeId}{z:lA}{s x r:RV}{vs g:Value}{p:ag}(h:aV P T .append f z [s,x] L=some (r,p))(Q:aD A S w s vs)(M:aD A S w x g): a7 P G A S L w (Builtin.append_ f z #[vs,g]) r p:=by
 simp only[aV]at h;split at h
 ·rename_i e D t E;obtain⟨F,l,H⟩:=Xp.1 t;obtain⟨I,J,K⟩:=Xp.1 E;have N:∀k,D≠.int k:=by intro k O;subst O;simp at h
  split at h;{simp at h};split at h
  ·rename_i i zero hi hz;split at h
   ·rename_i m new R;obtain⟨U,V,W,X,Y⟩:=l9 (P:=P) C R M;have Z:∀w':World,(Builtin.lenOf g).run P w'= .ok m w':=x8 U;have a:W.take (m*i.size)=W:=Wt (by have:=X.1;omega);have ap:=Y m (vA _);rw[a]at ap;obtain⟨aw,a0,a1⟩:=iM (P:=P) hz;split at h
    ·rename_i a2;have a_:aw.cells.size=i.size:=by have:=(a1 (A:=A) (S:=S) (w:=w)).1;simp at this;omega
     split at h
     ·
      cases Q;split at h
      ·rename_i hm;subst hm;simp at h;obtain⟨rfl,rfl⟩:=h;exact a7.still C (append_nil l J H K N hi Z (ap w rfl)) (.vl _ rfl)
      rename_i hm;split at h
      ·rename_i be;simp only[Cz,XO]at be;simp at h;obtain⟨rfl,rfl⟩:=h;obtain⟨bo,br,bU,b1,b3⟩:=qa (P:=P) (w:=w) (s:= .slice none 0 0) (ty:=z) (old:=[]) (new:=W) rfl l J H K N hi a0 Z w_ kg
        (fun w' _=>by rfl) ap
       obtain⟨S',cb,cc,cd⟩:=zr C (old:=[]) (new:=new) (ov:=[]) (nv:=W) (rest:=br) e bh.nil X;rw[X_]at b3;refine⟨_,_,A,S',b3,⟨w.heap.size,0,0,bo,cb,rfl,w_,fun _=>⟨s_,_,e,(0,0),eL _ _,?_⟩⟩,cc,cd⟩;have:=X.1;simp[b1,a_,this,V];rw[<- YP];exact kg
      simp at h
     ·rename_i b o n be;split at h
      ·rename_i cs bo;split at h
       ·rename_i br hold;split at h
        ·rename_i bU;simp only[Cz,XO]at bU;obtain⟨⟨rfl,bU⟩,b1⟩:=bU;simp at h;obtain⟨rfl,rfl⟩:=h;obtain⟨B,d,q,b3,cb,rfl,cc,cd⟩:=Q;have cg:elems L i.size (.v (.one (.ad b o n i.size)))=some (n,br):=by simp[elems,bo,hold]
         obtain⟨_,ci,cl,cm,cn⟩:=l9 (P:=P) C cg (⟨B,d,q,b3,cb,rfl,cc,cd⟩);have ct:cl.take (n*i.size)=cl:=Wt (by have:=cm.1;omega);have cv:=cn n (vA _);rw[ct]at cv;by_cases cw:n+m<=b3
         ·obtain⟨cI,cS,c,c0,fr,c1,c2,c3,c4,dd,dh⟩:=C.ob b _ bo;rw[cb]at c1;simp only[pB,q0]at c1;obtain⟨rfl,rfl⟩:=c1;by_cases dl:0<b3;{(obtain⟨rfl,dn,ds,d0,d1,d2⟩:=cd dl;rw[c2]at d1;simp only[pB,Obj.cells.injEq]at d1;obtain⟨rfl,rfl,rfl⟩:=d1;have d3:=X.1;have hmul:(n+m)*i.size<=b3*i.size:=aaH _ cw;rw[YP]at hmul;obtain⟨d4,d5,d_,d'⟩:=s' (P:=P) W (d+o+n*i.size) 0 c w c2 w_ c4 X.rb;have en:∀eq es e2,Obj.cells c c0 fr= .cells eq es e2->∃e_,Obj.cells d4 c0 fr= .cells e_ es e2/\e_.size=eq.size:=by intro eq es e2 fd;cases fd;exact⟨d4,rfl,d_⟩);have fn:Ext A S L w A (S.put L.length (B,d+o)) (L.set b .gone++[.cells (br++new) false]) (bs w B (.cells d4 c0 fr)):=Ext.i5 C (d+o) bo rfl cb c2 en;have fv:=cm.1;refine⟨_,_,A,_,qb l J H K N hi Z cw (ap w rfl) d5,⟨B,d+o,d+o,b3,ay.dG _ _ _,rfl,cw,fun _=>⟨rfl,d4,c0,fr,fk w (dg c2),w_⟩⟩, C.i5 (d+o) bo rfl cb c2 en ?_,fn⟩;refine⟨B,d+o,d4,c0,fr,ay.dG _ _ _,fk w (dg c2),by grind,by simp_all,fun fz=>by simp at fz,fun j y fC=> ?_⟩;rw[d'];by_cases fD:j<br.length;{rw[Ws fD]at fC;rw[if_neg w_];obtain⟨u,fE,fR⟩:=dh (o+j) y (fJ hold fC);exact⟨u,by grind,C.rel fn fR⟩};rw[Xo w_]at fC;obtain⟨u,fE,fR⟩:=X.2 _ _ fC;have f_:=(se.1 fC).1;rw[if_pos w_];exact⟨u,by grind,C.rel fn fR⟩};have dn:n=0:=by omega
          have ds:m=0:=by omega
          subst dn ds;have d0:W=[]:=by have:=X.1;have:=V;simp at this;simp_all
          have dn:new=[]:=by have:=V;simp at this;exact this
          have d1:br=[]:=by have:=ci;simp at this;exact this
          subst d0 dn d1;have d2:∀d3 d4 d5,Obj.cells c c0 fr= .cells d3 d4 d5->∃d_,Obj.cells c c0 fr= .cells d_ d4 d5/\d_.size=d3.size:=by intro d3 d4 d5 d';cases d';exact⟨c,rfl,rfl⟩
          have en:=Im c2;have eq:Ext A S L w A (S.put L.length (B,d)) (L.set b .gone++[.cells ([]++[]) false]) (bs w B (.cells c c0 fr)):=Ext.i5 C d bo rfl cb c2 d2;have es:al G A (S.put L.length (B,d)) (L.set b .gone++[.cells ([]++[]) false]) (bs w B (.cells c c0 fr)):=C.i5 d bo rfl cb c2 d2
           ⟨B,d,c,c0,fr,ay.dG _ _ _,fk w (dg c2),by simp;omega,c4,fun e2=>by simp at e2,fun j y e_=>by simp at e_⟩
          rw[en]at eq es;exact⟨_,w,A,_,qb l J H K N hi Z cw (ap w rfl) (by rfl),⟨B,d,q,b3,ay.dG _ _ _,rfl,cw,fun h=>absurd h dl⟩,es,eq⟩
         obtain⟨cI,cS,c0,c1,c2⟩:=qa (P:=P) (w:=w) (ty:=z) (old:=cl) (new:=W) rfl l J H K N hi a0 Z w_ bU
          cv ap
         have hd:=C.drop b;obtain⟨S',c3,c4,dd⟩:=zr hd (old:=br) (new:=new) (ov:=cl) (nv:=W) (rest:=cS) e cm X;refine⟨_,_,A,S',c2,⟨w.heap.size,0,0,cI,by simpa using c3,s_,w_,fun _=>⟨s_,_,e,(0,0),eL _ _,?_⟩⟩,c4,(Ext.drop b).trans dd⟩;have dh:=X.1;have dl:=cm.1;simp[c1,a_,dh,dl,V,ci];rw[<- YP,<- YP];exact kg
        simp at h
       simp at h
      simp at h
     ·rename_i n cs;split at h
      ·rename_i hm;subst hm;simp at h;obtain⟨rfl,rfl⟩:=h;have be:W=[]:=by have:=X.1;have:=V;simp at this;simp_all
       subst be;cases Q with
       |sl _ _ B o bo vs hn br hc bU=>
       exact a7.still C (qb l J H K N hi Z w_ (ap w rfl) (by rfl)) (.sl n cs B o bo vs hn br hc bU)
      simp at h
     simp at h
    simp at h
   simp at h
  simp at h
 simp at h
def Io(C:al G A S L w){c:Array TypeId}{v:lA}{d x r:RV}{f g:Value}{p:ag}(h:aV P T .copy c v [d,x] L=some (r,p))(U:aD A S w d f)(M:aD A S w x g): a7 P G A S L w (Builtin.copy_ c v #[f,g]) r p:=by simp only[aV]at h;split at h;{rename_i e s;obtain⟨t,j,k⟩:=Xp.1 s;split at h;{rename_i i hi;split at h;{rename_i m new b o n W D;split at h;{rename_i hz;split at h;{rename_i R hw;simp at h;obtain⟨rfl,rfl⟩:=h;obtain⟨y,l,u,E,F⟩:=l9 (P:=P) C D M;obtain⟨B,Q,q,z,H,rfl,I,J⟩:=U;have V:=F (min m n) (Nat.min_le_left _ _) w rfl;have K:=E.take (min m n*i.size);obtain⟨Z,N,w',O,X,Y,a⟩:=x6 (P:=P) (va:= .pointer (some ⟨B,Q+o,none⟩)) C hw ⟨B,Q,H,rfl⟩ K;simp at O;obtain⟨rfl,rfl⟩:=O;have ap:(#[Value.slice (some ⟨B,q,none⟩) n z,g]:Array Value)[0]? =some (.slice (some ⟨B,q,none⟩) n z):=rfl;have aw:(#[Value.slice (some ⟨B,q,none⟩) n z,g]:Array Value)[1]? =some g:=rfl;refine⟨.int .i64 ((min m n:Nat):Int),w',A,S,?_,.vl _ rfl,Y,a⟩;unfold Builtin.copy_;have a0:Nat.min m n=min m n:=rfl;simp only[j,ap,aw,Sem.run_bind,bp k,Result.andThen_ok,y,dV (show a6 T e=some i.size by simp[a6,hi]),a0,V,goInt,Sem.run_pure];by_cases fW:0<z;{exact kg};(have:n=0:=by omega);subst this;simp[storeCells]at X |-;exact X};simp at h};simp at h};simp at h};simp at h};simp at h
def J_(C:al G A S L w){c:Array TypeId}{y:lA}{x r:RV}{f:Value}{p:ag}(h:aV P T .len c y [x] L=some (r,p))(M:aD A S w x f): a7 P G A S L w (Builtin.len_ c y #[f]) r p:=by
 simp only[aV]at h;have g:(#[f]:Array Value)[0]? =some f:=rfl;split at h
 ·rename_i e n cs s;obtain⟨t,i,j⟩:=Xp.1 s;simp at h;obtain⟨rfl,rfl⟩:=h;cases M with
  |sl _ _ B o D vs hn I hc V=>
  exact atP
 {rename_i e b o n z s;obtain⟨t,i,j⟩:=Xp.1 s;simp at h;obtain⟨rfl,rfl⟩:=h;obtain⟨B,Q,q,D,E,rfl,F,H⟩:=M;exact atP};{rename_i str s;obtain⟨t,i,j⟩:=Xp.1 s;simp at h;obtain⟨rfl,rfl⟩:=h;cases M;refine a7.still C (v:= .int .i64 str.size) ?_ (.vl _ rfl);simp[Builtin.len_,i,bp j,goInt]};{rename_i e k b s;obtain⟨t,i,j⟩:=Xp.1 s;split at h;{rename_i es D;simp at h;obtain⟨rfl,rfl⟩:=h;obtain⟨B,d,E,rfl⟩:=M;obtain⟨Z,R,F,l,H,I,J,K⟩:=C.ob b _ D;rw[E]at H;simp only[pB,q0]at H;obtain⟨rfl,rfl⟩:=H;refine a7.still C (v:= .int .i64 es.length) ?_ (.vl _ rfl);simp[Builtin.len_,i,bp j,goInt,getObj,Sem.run,I,J]};simp at h};split at h;{rename_i u hu;simp only[CG]at h;obtain⟨D,E,V⟩:=h;simp at V;obtain⟨rfl,rfl⟩:=V;rw[fl hu M];exact iW C E};simp at h
def x9(B:al G A S L w){b:Builtin}(O:b= .min\/b= .max){c:Array TypeId}{v:lA}{xs:eG}{vs:List Value}{r:RV}{n:ag}(h:aV P T b c v xs L=some (r,n))(M:aN A S w xs vs): a7 P G A S L w (if b= .min then Builtin.min_ c v vs.toArray else Builtin.max_ c v vs.toArray) r n:=by(rcases O with rfl|rfl);{simp only[aV]at h;split at h;{rename_i us hu;simp only[CG]at h;obtain⟨y,C,V⟩:=h;simp at V;obtain⟨rfl,rfl⟩:=V;rw[aN.k5 hu M];simp only[if_true];exact iW B C};simp at h};simp only[aV]at h;split at h;{rename_i us hu;simp only[CG]at h;obtain⟨y,C,V⟩:=h;simp at V;obtain⟨rfl,rfl⟩:=V;rw[aN.k5 hu M];simp only[show ¬(Builtin.max=Builtin.min) by decide,w4];exact iW B C};simp at h
def xn:∀{cs:lW}{vs:List Value}{l:List UInt8},bytesOf cs=some l->bh A S w cs vs->∃K:eF,vs=K.map (Value.int .u8)/\l=K.map (fun n=>UInt8.ofNat n.toNat)
 | [],vs,l,h,C=>by simp[bytesOf]at h;subst h;exact⟨[],by simpa using C.dR,rfl⟩
 |x::cs,vs,l,h,C=>by
  obtain⟨v,k,rfl,i,j⟩:=C.dc;unfold bytesOf at h;split at h
  ·simp_all
  ·rename_i n b heq;cases heq;simp only[CG]at h;obtain⟨l',s,rfl⟩:=h;obtain⟨K,rfl,rfl⟩:=xn s j;cases i;exact⟨n::K,s_,s_⟩
  simp at h
def foldl_push:∀(K:eF)(s:ByteArray),K.foldl (fun r n=>r.push (UInt8.ofNat n.toNat)) s=⟨s.data++(K.map (fun n=>UInt8.ofNat n.toNat)).toArray⟩
 | [],s=>by simp
 |n::K,s=>by
  simp only[aaG,foldl_push K]
  simp_all
def Fj(C:al G A S L w){s d:lA}{x r:RV}{v:Value}{o:ag}(h:ge P T s d x L=some (r,o))(M:aD A S w x v): a7 P G A S L w (convert s d v) r o:=by
 unfold ge at h;split at h
 ·rename_i str Q;rw[fl Q M];split at h;{rename_i h1 h2;simp at h;obtain⟨rfl,rfl⟩:=h;refine a7.still C (v:= .string str) ?_ (by rw[<- fl Q M];exact M);simp[convert,bp h1,bp h2]}
  ·rename_i e h1 h2;split at h
   ·rename_i V;split at h
    ·rename_i R;simp at h;obtain⟨rfl,rfl⟩:=h;let z:=str.size+w.tape w.drawn (.appendCap str.size 0 e)%(2^63 - str.size);let c:Array Value:=(str.data.map fun b=>Value.int .u8 b.toNat)++Array.replicate (z - str.size) (.int .u8 0);have f:c.size=z:=by have h1:str.data.size=str.size:=rfl;have h2:str.size<=z:=aeN _ _;simp[c,h1];omega
     obtain⟨S',t,D,E⟩:=tM (cs:=ofBytes str) (c:=c) C.drew e (c.size,c.size+1) (fun i F h=>by omega) (by rw[f];simp[ofBytes];omega)
      (fun i y F=>by
       obtain⟨u,H,I⟩:=(xm (A:=A) (S:=S) (w:={w with drawn:=w.drawn+1}) str).2 i y F
       grind)
     refine⟨.slice (some ⟨w.heap.size,0,none⟩) str.size z,bF {w with drawn:=w.drawn+1} (.cells c e (c.size,c.size+1)),A,S',?_,⟨w.heap.size,0,0,z,t,rfl,aeN _ _,fun _=>⟨s_,c,e,_,eL _ _,by simp[f]⟩⟩,D,Ext.drew.trans E⟩;have X:(bF {w with drawn:=w.drawn+1} (.cells c e)).freeze ⟨w.heap.size,c.size,none⟩ 1=bF {w with drawn:=w.drawn+1} (.cells c e (c.size,c.size+1)):=by simp only[World.freeze,bF,Nat.one_ne_zero,w4];congr 1;apply Array.ext;{simp};grind
     have F:(bF {w with drawn:=w.drawn+1} (.cells c e)).shape? w.heap.size=some (e,c.size):=by simp[World.shape?,bF]
     have j:(Conv.stringToBytes e str).run P w= .ok (.slice (some ⟨w.heap.size,0,none⟩) str.size z) (bF {w with drawn:=w.drawn+1} (.cells c e (c.size,c.size+1))):=by(unfold Conv.stringToBytes;have H:(markStringish ⟨w.heap.size,0,none⟩).run P (bF {w with drawn:=w.drawn+1} (.cells c e))= .ok () (bF {w with drawn:=w.drawn+1} (.cells c e (c.size,c.size+1))):=by unfold markStringish;simp only[Sem.run_bind,run_shape,F,Result.andThen_ok,run_freeze,X]);(have I:(newRow e c).run P {w with drawn:=w.drawn+1}= .ok ⟨w.heap.size,0,none⟩ (bF {w with drawn:=w.drawn+1} (.cells c e)):=by simp[newRow];rfl);simp only[Sem.run_bind,run_choose,Question.forced,Vp,w4,Result.andThen_ok,Question.cut];show Result.andThen ((newRow e c).run P {w with drawn:=w.drawn+1}) _=_;rw[I,Result.andThen_ok,H,Result.andThen_ok];rfl
     simp only[convert,Sem.run_bind,bp h1,bp h2,Result.andThen_ok,bp V,j]
    simp at h
   simp at h
  simp at h
 {rename_i u hu Q;split at h;{rename_i z D;simp at h;obtain⟨rfl,rfl⟩:=h;rw[fl Q M];exact iW C D};simp at h};rename_i Q;split at h;{rename_i e h1 h2;split at h;{rename_i V;split at h;{rename_i m cs D;split at h;{(rename_i l hb;simp at h;obtain⟨rfl,rfl⟩:=h;obtain⟨z,f,j,E,F⟩:=l9 (P:=P) C D M;obtain⟨K,rfl,rfl⟩:=xn hb E;have U:=F m (vA _) w rfl;have hl:(K.map (Value.int .u8)).take (m*1)=K.map (Value.int .u8):=Wt (by have:=E.1;omega);rw[hl]at U;have g:∃a H,v= .slice (some a) m H:=by unfold elems at D;split at D;{simp[bE,e7]at Q};{simp[bE,e7]at Q};{simp only[CG]at D;obtain⟨l,hp,V⟩:=D;simp at V;obtain⟨rfl,rfl⟩:=V;cases M;simp_all};{split at D;{split at D;{exact asd};{exact asd};simp at D};simp at D};simp at D);obtain⟨a,H,rfl⟩:=g;simp only[Builtin.firstCells,Nat.mul_one]at U;refine a7.still C (v:= .string ⟨(K.map fun(n:Int)=>UInt8.ofNat n.toNat).toArray⟩) ?_ (bG.vl _ rfl);rw[run_convert_bytes_string w s d e (some a) m H (aG.au _ _ h1) (aG.au _ _ V) (aG.au _ _ h2),run_bytesToString w a m H K U,foldl_push];exact kg};simp at h};simp at h};simp at h};simp at h
def Hf(B:al G A S L w){s d:lA}{x r:RV}{v:Value}{o:ag}(h:e8 P T s d x L=some (r,o))(M:aD A S w x v): a7 P G A S L w (convert s d v) r o:=by unfold e8 at h;split at h;{rename_i l n ds k h1 h2;simp at h;obtain⟨rfl,rfl⟩:=h;cases M;refine a7.still B (v:= .int k (k.wrap n)) ?_ (.vl _ rfl);simp[convert,bp h1,bp h2,Conv.intToInt]};exact Fj B h M
def Gp(B:al G A S L w){t:lA}{x R r:RV}{v y:Value}{o:ag}(h:cD P T t x R L=some (r,o))(M:aD A S w x v)(z:aD A S w R y): a7 P G A S L w (Instr.index t v y) r o:=by unfold cD at h;split at h;{rename_i s k n h1;split at h;{rename_i i;split at h;{rename_i b hb;simp at h;obtain⟨rfl,rfl⟩:=h;cases M;cases z;refine a7.still B (v:= .int .u8 b.toNat) ?_ (.vl _ rfl);simp[Instr.index,asIntOf,bp h1,hb]};simp at h};simp at h};exact Gk B h M z
def Gq(B:al G A S L w){t:lA}{x r:RV}{M y d:Option RV}{v:Value}{vl vh vm:Option Value}{n:ag}(h:aZ P T t x M y d L=some (r,n))(N:aD A S w x v)(i:∀x u,M=some x->vl=some u->aD A S w x u)(z:M.isSome=vl.isSome)(j:∀x u,y=some x->vh=some u->aD A S w x u)(k:y.isSome=vh.isSome)(m:∀x u,d=some x->vm=some u->aD A S w x u)(C:d.isSome=vm.isSome): a7 P G A S L w (Instr.sliceAt t v vl vh vm) r n:=by unfold aZ at h;split at h;{(rename_i s hu;have D:vm=none:=by simp_all);subst D;split at h;{rename_i l' V o p;have q:=qg o i z;have E:=qg p j k;split at h;{rename_i l F hb;simp at h;obtain⟨rfl,rfl⟩:=h;cases N;refine a7.still B (v:= .string (s.extract l F)) ?_ (.vl _ rfl);simp[Instr.sliceAt,Sem.run_bind,bp hu,Result.andThen_ok,Instr.slice,p7 hb (vA _) q E]};simp at h};simp at h};exact Gn B h N i z j k m C
end
end Go.Sx
