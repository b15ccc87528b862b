/- Part of MeaningExact. -/
import Derived.Lib.Builder
import Derived.Lib.UnsafeStr
import Derived.Test.YtkeiahlgcgabjaaGreatDoorP2
set_option linter.all false
set_option maxRecDepth 1000000
set_option maxHeartbeats 0
namespace Go.Sx
section
variable {P:lB} {T:aq} [aG P T] {G:az} {A:Nat->Prop} {S:ay} {L:ag} {w:World}
def jm(A:Nat->Prop)(S:ay)(w:World)(J:List (Value×RW))(t:List MapEntry):Prop:=
 t.length=J.length/\∀(i:Nat) k x,J[i]? =some (k,x)->∃e,t[i]? =some e/\e.key=k/\bZ A S w x e.val
def jm.dc{k:Value}{x:RW}{J:List (Value×RW)}{t:List MapEntry}(h:jm A S w ((k,x)::J) t): ∃e E,t=e::E/\e.key=k/\bZ A S w x e.val/\jm A S w J E:=by obtain⟨y,c⟩:=h;cases t with| nil=>simp at y|cons e t=>obtain⟨l,j,m,n⟩:=c 0 k x rfl;simp at j;subst j;exact⟨e,t,rfl,m,n,by simpa using y,fun i k x z=>by obtain⟨u,j,m⟩:=c (i+1) k x (by simpa using z);simp_all⟩
def Fa{M:TypeDesc}{k G:Value}(h:eX M k=true)(V:eX M G=true):Instr.sameNow M k G=some (Instr.sameBits 1 k G):=by cases M<;>cases k<;>simp[eX]at h<;>cases G<;>simp[eX]at V<;>simp_all[Instr.sameNow,Instr.sameBits]
def xJ{M:TypeDesc}{Y:Value}(C:eX M Y=true):∀{es:List (Value×RW)}{aM:List MapEntry}(i:Nat),es.all (fun e=>eX M e.1)=true->jm A S w es aM->
  (∃x,dW Y es=some x/\∃(j:Nat)(e:MapEntry),aM[j]? =some e/\Instr.findNow M Y aM i=some (some (i+j,e.val))/\bZ A S w x e.val/\Instr.sameBits 1 Y e.key=true/\(∀m,m<j->∃l,aM[m]? =some l/\Instr.sameBits 1 Y l.key=false))\/
  (dW Y es=none/\Instr.findNow M Y aM i=some none)
 | [],aM,i,s,D=>by
  right;have:aM=[]:=by have:=D.1;simp_all
  subst this;exact⟨rfl,rfl⟩
 |(k,x)::es,aM,i,s,D=>by
  obtain⟨e,E,rfl,H,N,I⟩:=D.dc;simp only[YQ,Cz]at s;have z:=Fa C s.1;subst H
  by_cases hb:Instr.sameBits 1 Y e.key=true
  ·left;refine⟨x,by simp[dW,hb],0,e,rfl,?_,N,hb,fun m T=>by omega⟩;simp[Instr.findNow,z,hb]
  have O:Instr.sameBits 1 Y e.key=false:=by simpa using hb
  rcases xJ C (i+1) s.2 I with⟨y,h1,j,l,h2,h3,h4,h5,h⟩|⟨h1,h2⟩
  ·left;refine⟨y,by simp[dW,O,h1],j+1,l,by simpa using h2,?_,h4,h5,fun m T=> ?_⟩
   ·simp only[Instr.findNow,z,O]
    grind
   cases m with
   |zero=>simp_all
   |succ m=>simp_all
  right;exact⟨by simp[dW,O,h1],by simp only[Instr.findNow,z,O];exact h2⟩
def iQ{M:TypeDesc}{k:Value}(h:mH T M k=true):∃e a b,M= .array 2 e/\k= .agg #[.int .i64 a,.int .i64 b]/\T.au e=some (.int .i64)/\a6 T e=some 1:=by unfold mH at h;split at h;{rename_i e cs;split at h;{rename_i h1 h2 h3;exact⟨e,_,_,rfl,by congr 1;exact Array.toList_inj.1 h3,h1,h2⟩};simp at h};simp at h
def Cu{e:lA}(V:T.au e=some (.int .i64))(n:Nat)(a c:Int):(Op.equalIn (n+1) e (.int .i64 a) (.int .i64 c)).run P w= .ok (a==c) w:=by unfold Op.equalIn;simp only[Sem.run_bind,bp V,Result.andThen_ok,if_true,Sem.run_pure]
def rf{e:lA}(V:T.au e=some (.int .i64)){cs:Array Value}{k:Nat}{v:Value}(h:cs[k]? =some v):(Go.part e cs k).run P w= .ok v w:=by simp[Go.part,isAgg,bp V,h]
def P3{o e:lA}(h:T.au o=some (.array 2 e))(V:T.au e=some (.int .i64))(hz:a6 T e=some 1)(n:Nat)(a b c d:Int):(Op.equalIn (n+2) o (.agg #[.int .i64 a,.int .i64 b]) (.agg #[.int .i64 c,.int .i64 d])).run P w= .ok (a==c && b==d) w:=by have p1:∀x y:Int,(Go.part e #[.int .i64 x,.int .i64 y] (0*1)).run P w= .ok (.int .i64 x) w:=fun x y=>rf V rfl;have p2:∀x y:Int,(Go.part e #[.int .i64 x,.int .i64 y] ((0+1)*1)).run P w= .ok (.int .i64 y) w:=fun x y=>rf V rfl;unfold Op.equalIn;simp only[Sem.run_bind,bp h,Result.andThen_ok,dV hz];rw[aos];simp only[Std.Legacy.Range.size,aeO,List.range'_zero,aeP,List.forIn_nil,Sem.run_bind,p1,Cu V,Result.andThen_ok];cases a==c;{simp[Sem.run_pure]};simp only[Bool.not_true,Vp,w4,Sem.run_pure,Result.andThen_ok,Sem.run_bind,p2,Cu V,Bool.true_and];cases b==d<;>simp[Sem.run_pure]
def Hg{o e:lA}(h:T.au o=some (.array 2 e))(V:T.au e=some (.int .i64))(hz:a6 T e=some 1)(q:Bool)(n:Nat)(a b:Int):(Instr.checkKey q (n+2) o (.agg #[.int .i64 a,.int .i64 b])).run P w= .ok () w:=by(have p1:∀x y:Int,(Go.part e #[.int .i64 x,.int .i64 y] (0*1)).run P w= .ok (.int .i64 x) w:=fun x y=>rf V rfl;have p2:∀x y:Int,(Go.part e #[.int .i64 x,.int .i64 y] ((0+1)*1)).run P w= .ok (.int .i64 y) w:=fun x y=>rf V rfl;have p3:∀x:Int,(Instr.checkKey q (n+1) e (.int .i64 x)).run P w= .ok () w:=fun x=>by simp[Instr.checkKey,bp V]);unfold Instr.checkKey;simp only[Sem.run_bind,bp h,Result.andThen_ok];rw[aos];simp only[Std.Legacy.Range.size,aeO,List.range'_zero,aeP,List.forIn_nil,Sem.run_bind,dV hz,p1,p2,p3,Result.andThen_ok,Sem.run_pure]
def Bb{o e:lA}{a b:Int}(h:T.au o=some (.array 2 e))(V:T.au e=some (.int .i64))(hz:a6 T e=some 1):∀{es:List (Value×RW)}{aM:List MapEntry}(i:Nat),es.all (fun x=>mH T (.array 2 e) x.1)=true->jm A S w es aM->
  (∃x,dW (.agg #[.int .i64 a,.int .i64 b]) es=some x/\∃(j:Nat)(m:MapEntry),aM[j]? =some m/\(Instr.findAsking o (.agg #[.int .i64 a,.int .i64 b]) aM i).run P w= .ok (some (i+j,m.val)) w/\bZ A S w x m.val/\Instr.sameBits 1 (.agg #[.int .i64 a,.int .i64 b]) m.key=true/\(∀q,q<j->∃l,aM[q]? =some l/\Instr.sameBits 1 (.agg #[.int .i64 a,.int .i64 b]) l.key=false))\/
  (dW (.agg #[.int .i64 a,.int .i64 b]) es=none/\(Instr.findAsking o (.agg #[.int .i64 a,.int .i64 b]) aM i).run P w= .ok none w)
 | [],aM,i,s,C=>by
  right;have:aM=[]:=by have:=C.1;simp_all
  subst this;exact⟨rfl,rfl⟩
 |(k,x)::es,aM,i,s,C=>by
  obtain⟨m,E,rfl,H,M,I⟩:=C.dc;simp only[YQ,Cz]at s;obtain⟨l,c,d,F,rfl,_,_⟩:=iQ s.1;have N:(Op.equal o (.agg #[.int .i64 a,.int .i64 b]) m.key).run P w= .ok (a==c && b==d) w:=by rw[H];exact P3 h V hz 9998 a b c d
  have B:Instr.sameBits 1 (.agg #[.int .i64 a,.int .i64 b]) (.agg #[.int .i64 c,.int .i64 d])=(a==c && b==d):=by simp[Instr.sameBits]
  by_cases hb:(a==c && b==d)=true
  ·left;refine⟨x,by simp only[dW,B,hb,if_true],0,m,rfl,?_,M,by rw[H,B];exact hb,fun q N=>by omega⟩;simp[Instr.findAsking,Sem.run_bind,N,hb,Result.andThen_ok]
  have O:(a==c && b==d)=false:=by simpa using hb
  rcases Bb h V hz (i+1) s.2 I with⟨y,h1,j,l,h2,h3,h4,h5,n⟩|⟨h1,h2⟩
  ·left;refine⟨y,by simp only[dW,B,O,Vp,w4,h1],j+1,l,by simpa using h2,?_,h4,h5,fun q Y=> ?_⟩
   ·simp only[Instr.findAsking,Sem.run_bind,N,O,Result.andThen_ok,Vp,w4,h3]
    grind
   cases q with
   |zero=>exact⟨m,rfl,by rw[H,B];exact O⟩
   |succ q=>simpa using n q w_
  right;exact⟨by simp only[dW,B,O,Vp,w4,h1],by simp only[Instr.findAsking,Sem.run_bind,N,O,Result.andThen_ok,Vp,w4,h2]⟩
def xK{o:lA}{M:TypeDesc}{Y:Value}(h:T.au o=some M)(C:eD T M Y=true){J:List (Value×RW)}{t:List MapEntry}(s:J.all (fun e=>eD T M e.1)=true)(D:jm A S w J t): (∃x,dW Y J=some x/\∃(j:Nat)(e:MapEntry),t[j]? =some e/\(Instr.findKey o Y t).run P w= .ok (some (j,e.val)) w/\bZ A S w x e.val/\Instr.sameBits 1 Y e.key=true/\(∀m,m<j->∃k,t[m]? =some k/\Instr.sameBits 1 Y k.key=false))\/ (dW Y J=none/\(Instr.findKey o Y t).run P w= .ok none w):=by(have Z:∀r,Instr.findNow M Y t 0=some r->(Instr.findKey o Y t).run P w= .ok r w:=by intro r D;unfold Instr.findKey;simp only[Sem.run_bind,bp h,Result.andThen_ok,D,Sem.run_pure]);(rcases(Wq _ _).mp C with h1|h1);{(have d:J.all (fun e=>eX M e.1)=true:=by refine LA.2 fun e V=> ?_;(rcases(Wq _ _).mp (LA.1 s e V) with h2|h2);{exact h2};obtain⟨_,_,_,rfl,_⟩:=iQ h2;simp[eX]at h1);(rcases xJ h1 0 d D with⟨x,f,j,en,g,i,l,n,p⟩|⟨f,i⟩);{exact .inl ⟨x,f,j,en,g,by simpa using Z _ i,l,n,p⟩};exact .inr ⟨f,Z _ i⟩};(obtain⟨e,a,b,rfl,rfl,V,hz⟩:=iQ h1;have d:J.all (fun x=>mH T (.array 2 e) x.1)=true:=by refine LA.2 fun x N=> ?_;(rcases(Wq _ _).mp (LA.1 s x N) with h2|h2);{simp[eX]at h2};exact h2);cases c:t with| nil=>subst c;have:J=[]:=aeU D.1.symm;subst this;exact .inr ⟨rfl,Z _ rfl⟩|cons m ms=>(have Q:Instr.findNow (.array 2 e) (.agg #[.int .i64 a,.int .i64 b]) t 0=none:=by rw[c];rfl);(have f:(Instr.findKey o (.agg #[.int .i64 a,.int .i64 b]) t).run P w=(Instr.findAsking o (.agg #[.int .i64 a,.int .i64 b]) t).run P w:=by unfold Instr.findKey;simp only[Sem.run_bind,bp h,Result.andThen_ok,Q]);rw[<- c,f];simpa using Bb (a:=a) (b:=b) h V hz 0 d D
def w8{o:lA}{M:TypeDesc}{Y:Value}(h:T.au o=some M)(C:eD T M Y=true)(b:Bool)(n:Nat):(Instr.checkKey b (n+2) o Y).run P w= .ok () w:=by(rcases(Wq _ _).mp C with h1|h1);{unfold eX at h1;split at h1;{exact al4};{exact al4};{exact al4};simp at h1};obtain⟨e,x,y,rfl,rfl,V,hz⟩:=iQ h1;exact Hg h V hz b n x y
def Hh(C:al G A S L w){x:RV}{v:Value}{J:List (Value×RW)}(h:mapOf x L=some J)(M:aD A S w x v): (v= .map none/\J=[])\/∃B t l,v= .map (some B)/\w.heap[B]? =some (.map t l)/\jm A S w J t.toList:=by unfold mapOf at h;split at h;{rename_i b;split at h;{rename_i e D;simp at h;subst h;obtain⟨B,d,p,rfl⟩:=M;obtain⟨Z,R,t,l,q,r,s,u⟩:=C.ob b _ D;rw[p]at q;simp only[pB,q0]at q;obtain⟨rfl,rfl⟩:=q;exact .inr ⟨B,t,l,rfl,r,by simpa using s,fun i k x y=>by simp_all⟩};simp at h};{simp at h;subst h;cases M;exact kg};simp at h
def x_{t:lA}{r:RV}(h:mI T t=some r):∃v,(∀w:World,(zeroValue t).run P w= .ok v w)/\aD A S w r v:=by unfold mI at h;split at h;{rename_i i hi;split at h;{rename_i v Q;exact⟨v,fun w=>by simp[zeroValue,n0 hi,Q],qk h⟩};simp at h};simp at h
def FC(C:al G A S L w){t:lA}{x k r:RV}{l:Bool}{c D:Value}{n:ag}(h:hP T t x k l L=some (r,n))(M:aD A S w x c)(E:aD A S w k D): a7 P G A S L w (Instr.lookup t c D l) r n:=by unfold hP at h;split at h;{rename_i o e kv es h1 h2 h3;split at h;{rename_i N z h4 h5;split at h;{(rename_i U;simp only[Cz]at U;obtain⟨Z,Y⟩:=U;rw[fl h2 E];obtain⟨O,F,H⟩:=x_ (P:=P) (A:=A) (S:=S) (w:=w) h5;have g:∀b,(Instr.checkKey b 10000 o kv).run P w= .ok () w:=fun b=>w8 h4 Z b 9998;have I:∃u:Array MapEntry,jm A S w es u.toList/\((c= .map none/\u=#[])\/∃B m,c= .map (some B)/\w.heap[B]? =some (.map u m)):=by(rcases Hh C h3 M with⟨rfl,rfl⟩|⟨B,u,m,rfl,q,s⟩);{exact⟨#[],⟨rfl,fun i k x J=>by simp at J⟩,.inl ⟨rfl,rfl⟩⟩};exact kg);(obtain⟨u,J,K⟩:=I;have V:∀r,(Instr.findKey o kv u.toList).run P w= .ok r w->(Instr.lookup t c kv l).run P w= .ok (if l then Value.tuple #[(match r with| some (_,v)=>v|none=>O),.bool (match r with| some _=>true|none=>false)] else(match r with| some (_,v)=>v|none=>O)) w:=by intro r Q;(rcases K with⟨rfl,rfl⟩|⟨B,m,rfl,q⟩);{have:=Q;unfold Instr.lookup;simp only[Sem.run_bind,bp h1,Result.andThen_ok,Sem.run_pure,g];exact auU};(have:=Q;unfold Instr.lookup;have R:(getObj B).run P w= .ok (.map u m) w:=by simp[getObj,Sem.run,q]);simp only[Sem.run_bind,bp h1,Result.andThen_ok,R,Sem.run_pure,g];exact auU);(rcases xK (P:=P) (A:=A) (S:=S) (w:=w) h4 Z Y J with⟨y,f,j,en,p,W,X,_⟩|⟨f,W⟩);{simp only[f]at h;simp at h;obtain⟨rfl,rfl⟩:=h;refine a7.still C (v:=if l then .tuple #[en.val,.bool true] else en.val) ?_ ?_;{rw[V _ W]};cases l with| false=>exact X|true=>(simp only[if_true];refine⟨_,rfl,rfl,fun i x a=> ?_⟩;match i,a with| 0,a=>simp_all| 1,a=>simp at a;subst a;exact⟨_,rfl,bG.vl _ rfl⟩|i+2,a=>simp at a)};simp only[f]at h;{simp at h;obtain⟨rfl,rfl⟩:=h;have a:bZ A S w z O:=H;refine a7.still C (v:=if l then .tuple #[O,.bool false] else O) ?_ ?_;{rw[V _ W]};cases l with| false=>exact a|true=>(simp only[if_true];refine⟨_,rfl,rfl,fun i x d=> ?_⟩;match i,d with| 0,d=>simp_all| 1,d=>simp at d;subst d;exact⟨_,rfl,bG.vl _ rfl⟩|i+2,d=>simp at d)}};simp at h};simp at h};simp at h
def Fk{M:TypeDesc}{k G:Value}(h:eD T M k=true)(V:eD T M G=true)(W:Instr.sameBits 1 k G=true):G=k:=by(rcases(Wq _ _).mp h with h|h<;>rcases(Wq _ _).mp V with V|V);{cases M<;>cases k<;>simp[eX]at h<;>cases G<;>simp[eX]at V<;>simp_all[Instr.sameBits,Ba]};{obtain⟨_,_,_,rfl,_⟩:=iQ V;simp[eX]at h};{obtain⟨_,_,_,rfl,_⟩:=iQ h;simp[eX]at V};obtain⟨_,a,b,_,rfl,_⟩:=iQ h;obtain⟨_,c,d,_,rfl,_⟩:=iQ V;simp[Instr.sameBits]at W;rw[W.1,W.2]
def E4{M:TypeDesc}{k:Value}(h:eD T M k=true)(n:Nat):Instr.sameBits (n+1) k k=true:=by(rcases(Wq _ _).mp h with h|h);{cases M<;>cases k<;>simp[eX]at h<;>simp[Instr.sameBits,Ba]};obtain⟨_,a,b,_,rfl,_⟩:=iQ h;simp[Instr.sameBits]
def zt{Y:Value}{x y:RW}:∀{es:List (Value×RW)}{j:Nat},dW Y es=some y->(∀m,m<j->∃e,es[m]? =some e/\Instr.sameBits 1 Y e.1=false)->(∃e,es[j]? =some e/\Instr.sameBits 1 Y e.1=true)->eN Y x es=es.set j (Y,x)
 | [],j,h,_,_=>by simp_all
 |(k,v)::es,0,h,_,h2=>by
  obtain⟨e,V,O⟩:=h2;simp at V;subst V;simp only at O;simp[eN,O]
 |(k,v)::es,j+1,h,h1,h2=>by
  obtain⟨e,V,O⟩:=h1 0 w_;simp at V;subst V;simp only at O;simp[dW,O]at h;simp only[eN,O,Vp,w4,List.set_cons_succ];rw[zt (j:=j) h (fun m T=>by grind) kg]
def tO{Y:Value}{x:RW}:∀{es:List (Value×RW)},dW Y es=none->eN Y x es=es++[(Y,x)]
 | [],h=>rfl
 |(k,v)::es,h=>by
  by_cases hb:Instr.sameBits 1 Y k=true
  ·simp[dW,hb]at h
  have O:Instr.sameBits 1 Y k=false:=by simpa using hb
  simp[dW,O]at h;simp[eN,O,tO h]
def xL(C:al G A S L w){t:lA}{m k x r:RV}{l z c:Value}{n:ag}(h:e4 T t m k x L=some (r,n))(U:aD A S w m l)(D:aD A S w k z)(M:aD A S w x c): r=bl/\rA P G A S L w (Instr.mapUpdate t l z c) n:=by
 unfold e4 at h;split at h
 ·rename_i p e b kv x h1 h2;split at h
  ·rename_i N es h3 E;split at h
   ·rename_i V;simp only[Cz]at V;obtain⟨Z,Y⟩:=V;simp at h;obtain⟨rfl,rfl⟩:=h;refine⟨rfl,?_⟩;rw[fl h2 D];obtain⟨B,d,q,rfl⟩:=U;obtain⟨a,R,u,s,v,F,H,I⟩:=C.ob b _ E;rw[q]at v;simp only[pB,q0]at v;obtain⟨rfl,rfl⟩:=v;have J:jm A S w es u.toList:=⟨by simpa using H,fun i k x K=>by simp_all⟩;have g:(Instr.checkKey false 10000 p kv).run P w= .ok () w:=w8 h3 Z false 9998;have K:(getObj B).run P w= .ok (.map u s) w:=by simp[getObj,Sem.run,F]
    have O:∀o:Obj,(setObj B o).run P w= .ok () (bs w B o):=by intro o;simp[setObj,Sem.run,F];rfl
    have fin:∀(Q:Array MapEntry)(W:Nat),Q.size=(eN kv x es).length->(∀(i:Nat) k y,(eN kv x es)[i]? =some (k,y)->∃e,Q[i]? =some e/\e.key=k/\bZ A S w y e.val)->
      (Instr.mapUpdate t (.map (some B)) kv c).run P w= .ok () (bs w B (.map Q W))->rA P G A S L w (Instr.mapUpdate t (.map (some B)) kv c) (L.set b (.map (eN kv x es))):=by
     intro Q W f X ap;have aw:∀a0 f a1,Obj.map u s= .cells a0 f a1->∃a2,Obj.map Q W= .cells a2 f a1/\a2.size=a0.size:=by intro a0 f a1 a_;cases a_
     have be:Ext A S L w A S (L.set b (.map (eN kv x es))) (bs w B (.map Q W)):=Ext.write C E rfl q F aw;refine⟨_,A,S,ap,C.write E rfl q F aw rfl ?_,be⟩;refine⟨B,d,Q,W,q,fk w (dg F),f,fun i k y bo=> ?_⟩;obtain⟨e,br,bU,b1⟩:=X i k y bo;exact⟨e,br,bU,C.pf be b1⟩
    rcases xK (P:=P) (A:=A) (S:=S) (w:=w) h3 Z Y J with⟨y,f,j,en,X,ap,b3,cb,cc⟩|⟨f,ap⟩
    {(have cd:j<es.length:=by have:=(se.1 X).1;simp at this;omega);(have cg:en.key=kv:=by(obtain⟨ci,br,bU,_⟩:=J.2 j es[j].1 es[j].2 kg;rw[X]at br;simp at br;subst br;have cl:eD T N en.key=true:=by rw[bU];exact LA.1 Y es[j] (aaN cd));exact Fk Z cl cb);(have cm:eN kv x es=es.set j (kv,x):=by refine zt f (fun m U=> ?_) ?_;{(obtain⟨ci,br,bU⟩:=cc m U;have cn:m<es.length:=by omega);obtain⟨cs,ct,cv,_⟩:=J.2 m es[m].1 es[m].2 kg;exact kg};obtain⟨cn,cs,ct,_⟩:=J.2 j es[j].1 es[j].2 kg;exact kg);(have cv:u[j]? =some en:=by simpa using X);(have cw:(Instr.keyThatStays (((u[j]?).map (·.key)).getD kv) kv).run P w= .ok kv w:=by simp[cv,cg,Instr.keyThatStays,E4 Z 9999]);refine fin (u.modify j fun e=>{e with key:=kv,val:=c}) s (by simp[cm,H]) ?_ ?_;{intro i cI cS bo;rw[cm]at bo;by_cases c0:i=j;{subst c0;rw[Yb cd]at bo;simp at bo;obtain⟨rfl,rfl⟩:=bo;exact⟨{en with key:=kv,val:=c},by grind,rfl,M⟩};grind};unfold Instr.mapUpdate;simp only[Sem.run_bind,bp h1,Result.andThen_ok,K,g,ap,cw,O]};refine fin (u.push {key:=kv,val:=c,born:=s}) (s+1) (by simp[tO f,H]) ?_ ?_;{intro i cd cg bo;rw[tO f]at bo;(rcases iI _ _ _ _ bo with⟨ci,cl⟩|⟨ci,cl⟩);{grind};simp at cl;obtain⟨rfl,rfl⟩:=cl;exact⟨{key:=cd,val:=c,born:=s},by grind,rfl,M⟩};unfold Instr.mapUpdate;simp only[Sem.run_bind,bp h1,Result.andThen_ok,K,g,ap,O]
   simp at h
  simp at h
 simp at h
def FD(B:al G A S L w)(t:lA):a7 P G A S L w (Instr.makeMap t none) (.v (.one (.map L.length))) (L++[.map []]):=by refine⟨.map (some w.heap.size),bF w (.map #[] 0),A,S.put L.length (w.heap.size,0),by rfl,⟨w.heap.size,0,ay.dG _ _ _,rfl⟩,B.push _ _ 0 ?_,Ext.push B _ _ 0⟩;exact⟨w.heap.size,0,#[],0,ay.dG _ _ _,eL w _,rfl,fun i k x y=>by simp at y⟩
def Hi(B:al G A S L w){t:lA}{s:ByteArray}(h:T.au t=some .string):a7 P G A S L w (Instr.range t (.string s)) (.v (.one (.ref L.length 0))) (L++[.iter s 0]):=by refine⟨.pointer (some ⟨w.heap.size,0,none⟩),bF w (.stringIter s 0),A,S.put L.length (w.heap.size,0),by simp[Instr.range,bp h];rfl,⟨w.heap.size,0,ay.dG _ _ _,rfl⟩,B.push _ _ 0 ?_,Ext.push B _ _ 0⟩;exact⟨w.heap.size,ay.dG _ _ _,eL w _⟩
def Hj(C:al G A S L w){j r:RV}{v:Value}{y:lA}{n:ag}(h:rZ j L=some (r,n))(z:aD A S w j v):a7 P G A S L w (Instr.next v true y) r n:=by unfold rZ at h;split at h;{rename_i b;split at h;{(rename_i s pos D;obtain⟨B,d,p,rfl⟩:=z;obtain⟨Z,q,t⟩:=C.ob b _ D;rw[p]at q;simp only[pB,q0]at q;obtain⟨rfl,rfl⟩:=q;have E:(getObj B).run P w= .ok (.stringIter s pos) w:=by simp[getObj,Sem.run,t]);split at h;{(rename_i K;simp at h;obtain⟨rfl,rfl⟩:=h;have F:∀o:Obj,(setObj B o).run P w= .ok () (bs w B o):=by intro o;simp[setObj,Sem.run,t];rfl);(have H:∀c e f,Obj.stringIter s pos= .cells c e f->∃g,Obj.stringIter s (pos+(Utf8.decode s pos).2)= .cells g e f/\g.size=c.size:=by intro c e f V;cases V);have I:Ext A S L w A S (L.set b (.iter s (pos+(Utf8.decode s pos).2))) (bs w B (.stringIter s (pos+(Utf8.decode s pos).2))):=Ext.write C D rfl p t H;refine⟨.tuple #[.bool true,goInt pos,.int .i32 (Utf8.decode s pos).1],_,A,S,?_,?_,C.write D rfl p t H rfl ⟨B,p,fk w (dg t)⟩,I⟩;{simp[Instr.next,E,K,F]};refine⟨_,rfl,rfl,fun i x z=> ?_⟩;match i,z with| 0,z=>simp at z;subst z;exact⟨_,rfl,bG.vl _ rfl⟩ | 1,z=>simp at z;subst z;exact⟨_,rfl,bG.vl _ rfl⟩ | 2,z=>simp at z;subst z;exact⟨_,rfl,bG.vl _ rfl⟩|i+3,z=>simp at z};rename_i K;simp at h;obtain⟨rfl,rfl⟩:=h;refine a7.still C (v:= .tuple #[.bool false]) ?_ ?_;{simp[Instr.next,E,K]};refine⟨_,rfl,rfl,fun i x z=> ?_⟩;match i,z with| 0,z=>simp at z;subst z;exact⟨_,rfl,bG.vl _ rfl⟩|i+1,z=>simp at z};simp at h};simp at h
def xM{t:lA}{n:Nat}(h:a6 T t=some (n+1)):∃i,P.info? t=some i/\i.size≠0:=by unfold a6 at h;cases hi:T.info t with| none=>simp[hi]at h|some i=>simp[hi]at h;exact⟨i,aG.info t i hi,w_⟩
def FE(C:al G A S L w){s d:lA}{b o:Nat}{r:RV}{v:Value}{p:ag}(h:jS P T s d b o L=some (r,p))(M:aD A S w (.v (.one (.ref b o))) v): a7 P G A S L w (convert s d v) r p:=by obtain⟨B,Q,q,rfl⟩:=M;unfold jS at h;split at h;{rename_i t e cs j k D;split at h;{rename_i n hn;split at h;{rename_i z;simp at h;obtain⟨rfl,rfl⟩:=h;obtain⟨Z,c,fr,l,m,x,_⟩:=C.ob b _ D;rw[q]at l;simp only[pB,q0]at l;obtain⟨rfl,rfl⟩:=l;obtain⟨i,y,E⟩:=xM (P:=P) hn;refine a7.still C (Lib.run_to_unsafe w (e:=e) (cells:=c.size) ⟨B,0+o,none⟩ (aG.au _ _ j) (aG.au _ _ k) y E ?_ ?_) ⟨B,0,q,rfl⟩;{simp[World.shape?,m]};exact VO};simp at h};simp at h};{rename_i u e cs j k D;split at h;{rename_i n hn;split at h;{rename_i l;simp at h;obtain⟨rfl,rfl⟩:=h;obtain⟨Z,c,fr,m,x,y,z,_⟩:=C.ob b _ D;rw[q]at m;simp only[pB,q0]at m;obtain⟨rfl,rfl⟩:=m;obtain⟨i,E,F⟩:=xM (P:=P) hn;have H:=(z rfl).1;refine a7.still C (Lib.run_from_unsafe w (e:=e) (cells:=c.size) ⟨B,0+o,none⟩ (aG.au _ _ j) (aG.au _ _ k) E ?_ ?_) ⟨B,0,q,rfl⟩;{simp[World.shape?,x]};exact kg};simp at h};simp at h};simp at h
def E5(C:al G A S L w){args:eG}{vs:List Value}{c:Array TypeId}{x:lA}{r:RV}{p:ag}(h:kO args L=some (r,p))(M:aN A S w args vs): a7 P G A S L w (Builtin.unsafeSliceData_ c x vs.toArray) r p:=by unfold kO at h;split at h;{rename_i b o n z;simp at h;obtain⟨rfl,rfl⟩:=h;obtain⟨v,k,rfl,i,j⟩:=M.dc;have:=j.dR;subst this;obtain⟨B,d,q,y,s,rfl,t,u⟩:=i;obtain⟨rfl,_⟩:=u w_;exact a7.still C (Lib.run_unsafeSliceData_row w c x _ _ y w_) ⟨B,d,s,rfl⟩};simp at h
def Ip(B:al G A S L w){args:eG}{vs:List Value}{b:Array TypeId}{x:lA}{r:RV}{n:ag}(h:sr T b args L=some (r,n))(M:aN A S w args vs): a7 P G A S L w (Builtin.cap_ b x vs.toArray) r n:=by unfold sr at h;split at h;{rename_i e hu;simp at h;obtain⟨rfl,rfl⟩:=h;obtain⟨t,i,j⟩:=Xp.1 hu;obtain⟨v,k,rfl,l,m⟩:=M.dc;have:=m.dR;subst this;cases l;refine a7.still B (v:=goInt 0) ?_ (.vl _ rfl);simp[Builtin.cap_,i,bp j]};simp at h
def zu:∀{cs:lW}{l:List UInt8}{vs:List Value},bytesOf cs=some l->bh A S w cs vs->∃K:eF,vs=K.map (Value.int .u8)/\l=K.map fun n=>UInt8.ofNat n.toNat
 | [],l,vs,h,C=>by simp[bytesOf]at h;subst h;rw[C.dR];simp_all
 |y::cs,l,vs,h,C=>by
  obtain⟨v,m,rfl,i,j⟩:=C.dc;cases y with
  |p y=>
   cases y with
   |vl u=>
    cases u with
    |int k n=>
     cases k<;>simp[bytesOf]at h
     obtain⟨l',s,rfl⟩:=h;cases i;obtain⟨K,rfl,rfl⟩:=zu s j;exact⟨n::K,rfl,rfl⟩
    |_=>simp[bytesOf]at h
   |sl _ _=>simp[bytesOf]at h
  |_=>simp[bytesOf]at h
def xa:∀(K:eF)(a:Addr)(acc:ByteArray),(∀(j:Nat) n,K[j]? =some n->w.cell? (a.add j)=some (.int .u8 n))->
  (loadBytes a acc K.length).run P w= .ok ⟨acc.data++(K.map fun n=>UInt8.ofNat n.toNat).toArray⟩ w
 | [],a,acc,_=>by rfl
 |n::K,a,acc,h=>by
  have i:w.cell? a=some (.int .u8 n):=by
   have:=h 0 n rfl
   simpa[Addr.add] using this
  have d:=xa K (a.add 1) (acc.push (UInt8.ofNat n.toNat)) (fun j y hy=>by
   have:=h (j+1) y (by simpa using hy);have e:(a.add 1).add j=a.add (j+1):=by
    unfold Addr.add
    by_cases s:j=0
    ·subst s;simp
    grind
   simp_all)
  have hx:n.toNat.toUInt8=UInt8.ofNat n.toNat:=rfl;simp only[VP,loadBytes,Sem.run_bind,run_load,i,Result.andThen,hx];exact kg
def zv(t u v:String)(w:lA)(B:Nat)(m:Int):Sem Value:=do
    let n <- asInt (.int .i64 m)
    if n<0 then runtimePanic (.error t)
    if n>IntKind.i64.max then unsupported (.unsafePointer u)
    if n=0 then pure (.string .empty)
    else if <- variablesAt ⟨B,0,none⟩ (<- elemOf w) n.toNat then do
     let s <- loadBytes ⟨B,0,none⟩ .empty n.toNat
     freeze ⟨B,0,none⟩ n.toNat
     pure (.string s)
    else unsupported (.unsafePointer v)
def Iq(t:lA)(n:List TypeId)(v:lA)(B:Nat)(m:Int):∃s u w,Builtin.unsafeString_ (t::n).toArray v #[.pointer (some ⟨B,0,none⟩),.int .i64 m]=zv s u w t B m:=⟨_,_,_,rfl⟩
def ER{b:Array TypeId}{t ty e:lA}(s:b[0]? =some t)(hp:(elemOf t).run P w= .ok e w)(c:P.cellsOf e=1){B cells:Nat}(Q:w.shape? B=some (e,cells))(K:eF)(h:K.length≠0)(y:K.length<=cells)(i:K.length<=1099511627776)(p:∀(j:Nat) n,K[j]? =some n->w.cell? ((⟨B,0,none⟩:Addr).add j)=some (.int .u8 n)): (Builtin.unsafeString_ b ty #[.pointer (some ⟨B,0,none⟩),.int .i64 K.length]).run P w= .ok (.string ⟨(K.map fun n=>UInt8.ofNat n.toNat).toArray⟩) (w.freeze ⟨B,0,none⟩ K.length):=by(have R:=xa (P:=P) K ⟨B,0,none⟩ .empty p;have k:=Lib.liesAt_bytes (P:=P) c (cells /P.cellsOf e) K.length kg;have S:¬(9223372036854775807:Int)<(K.length:Int):=by omega);(have u:IntKind.i64.max=9223372036854775807:=rfl;have d:¬(K.length:Int)<0:=by omega);(obtain⟨m,rfl⟩:∃m:List TypeId,b=(t::m).toArray:=by obtain⟨l⟩:=b;cases l with| nil=>simp at s|cons x l=>simp_all);obtain⟨v,z,A,F⟩:=Iq t m ty B K.length;rw[F,zv];simp[asInt,asIntOf,u,S,d,h,variablesAt,Q,hp,k,R]
def FF{c:Array Value}{e:lA}{L y B n:Nat}(h:w.heap[B]? =some (.cells c e (L,y)))(x:n≠0): w.freeze ⟨B,0,none⟩ n=bs w B (.cells c e (if L==y then(0,0+n) else(min L 0,max y (0+n)))):=by have K:=dg h;simp only[World.freeze,x,w4,bs];congr 1;grind
def Ir{b:Nat}{x:Ob}(h:L[b]? =some x):L.set b x=L:=by apply Wr;grind
def E6(C:al G A S L w){args:eG}{vs:List Value}{f:Array TypeId}{z:lA}{r:RV}{o:ag}(h:jA P T f args L=some (r,o))(M:aN A S w args vs): a7 P G A S L w (Builtin.unsafeString_ f z vs.toArray) r o:=by unfold jA at h;split at h;{rename_i b n u hu;obtain⟨t,k,p⟩:=Xp.1 hu;split at h;{rename_i e cs D;split at h;{rename_i l hl;split at h;{rename_i hc;obtain⟨E,q,rfl,s⟩:=hc;simp at h;obtain⟨rfl,rfl⟩:=h;obtain⟨v,F,rfl,H,I⟩:=M.dc;obtain⟨J,K,rfl,N,O⟩:=I.dc;have:=O.dR;subst this;obtain⟨B,d,Q,rfl⟩:=H;cases N;obtain⟨Z,c,fr,g,R,U,_,V,W⟩:=C.ob b _ D;rw[Q]at g;simp only[pB,q0]at g;obtain⟨rfl,rfl⟩:=g;obtain⟨cv,X,Y⟩:=kY cs (fun x i v=>c[i]? =some v/\Rel A S w x v) fun i x a=>W i x a;have ap:bh A S w cs cv:=⟨X,fun i x a=>let ⟨u,aw,a0⟩:=Y i x a;⟨u,aw,a0.2⟩⟩;(obtain⟨a1,rfl,rfl⟩:=zu hl ap;have a2:a1.length=n+1:=by have:=ap.1;simp at this;omega);(have a_:∀(j:Nat) m,a1[j]? =some m->w.cell? ((⟨B,0,none⟩:Addr).add j)=some (.int .u8 m):=by(intro j m be;have bo:j<cs.length:=by have:=(se.1 be).1;omega);(obtain⟨u,aw,a0,_⟩:=Y j cs[j] (v9 bo);rw[VJ,be]at aw;simp at aw;subst aw;have:(⟨B,0,none⟩:Addr).add j=⟨B,j,none⟩:=by rw[g0];simp);rw[this];exact cell_of_heap R a0);(have br:(elemOf t).run P w= .ok u w:=by simp[elemOf,bp p]);(have bU:(2:Nat)^40=1099511627776:=by decide);(have b1:=ER (P:=P) (w:=w) (ty:=z) k br s (B:=B) (cells:=c.size) (by simp[World.shape?,R]) a1 w_ w_ w_ a_;have b3:(Int.ofNat (n+1))=(a1.length:Int):=by rw[a2];rfl);(obtain⟨cb,a⟩:=fr;have cc:=FF (n:=a1.length) R w_;rw[cc]at b1;have cd:∀cg ci cl,Obj.cells c u (cb,a)= .cells cg ci cl->∃cm,(∃cn,Obj.cells c u (if cb==a then(0,0+a1.length) else(min cb 0,max a (0+a1.length)))= .cells cm ci cn)/\cm.size=cg.size:=by intro cg ci cl cn;cases cn;exact⟨c,⟨_,rfl⟩,rfl⟩);have ct:Ext A S L w A S (L.set b (.tc u cs true)) _:=Ext.k4 C (y:= .tc u cs true) D rfl Q R cd;have cw:=C.k4 (y:= .tc u cs true) D rfl Q R cd rfl ?_;{rw[Ir D]at ct cw;refine⟨_,_,A,S,?_,.vl _ rfl,cw,ct⟩;exact kg};refine⟨B,c,_,Q,fk w (dg R),U,fun cI=>by simp at cI,?_,fun i x a=> ?_⟩;{exact kg};obtain⟨v,cS,c0⟩:=W i x a;exact⟨v,cS,C.rel ct c0⟩};simp at h};simp at h};simp at h};simp at h
def x'(B:al G A S L w){cs:lW}{c:Array Value}(e:lA)(y:cs.length<=c.size)(d:∀(i:Nat) x,cs[i]? =some x->∃v,c[i]? =some v/\Rel A S w x v): ∃S',S' L.length=some (w.heap.size,0)/\al G A S' (L++[.tc e cs true]) (bF w (.cells c e))/\Ext A S L w A S' (L++[.tc e cs true]) (bF w (.cells c e)):=by refine⟨S.put L.length (w.heap.size,0),ay.dG _ _ _,B.push _ _ 0 ?_,Ext.push B _ _ 0⟩;refine⟨w.heap.size,c,(0,0),ay.dG _ _ _,eL w _,y,fun h=>by simp at h,Xq _,fun i x z=> ?_⟩;obtain⟨v,j,k⟩:=d i x z;exact⟨v,j,B.rel (Ext.push B (.tc e cs true) (.cells c e) 0) k⟩
def ya(B:al G A S L w){old new:lW}{ov nv:List Value}{rest:Array Value}(e:lA)(z:bh A S w old ov)(y:bh A S w new nv): ∃S',S' L.length=some (w.heap.size,0)/\al G A S' (L++[.tc e (old++new) true]) (bF {w with drawn:=w.drawn+1} (.cells (ov.toArray++nv.toArray++rest) e))/\ Ext A S L w A S' (L++[.tc e (old++new) true]) (bF {w with drawn:=w.drawn+1} (.cells (ov.toArray++nv.toArray++rest) e)):=by
 have C:=z.app y;obtain⟨S',q,r,s⟩:=x' (cs:=old++new) (c:=ov.toArray++nv.toArray++rest) B.drew e
  alq (fun i x D=>by
   obtain⟨v,h,j⟩:=C.2 i x D;refine⟨v,?_,B.rel Ext.drew j⟩
   grind)
 exact⟨S',q,r,Ext.drew.trans s⟩
def FG(C:al G A S L w){f:Array TypeId}{z:lA}{s x r:RV}{vs g:Value}{o:ag}(h:dM T f [s,x] L=some (r,o))(Q:aD A S w s vs)(M:aD A S w x g): a7 P G A S L w (Builtin.append_ f z #[vs,g]) r o:=by
 simp only[dM]at h;split at h
 ·rename_i e D t E;obtain⟨F,l,p⟩:=Xp.1 t;obtain⟨H,I,J⟩:=Xp.1 E;have K:∀k,D≠.int k:=by intro k N;subst N;simp at h
  split at h;{simp at h};split at h
  ·rename_i i zero hi hz;split at h
   ·rename_i m new O;obtain⟨R,U,V,W,X⟩:=l9 (P:=P) C O M;have Y:∀w':World,(Builtin.lenOf g).run P w'= .ok m w':=x8 R;have Z:V.take (m*i.size)=V:=Wt (by have:=W.1;omega);have a:=X m (vA _);rw[Z]at a;obtain⟨ap,aw,a0⟩:=iM (P:=P) hz;split at h
    ·rename_i hc;obtain⟨a1,a2,a_⟩:=hc;have be:ap.cells.size=i.size:=by have:=(a0 (A:=A) (S:=S) (w:=w)).1;simp at this;omega
     split at h
     ·cases Q;split at h
      ·rename_i bo;simp at h;obtain⟨rfl,rfl⟩:=h;obtain⟨br,bU,b1,b3,cb⟩:=qa (P:=P) (w:=w) (s:= .slice none 0 0) (ty:=z) (old:=[]) (new:=V) rfl l I p J K hi aw Y w_ kg
        (fun w' _=>by rfl) a
       obtain⟨S',cc,cd,cg⟩:=ya C (old:=[]) (new:=new) (ov:=[]) (nv:=V) (rest:=bU) e bh.nil W;rw[X_]at cb;refine⟨_,_,A,S',cb,⟨w.heap.size,0,0,br,cc,rfl,w_,fun _=>⟨s_,_,e,(0,0),eL _ _,?_⟩⟩,cd,cg⟩;have:=W.1;simp[b3,be,this,U];rw[<- YP];exact kg
      simp at h
     {rename_i b n bo;split at h;{rename_i br cs bU;split at h;{(rename_i b1;obtain⟨rfl,rfl,b3,cb⟩:=b1;simp at h;obtain⟨rfl,rfl⟩:=h;obtain⟨B,d,q,cc,cd,rfl,cg,ci⟩:=Q;have cl:part cs 0 (n*i.size)=some cs:=by unfold part;rw[<- b3];simp);(have cm:elems L i.size (.v (.one (.ad b 0 n i.size)))=some (n,cs):=by simp[elems,bU,cl]);obtain⟨_,cn,ct,cv,cw⟩:=l9 (P:=P) C cm (⟨B,d,q,cc,cd,rfl,cg,ci⟩);have cI:ct.take (n*i.size)=ct:=Wt (by have:=cv.1;omega);have cS:=cw n (vA _);rw[cI]at cS;obtain⟨c0,c,fr,c1,c2,c3,_,c4,dd⟩:=C.ob b _ bU;rw[cd]at c1;simp only[pB,q0]at c1;obtain⟨rfl,rfl⟩:=c1;by_cases dh:n+m<=cc;{(obtain⟨rfl,dl,dn,ds,d0,d1⟩:=ci w_;rw[c2]at d0;simp only[pB,Obj.cells.injEq]at d0;obtain⟨rfl,rfl,rfl⟩:=d0;have d2:=W.1;have hmul:(n+m)*i.size<=cc*i.size:=aaH _ dh;rw[YP]at hmul;obtain⟨d3,d4,d5,d_⟩:=s9 (P:=P) V (0+0+n*i.size) 0 c w c2 w_ (fun k N _=>by omega) W.rb;have d':∀en eq es,Obj.cells c br fr= .cells en eq es->∃e2,Obj.cells d3 br fr= .cells e2 eq es/\e2.size=en.size:=by intro en eq es e_;cases e_;exact⟨d3,rfl,d5⟩);have fd:Ext A S L w A (S.put L.length (B,0)) (L.set b .gone++[.tc br (cs++new) true]) (bs w B (.cells d3 br fr)):=Ext.i5 C 0 bU rfl cd c2 d';refine⟨_,_,A,_,qb l I p J K hi Y dh (a w rfl) d4,⟨B,0,0,cc,ay.dG _ _ _,rfl,dh,fun _=>⟨rfl,d3,br,fr,fk w (dg c2),w_⟩⟩, C.i5 0 bU rfl cd c2 d' ?_,fd⟩;refine⟨B,d3,fr,ay.dG _ _ _,fk w (dg c2),by grind,fun fn=>by simp at fn,by simp;omega,fun j y fv=> ?_⟩;rw[d_];by_cases fz:j<cs.length;{rw[Ws fz]at fv;rw[if_neg w_];obtain⟨u,fC,fD⟩:=dd j y fv;exact⟨u,fC,C.rel fd fD⟩};rw[Xo w_]at fv;obtain⟨u,fC,fD⟩:=W.2 _ _ fv;have fE:=(se.1 fv).1;rw[if_pos w_];exact⟨u,by simp_all,C.rel fd fD⟩};obtain⟨dl,dn,ds,d0,d1⟩:=qa (P:=P) (w:=w) (ty:=z) (old:=ct) (new:=V) rfl l I p J K hi aw Y w_ cb cS a;have hd:=C.drop b;obtain⟨S',d2,d3,d4⟩:=ya hd (old:=cs) (new:=new) (ov:=ct) (nv:=V) (rest:=dn) br cv W;refine⟨_,_,A,S',d1,⟨w.heap.size,0,0,dl,by simpa using d2,s_,w_,fun _=>⟨s_,_,br,(0,0),eL _ _,?_⟩⟩,d3,(Ext.drop b).trans d4⟩;have d5:=W.1;have d_:=cv.1;simp[d0,be,d5,d_,U,cn];rw[<- YP,<- YP];exact kg};simp at h};simp at h};simp at h
    simp at h
   simp at h
  simp at h
 simp at h
end
def bf(T:aq):Prop:=∀t C,T.au t=some (.struct C)->∀f∈C,(a6 T f.type).isSome=true
section
variable {P:lB} {T:aq} [aG P T] {G:az} {A:Nat->Prop} {S:ay} {L:ag} {w:World}
def cM(P:lB)(G:az)(A:Nat->Prop)(S:ay)(L:ag)(w:World)(s:Sem Next)(r:RV)(n:ag):Prop:=
 ∃y v w' O S',s.run P w= .ok y w'/\(y= .value v\/(y= .skip/\v=undef))/\aD O S' w' r v/\al G O S' n w'/\Ext A S L w O S' n w'
def cM.val{s:Sem Value}{r:RV}{n:ag}(h:a7 P G A S L w s r n):cM P G A S L w (do pure (.value (<- s))) r n:=by obtain⟨v,w',O,S',i,j,k,l⟩:=h;exact⟨_,v,w',O,S',by simp[i],.inl rfl,j,k,l⟩
def jC:aD A S w bl undef:=⟨#[],rfl,rfl,fun i x h=>by simp at h⟩
def cM.unit{s:Sem Unit}{n:ag}(h:rA P G A S L w s n):cM P G A S L w (do s;pure .skip) bl n:=by obtain⟨w',O,S',i,j,k⟩:=h;exact⟨_,undef,w',O,S',by simp[i],.inr ⟨rfl,rfl⟩,jC,j,k⟩
def aN.i6{α:Type}(f:α->RV)(g:α->Value):∀(l:List α),(∀x∈l,aD A S w (f x) (g x))->aN A S w (l.map f) (l.map g)
 | [],_=>aN.nil
 |a::l,h=>aN.cons (h a (aaO ..)) (aN.i6 f g l fun x M=>h x (Xr _ M))
set_option maxHeartbeats 1000000 in
def J'(q:bf T)(B:al G A S L w){ρ:Operand->RV}{ρ':Operand->Value}{o:Oper}{r:RV}{z:ag}(D:∀x∈o.op.operands,aD A S w (ρ x) (ρ' x))(h:aJ P T G ρ o L=some (r,z)): cM P G A S L w (execOp ρ' o) r z:=by
 obtain⟨dst,op,type,pos,after,guard⟩:=o;cases op with
 |move x=>
  exact amR
 |assign x=>
  exact amR
 |pick c a b=>
  simp only[aJ]at h;split at h
  ·rename_i t E;simp at h;obtain⟨rfl,rfl⟩:=h;have g:=D c xB;rw[E]at g;have J:ρ' c= .bool t:=by
    generalize ρ' c=v at g;cases g;rfl
   refine⟨.value (if t then ρ' a else ρ' b),if t then ρ' a else ρ' b,w,A,S,?_,.inl rfl,?_,B,Ext.refl⟩
   ·simp[execOp,J,asBool]
   cases t
   ·exact D b xB
   exact D a xB
  simp at h
 |alloc t=>
  simp only[aJ]at h;split at h
  ·exact cM.val (Gh B h)
  exact cM.val (Gg B h)
 |box t x=>
  simp only[aJ]at h;split at h
  ·exact cM.val (Il B h (D x xB))
  exact cM.val (Ik B h (D x xB))
 |build t parts=>
  simp only[aJ]at h
  have:=Gm (P:=P) (vs:=parts.toList.map fun p=>(p.1,ρ' p.2)) B h (fun f U=>q t f U) kg (by
   simp only[aeQ]
   exact aN.i6 _ _ _ fun p hp=>D p.2 agn)
  exact arG
 |buildSlice t n parts=>
  simp only[aJ]at h
  have:=ET (P:=P) (vs:=parts.toList.map fun p=>(p.1,ρ' p.2)) B h kg (by
   simp only[aeQ]
   exact aN.i6 _ _ _ fun p hp=>D p.2 agn)
  exact arG
 |load t a=>exact cM.val (Hb B h (D a xB))
 |store t a v=>
  obtain⟨rfl,j⟩:=Gi (P:=P) B h (D a xB) (D v xB);exact cM.unit j
 |nilCheck x=>
  simp only[aJ]at h;have M:=D x xB;obtain⟨rfl,rfl,Q⟩:=E' h M;refine⟨.value (ρ' x),ρ' x,w,A,S,?_,.inl rfl,M,B,Ext.refl⟩
  rcases Q with⟨a,e⟩|⟨f,a,b,e⟩|⟨l,e⟩<;>simp[execOp,e]
 |binOp op t x y g=>exact cM.val (In B h (D x xB) (D y xB))
 |unOp op t x=>
  simp only[aJ]at h;split at h
  ·rename_i v Q;split at h
   ·rename_i C E;simp at h;obtain⟨rfl,rfl⟩:=h;have:=fl Q (D x xB);refine cM.val (s:=Op.unary op (ρ' x)) ?_;rw[this];exact iW B E
   simp at h
  simp at h
 |convert s d x=>
  simp only[aJ]at h;have M:=D x xB;split at h
  ·rename_i b o C;rw[C]at M;exact cM.val (FE B h M)
  exact cM.val (Hf B h M)
 |makeInterface t x=>exact cM.val (Gl B h (D x xB))
 |makeFunc fn first captured=>
  simp only[aJ]at h;have:=He (P:=P) B h (aN.i6 ρ ρ' first.toList fun x M=>D x agV) (aN.i6 ρ ρ' captured.toList fun x M=>D x agV);have C:(first.toList.map ρ').toArray=first.map ρ':=by apply aaP;simp
  have E:(captured.toList.map ρ').toArray=captured.map ρ':=by apply aaP;simp
  rw[C,E]at this;exact cM.val this
 |makeMap t r=>
  cases r with
  |none=>
   simp[aJ]at h;obtain⟨rfl,rfl⟩:=h;exact cM.val (FD B t)
  |some r=>simp[aJ]at h
 |makeSlice t l c=>exact cM.val (E3 B h (D l xB) (D c xB))
 |slice t x lo hi mx=>
  simp only[aJ]at h;refine cM.val (Gq (P:=P) (vl:=lo.map ρ') (vh:=hi.map ρ') (vm:=mx.map ρ') B h (D x xB) ?_ s_ ?_ s_ ?_ s_)
  ·intro y u F H;cases lo with
   |none=>simp at F
   |some a=>simp at F H;subst F H;exact D a xB
  ·intro y u F H;cases hi with
   |none=>simp at F
   |some a=>simp at F H;subst F H;exact D a xB
  intro y u F H;cases mx with
  |none=>simp at F
  |some a=>simp at F H;subst F H;exact D a xB
 |fieldAddr s x f=>exact cM.val (EZ B h (D x xB))
 |field t x f=>exact cM.val (Gj B h (D x xB))
 |indexAddr t x R=>exact cM.val (E0 B h (D x xB) (D R xB))
 |index t x R=>exact cM.val (Gp B h (D x xB) (D R xB))
 |lookup t x k ok=>exact cM.val (FC B h (D x xB) (D k xB))
 |extract t i=>
  simp only[aJ]at h;split at h
  ·rename_i vs Q;split at h
   ·rename_i y hy;simp at h;obtain⟨rfl,rfl⟩:=h;have I:=D t xB;rw[Q]at I;obtain⟨J,e,_,K⟩:=I;obtain⟨u,F,H⟩:=K i y hy;refine cM.val (s:=Instr.extract (ρ' t) i) (a7.still B (v:=u) ?_ H);simp[Instr.extract,e,F]
   simp at h
  simp at h
 |mapUpdate t m k x=>
  exact aol
 |insert t m k x=>
  exact aol
 |range t x=>
  simp only[aJ]at h;split at h
  ·rename_i s j M;simp at h;obtain⟨rfl,rfl⟩:=h;have W:=D x xB;rw[M]at W;have X:ρ' x= .string s:=by
    generalize ρ' x=v at W;cases W;rfl
   refine cM.val (s:=Instr.range t (ρ' x)) ?_;rw[X];exact Hi B j
  simp at h
 |next it b=>
  cases b with
  |false=>simp[aJ]at h
  |true=>exact cM.val (Hj B h (D it xB))
 |call c=>
  obtain⟨callee,args,argTypes⟩:=c;cases callee with
  |value f=>simp[aJ]at h
  |invoke r m=>simp[aJ]at h
  |builtin b=>
   have I:aN A S w (args.toList.map ρ) (args.toList.map ρ'):=aN.i6 ρ ρ' args.toList fun x M=>D x aup;have J:∀(s:Sem Value),(∀K,builtin b argTypes type K (args.map ρ')=(do pure (.value (<- s)):Sem Next))->a7 P G A S L w s r z->cM P G A S L w (execOp ρ' ⟨dst,.call ⟨.builtin b,args,argTypes⟩,type,pos,after,guard⟩) r z:=by
    intro s e Q;obtain⟨K,v,w',O,S',N,U⟩:=cM.val Q;refine⟨K,v,w',O,S',?_,U⟩;simp only[execOp,resolve,Sem.run_bind,Sem.run_pure,Result.andThen_ok,invoke];rw[e];exact N
   have V:args.map ρ'=(args.toList.map ρ').toArray:=by apply aaP;simp
   cases b with
   |unsafeSliceData=>
    simp only[aJ]at h;exact J _ (fun c=>by rw[V];rfl) (E5 B h I)
   |unsafeString=>
    simp only[aJ]at h;exact J _ (fun c=>by rw[V];rfl) (E6 B h I)
   |cap=>
    simp only[aJ]at h;exact J _ (fun c=>by rw[V];rfl) (Ip B h I)
   |append=>
    simp only[aJ]at h;generalize W:args.toList.map ρ=rs at h I;generalize X:args.toList.map ρ'=vs at I V;split at h
    ·match rs,h,I with
     | [a,b],h,I=>
      obtain⟨v,Y,rfl,F,H⟩:=I.dc;obtain⟨u,Z,rfl,ap,aw⟩:=H.dc;have:=aw.dR;subst this;exact J _ (fun c=>by rw[V];rfl) (FG B h F ap)
     | [],h,_=>simp[dM]at h
     | [_],h,_=>simp[dM]at h
     |_::_::_::_,h,_=>simp[dM]at h
    match rs,h,I with
    | [a,b],h,I=>
     obtain⟨v,Y,rfl,F,H⟩:=I.dc;obtain⟨u,Z,rfl,ap,aw⟩:=H.dc;have:=aw.dR;subst this;exact J _ (fun c=>by rw[V];rfl) (FB B h F ap)
    | [],h,_=>simp[aV]at h
    | [_],h,_=>simp[aV]at h
    |_::_::_::_,h,_=>simp[aV]at h
   |len=>
    simp only[aJ]at h;generalize W:args.toList.map ρ=rs at h I;generalize X:args.toList.map ρ'=vs at I V
    match rs,h,I with
    | [a],h,I=>
     obtain⟨v,Y,rfl,F,H⟩:=I.dc;have:=H.dR;subst this;exact J _ (fun c=>by rw[V];rfl) (J_ B h F)
    | [],h,_=>simp[aV]at h
    |_::_::_,h,_=>simp[aV]at h
   |copy=>
    simp only[aJ]at h;generalize W:args.toList.map ρ=rs at h I;generalize X:args.toList.map ρ'=vs at I V
    match rs,h,I with
    | [a,b],h,I=>
     obtain⟨v,Y,rfl,F,H⟩:=I.dc;obtain⟨u,Z,rfl,ap,aw⟩:=H.dc;have:=aw.dR;subst this;exact J _ (fun c=>by rw[V];rfl) (Io B h F ap)
    | [],h,_=>simp[aV]at h
    | [_],h,_=>simp[aV]at h
    |_::_::_::_,h,_=>simp[aV]at h
   |min=>
    simp only[aJ]at h;exact J _ (fun c=>by rw[V];rfl) (x9 (b:= .min) B (.inl rfl) h I)
   |max=>
    simp only[aJ]at h;exact J _ (fun c=>by rw[V];rfl) (x9 (b:= .max) B (.inr rfl) h I)
   |_=>simp[aJ,aV]at h
 |_=>simp[aJ]at h
end
def Fr(b:Frame)(t:Array Value)(todo:pA):Frame:={b with tmps:=t,todo:=todo,mode:= .run}
def bx(t:Array Value):Operand->Value
 | .tmp i=>t.getD i undef
 | .const v=>v
 | .global g=> .pointer (some ⟨g,0,none⟩)
 | .func f=> .func (.func f) #[] #[]
def il(t:Array Value)(dst:Option Tmp)(v:Value):Array Value:=
 match dst with
 |some d=>t.setIfInBounds d v
 |none=>t
section
variable {P:lB} {b:Frame} {t:Array Value} {k:pA} {cs:BY} {w w':World} {ops:Array Oper}
def At(b:Frame)(t:Array Value)(todo:pA):(Fr b t todo).eval=bx t:=by rfl
def Au:step P (lone (Fr b t (.code .skip::k)) cs w)= .next (lone (Fr b t k) cs w):=Eo (by rfl)
def zw{l:Nat}:step P (lone (Fr b t (.code (.label l)::k)) cs w)= .next (lone (Fr b t k) cs w):=Eo (by rfl)
def tF{e:Nat}:step P (lone (Fr b t (.inBlock e::k)) cs w)= .next (lone (Fr b t k) cs w):=Eo (by rfl)
def jW{x y:Code}:step P (lone (Fr b t (.code (.seq x y)::k)) cs w)= .next (lone (Fr b t (.code x:: .code y::k)) cs w):=Eo (by rfl)
def Av{c:Operand}{x y:Code}{u:Bool}(h:bx t c= .bool u):step P (lone (Fr b t (.code (.cond c x y)::k)) cs w)= .next (lone (Fr b t (.code (if u then x else y)::k)) cs w):=
 Eo (by
  have:=congrFun (At b t (.code (.cond c x y)::k)) c;simp only[Fr]at this
  simp[stepG,stepG.exec,Fr,this,h])
def uf{e:Nat}{c:Code}:step P (lone (Fr b t (.code (.block e c)::k)) cs w)= .next (lone (Fr b t (.code c:: .inBlock e::k)) cs w):=Eo (by rfl)
def Ax{c:Code}:step P (lone (Fr b t (.code (.loop c)::k)) cs w)= .next (lone (Fr b t (.code c:: .inLoop c::k)) cs w):=Eo (by rfl)
def yb{c:Code}:step P (lone (Fr b t (.inLoop c::k)) cs w)= .next (lone (Fr b t (.code c:: .inLoop c::k)) cs w):=Eo (by rfl)
def uB{e:Nat}{G:pA}(h:exitTo e k=some G):step P (lone (Fr b t (.code (.exit e)::k)) cs w)= .next (lone (Fr b t G) cs w):=Eo (by simp[stepG,stepG.exec,Fr,h])
def nR{id:Nat}:step P (lone (Fr b t (.code (.region id ops false)::k)) cs w)= .next (lone (Fr b t (.inRegion ops (List.range ops.size)::k)) cs w):=Eo (by rfl)
def Ay{e:Nat}:step P (lone (Fr b t (.code (.region e ops true)::k)) cs w)= .next (lone (Fr b t (.inRegion ops (Region.schedule (P.follows .mixedOrders) ops (w.tape w.drawn (.order b.fn e)))::k)) cs {w with drawn:=w.drawn+1}):=
 Eo (by rfl)
def iJ:step P (lone (Fr b t (.inRegion ops []::k)) cs w)= .next (lone (Fr b t k) cs w):=Eo (by rfl)
def l5(i:Nat)(m:ak)(v:Value):(Fr b t (.inRegion ops (i::m)::k)).finish v=Fr b (il t ((ops[i]?).bind (·.dst)) v) (.inRegion ops m::k):=by rfl
def qm{i:Nat}{rest:ak}(h:((ops[i]?).map (Region.wanted · (yielded ops t))).getD false=false): step P (lone (Fr b t (.inRegion ops (i::rest)::k)) cs w)= .next (lone (Fr b (il t ((ops[i]?).bind (·.dst)) undef) (.inRegion ops rest::k)) cs w):=by
 rw[<- l5]
 exact Eo (by
  have V:=h;simp only[Fr]at*
  simp[stepG,stepG.exec,V])
def iX:Op->Bool
 | .defer _=>false
 |_=>true
def n4{i:Nat}{m:ak}{o:Oper}(z:ops[i]? =some o)(u:Region.wanted o (yielded ops t)=true)(T:iX o.op=true): stepG P true {frame:=Fr b t (.inRegion ops (i::m)::k),callers:=cs,status:= .running,dying:=none} w= stepG.apply P true (Fr b t (.inRegion ops (i::m)::k)) cs none (execOp (bx t) o) w:=by have he:=At b t (.inRegion ops (i::m)::k);simp only[Fr]at he;simp only[stepG,stepG.exec,stepG.oper,Frame.oper?,Fr,z,u,acF,aaQ,if_true,he];cases C:b.roundOf with| none=>rfl|some l=>(cases U:o.op<;>first| rfl|(simp[iX,U]at T))
def iN{i:Nat}{m:ak}{o:Oper}(z:ops[i]? =some o)(u:Region.wanted o (yielded ops t)=true)(T:iX o.op=true){v:Value}(C:(execOp (bx t) o).run P w= .ok (.value v) w'):step P (lone (Fr b t (.inRegion ops (i::m)::k)) cs w)= .next (lone (Fr b (il t o.dst v) (.inRegion ops m::k)) cs w'):=by have U:=l5 (b:=b) (t:=t) (k:=k) (ops:=ops) i m v;exact as1
def Gr{i:Nat}{m:ak}{o:Oper}(z:ops[i]? =some o)(u:Region.wanted o (yielded ops t)=true)(T:iX o.op=true)(C:(execOp (bx t) o).run P w= .ok .skip w'):step P (lone (Fr b t (.inRegion ops (i::m)::k)) cs w)= .next (lone (Fr b (il t o.dst undef) (.inRegion ops m::k)) cs w'):=by have U:=l5 (b:=b) (t:=t) (k:=k) (ops:=ops) i m undef;exact as1
def FH{i:Nat}{m:ak}{o:Oper}(z:ops[i]? =some o)(u:Region.wanted o (yielded ops t)=true)(T:iX o.op=true){f:FuncId}{args:Array Value}
  (C:(execOp (bx t) o).run P w= .ok (.enter f args) w'):step P (lone (Fr b t (.inRegion ops (i::m)::k)) cs w)= .next (lone (Frame.enter P f args .normal) (Fr b t (.inRegion ops (i::m)::k)::cs) w'):=
 Eo (by rw[n4 z u T];simp[stepG.apply,C,Fr])
def FI{i:Nat}{m:ak}{o:Oper}(z:ops[i]? =some o)(u:Region.wanted o (yielded ops t)=true)(T:iX o.op=true){l f:Nat}{K:Array Value}{M body:Code}
  (C:(execOp (bx t) o).run P w= .ok (.round l f K M body) w'):step P (lone (Fr b t (.inRegion ops (i::m)::k)) cs w)= .next (lone (Frame.round l f K M body .normal) (Fr b t (.inRegion ops (i::m)::k)::cs) w'):=
 Eo ans
def rB(d:b.roundOf=none):step P (lone (Fr b t (.code .ret::k)) cs w)= .next (lone {Fr b t (.code .ret::k) with mode:= .returning} cs w):=Eo avA
def Bc(d:b.roundOf=none):step P (lone (Fr b t []) cs w)= .next (lone {Fr b t []with mode:= .returning} cs w):=Eo avA
def Fl{fr:Frame}{D:Nat}{ds:List Deferred}(T:fr.mode= .returning)(U:fr.defers={target:= .collected D,args:=#[]}::ds)(n:w.heap[D]? =some (.deferred (some []))): step P (lone fr cs w)= .next (lone {fr with defers:=ds} cs (bs w D (.deferred none))):=by(apply Eo;have E:(Instr.takeDeferred D).run P w= .ok [] (bs w D (.deferred none)):=by simp[Instr.takeDeferred,getObj,setObj,Sem.run,n];rfl);simp only[stepG,T,unwind,U,YT,E,YU,List.nil_append];rfl
end
def aQ(regs:eG):Operand->RV
 | .tmp i=>regs.getD i bl
 | .const v=>(g8 v).getD bl
 | .global g=>atR (.pointer (some ⟨g,0,none⟩))
 | .func f=>atR (.func (.func f) #[] #[])
def eY:Operand->Bool
 | .const v=>(g8 v).isSome
 |_=>true
def cR(o:Oper):Bool:=o.op.operands.toList.all eY
def aT(regs:eG)(dst:Option Tmp)(r:RV):eG:=
 match dst with
 |some d=>regs.set d r
 |none=>regs
inductive dw where
 |fn (f:FuncId)
 |yl (b:Nat)
def cL(f:RV)(args:eG):Option (dw×eG):=
 match f with
 | .v (.one (.p (.vl (.func (.func f) first captured))))=>match ba g8 first.toList,ba g8 captured.toList with
  |some a,some b=>some (.fn f,a++args++b)
  |_,_=>none
 | .v (.one (.fn f M))=>match Nat.blt f mK with
  |true=>some (.fn f,args++M.map fun p=> .v (.one (.ref p.1 p.2)))
  |false=>some (.fn (f - mK),(M.map fun p=> .v (.one (.ref p.1 p.2)))++args)
 | .v (.one (.aI b))=>some (.yl b,args)
 |_=>none
inductive Ex where
 |normal
 |exit (id:Nat)
 |ret
abbrev r2:=dw->eG->ag->(RV->ag->Prop)->Prop
def k6(r:Array Oper)(regs:eG)(g:Nat×Bool):Option Bool:=
 match (r[g.1]?).bind (·.dst) with
 |none=>some false
 |some d=>match regs[d]? with
  |none=>some false
  |some (.v (.one (.p (.vl (.bool b)))))=>some (b==g.2)
  |some (.ab [])=>some false
  |_=>none
def eQ(P:lB)(T:aq)(G:az)(E:r2)(o:Oper)(st:St)(K:St->Prop):Prop:=
 match cR o with
 |false=>False
 |true=>match o.op with
  | .call {callee:= .value f,args,..}=>match cL (aQ st.regs f) (args.toList.map (aQ st.regs)) with
   |some (c,M)=>E c M st.hp fun r hp=>K ⟨aT st.regs o.dst r,hp⟩
   |none=>False
  |_=>match aJ P T G (aQ st.regs) o st.hp with
   |some (r,hp)=>K ⟨aT st.regs o.dst r,hp⟩
   |none=>False
def fB(P:lB)(T:aq)(G:az)(E:r2)(r:Array Oper):List Oper->St->(St->Prop)->Prop
 | [],st,Q=>Q st
 |o::rest,st,Q=>match o.guard with
  |none=>eQ P T G E o st fun st'=>fB P T G E r rest st' Q
  |some g=>match k6 r st.regs g with
   |some c=>(c=true->eQ P T G E o st fun st'=>fB P T G E r rest st' Q)/\(c=false->fB P T G E r rest ⟨aT st.regs o.dst bl,st.hp⟩ Q)
   |none=>False
def mJ(F:St->(Ex->St->Prop)->Prop)(Q:Ex->St->Prop):Nat->St->Prop
 | 0,_=>False
 |n+1,st=>F st fun e st'=>match e with
  | .normal=>mJ F Q n st'
  | .exit i=>Q (.exit i) st'
  | .ret=>Q .ret st'
def ki:Option Code->Option Ex
 |none=>some .normal
 |some .ret=>some .ret
 |some (.exit id)=>some (.exit id)
 |_=>none
def dQ(P:lB)(T:aq)(G:az)(E:r2)(D:Array Oper->St->(St->Prop)->Prop)(fn:FuncId)(h:Bool):Code->St->(Ex->St->Prop)->Prop
 | .skip,st,Q=>Q .normal st
 | .label _,st,Q=>Q .normal st
 | .region _ ops false,st,Q=>fB P T G E ops ops.toList st (Q .normal)
 | .region _ ops true,st,Q=>D ops st (Q .normal)
 | .seq a b,st,Q=>dQ P T G E D fn h a st fun e st'=>match e with
  | .normal=>dQ P T G E D fn h b st' Q
  | .exit i=>Q (.exit i) st'
  | .ret=>Q .ret st'
 | .cond c x y,st,Q=>match aQ st.regs c with
  | .v (.one (.p (.vl (.bool b))))=>(b=true->dQ P T G E D fn h x st Q)/\(b=false->dQ P T G E D fn h y st Q)
  |_=>False
 | .block id c,st,Q=>dQ P T G E D fn h c st fun e st'=>match e with
  | .normal=>Q .normal st'
  | .exit i=>if i=id then Q .normal st' else Q (.exit i) st'
  | .ret=>Q .ret st'
 | .loop c,st,Q=>∃n,mJ (dQ P T G E D fn h c) Q n st
 | .exit id,st,Q=>Q (.exit id) st
 | .ret,st,Q=>Q .ret st
 | .rangeFunc f params assign body,st,Q=>h=false/\eY f=true/\
  match cL (aQ st.regs f) [.v (.one (.aI st.hp.length))]with
  |some (.fn g,M)=>E (.fn g) M (st.hp++[.loop {fn:=fn,regs:=st.regs,params:=params.toList,assign:=assign,body:=body,state:= .ready,pending:=none}]) fun _ hp=>
   match hp[st.hp.length]? with
   |some (.loop r)=>r.state≠.busy/\match ki r.pending with
    |some e=>Q e ⟨st.regs,hp.set st.hp.length .gone⟩
    |none=>False
   |_=>False
  |_=>False
 |_,_,_=>False
section
variable {P:lB} {T:aq} [aG P T] {G:az} {A:Nat->Prop} {S:ay} {L:ag} {w:World}
def gh{regs:eG}{t:Array Value}(h:bL A S w regs t){x:Operand}(M:eY x=true):aD A S w (aQ regs x) (bx t x):=by cases x with| tmp i=>simp only[aQ,bx];by_cases hi:i<regs.length;{obtain⟨v,j,k⟩:=h.2 i regs[i] (v9 hi);exact kg};(have hle:regs.length<=i:=Nat.le_of_not_lt hi;have j:regs.getD i bl=bl:=by rw[VS,Yf hle];rfl);(have k:t.getD i undef=undef:=by have:t[i]? =none:=aic (by rw[h.1];exact hle);simp[this]);rw[j,k];exact jC|const v=>simp only[eY]at M;obtain⟨r,C⟩:=ahZ.1 M;simp only[aQ,bx,C,aaQ];exact qk C|global g=>exact bG.vl _ rfl|func f=>exact bG.vl _ rfl
def qo{o:Oper}(h:cR o=true):∀x∈o.op.operands,eY x=true:=by intro x M;exact LA.1 h x (acz.2 M)
def bL.put{regs:eG}{t:Array Value}(h:bL A S w regs t){dst:Option Tmp}{r:RV}{v:Value}(C:aD A S w r v):bL A S w (aT regs dst r) (il t dst v):=by cases dst with| none=>exact h|some d=>refine⟨by simp[aT,il,h.1],fun i x y=> ?_⟩;simp only[aT]at y;simp only[il];by_cases n:i=d;{(subst n;have K:i<regs.length:=by have:=(se.1 y).1;simpa using this);rw[Yb K]at y;simp at y;subst y;refine⟨v,?_,C⟩;rw[Array.getElem?_setIfInBounds_self_of_lt (by rw[h.1];exact K)]};rw[Vt (Ne.symm n)]at y;obtain⟨u,j,k⟩:=h.2 i x y;grind
def yc{regs:eG}{t:Array Value}(h:bL A S w regs t){ops:Array Oper}{o:Oper}{g:Nat×Bool}{c:Bool}(x:o.guard=some g)(e:k6 ops regs g=some c): Region.wanted o (yielded ops t)=c:=by obtain⟨j,s⟩:=g;unfold k6 at e;unfold Region.wanted yielded;simp only[x];simp only at e;cases hd:(ops[j]?).bind (·.dst) with| none=>exact kg|some d=>(simp only[hd]at e;simp only[YV];cases C:regs[d]? with| none=>(simp only[C]at e;simp at e;subst e;have:t[d]? =none:=by rw[aic];have:=List.getElem?_eq_none_iff.1 C;rw[h.1];exact this);simp[this]|some r=>simp only[C]at e;obtain⟨v,i,k⟩:=h.2 d r C;simp only[i];split at e;{exact kg};{rename_i b heq;cases heq;simp at e;subst e;cases k;simp};{rename_i heq;cases heq;simp at e;subst e;obtain⟨vs,rfl,_⟩:=k;simp};simp at e)
end
section
variable {P:lB} {T:aq} [aG P T] {G:az}
def lh(P:lB)(G:az)(A:Nat->Prop)(S:ay)(L:ag)(w:World)(fr:Frame)(Q:RV->ag->Prop):Prop:=
 ∀(c:Frame)(cs:BY),∃r n v O S' w',Q r n/\Steps P (lone fr (c::cs) w) (lone (c.finish v) cs w')/\aD O S' w' r v/\al G O S' n w'/\Ext A S L w O S' n w'
def R'(P:lB)(G:az)(f:FuncId)(args:eG)(L:ag)(Q:RV->ag->Prop):Prop:=
 ∀A S w vs,al G A S L w->aN A S w args vs->∃r n v O S' w',Q r n/\(callFunc f vs.toArray).run P w= .ok (.value v) w'/\aD O S' w' r v/\al G O S' n w'/\Ext A S L w O S' n w'
def am(P:lB)(G:az):r2:=fun c args L Q=>
 match c with
 | .fn f=>((∃fn,P.funcs[f]? =some fn/\fn.body.isSome=true/\fn.name≠ "runtime.NumGoroutine")/\∀A S w vs,al G A S L w->aN A S w args vs->lh P G A S L w (Frame.enter P f vs.toArray .normal) Q)\/R' P G f args L Q
 | .yl b=>(∃r,L[b]? =some (.loop r))/\∀A S w vs B d q,al G A S L w->aN A S w args vs->S b=some (B,d)->w.heap[B]? =some (.loop q)->vs.length=q.params.size/\
   lh P G A S L w (Frame.round B q.fn ((q.params.zip vs.toArray).foldl (fun K (x,a)=>K.setIfInBounds x a) q.tmps) q.assign q.body .normal) Q
def lh.mono{A:Nat->Prop}{S:ay}{L:ag}{w:World}{fr:Frame}{Q T:RV->ag->Prop}(h:lh P G A S L w fr Q)(M:∀r L,Q r L->T r L):lh P G A S L w fr T:=
 fun c cs=>let ⟨r,n,v,O,S',w',q,rest⟩:=h c cs;⟨r,n,v,O,S',w',M _ _ q,rest⟩
structure Bs where
 n:Nat
 tl:List Deferred
def Marks(A:Nat->Prop)(S:ay)(L:ag)(w:World)(base:Bs)(B:List Deferred):Prop:=
 ∃C,B=C++base.tl/\C.Pairwise (fun x y=>x.target≠y.target)/\∀d∈C,∃D,d={target:= .collected D,args:=#[]}/\base.n<=D/\w.heap[D]? =some (.deferred (some []))/\¬ch S L D/\¬A D
variable {A:Nat->Prop} {S:ay} {L:ag} {w:World}
def aN.append{a b:eG}{z t:List Value}(h:aN A S w a z)(i:aN A S w b t):aN A S w (a++b) (z++t):=by induction a generalizing z with| nil=>rw[h.dR];simpa using i|cons x a d=>obtain⟨v,T,rfl,k,l⟩:=h.dc;exact aN.cons k (d l)
def nJ:∀{vs:List Value}{rs:eG},ba g8 vs=some rs->aN A S w rs vs
 | [],rs,h=>by simp[ba]at h;subst h;exact aN.nil
 |v::vs,rs,h=>by
  simp only[ba]at h;split at h
  ·rename_i y x h1 h2;simp at h;subst h;exact aN.cons (qk h1) (nJ h2)
  simp at h
def ta{f:FuncId}{fn:Func}{args:Array Value}(h:P.funcs[f]? =some fn)(i:fn.body.isSome=true) (j:fn.name≠ "runtime.NumGoroutine"):(callFunc f args).run P w= .ok (.enter f args) w:=by(have hb:¬(fn.body=none):=by grind);simp[callFunc,h,hb,j]
def Hk{o:Oper}{f:Operand}{args:Array Operand}{c:Array TypeId}(U:o.op= .call {callee:= .value f,args:=args,argTypes:=c}){regs:(List RV)}{t:Array Value}{g:FuncId}{M:(List RV)}(C:bL A S w regs t)(e:cR o=true)(h:cL (aQ regs f) (args.toList.map (aQ regs))=some (.fn g,M)): ∃vs:List Value,(execOp (bx t) o).run P w=(callFunc g vs.toArray).run P w/\aN A S w M vs:=by(have hm:=qo e;rw[U]at hm;simp only[Op.operands,Call.operands]at hm;have T:=gh C (hm f s_);have D:aN A S w (args.toList.map (aQ regs)) (args.toList.map (bx t)):=aN.i6 _ _ _ fun x N=>gh C (hm x (by simp_all));have j:(args.map (bx t)).toList=args.toList.map (bx t):=by simp);(have k:execOp (bx t) o=(do let d <- resolve (bx t) {callee:= .value f,args:=args,argTypes:=c} o.type;invoke d.target d.args):=by obtain⟨dst,op,type,pos,after,guard⟩:=o;simp only at U;subst U;rfl);rw[k];generalize aQ regs f=O at h T;generalize l:bx t f=vf at T;unfold cL at h;split at h;{(rename_i u first captured);split at h;{rename_i a b h1 h2;simp only[Option.some.injEq,Prod.mk.injEq,dw.fn.injEq]at h;obtain⟨rfl,rfl⟩:=h;cases T;refine⟨first.toList++args.toList.map (bx t)++captured.toList,?_,(aN.append (aN.append (nJ h1) D) (nJ h2))⟩;simp only[Sem.run_bind,resolve,l,Deferred.ofValue,Sem.run_pure,Result.andThen_ok,invoke];congr 2;simp_all};simp at h};{(rename_i u Q;obtain⟨y,rfl,z,hp⟩:=T;have m:aN A S w (Q.map fun p=> .v (.one (.ref p.1 p.2))) y:=by refine⟨by simp[z],fun i r E=> ?_⟩;simp only[List.getElem?_map,Option.map_eq_some_iff]at E;obtain⟨⟨n,q⟩,R,rfl⟩:=E;obtain⟨B,d,s,F⟩:=hp i n q R;exact⟨_,F,B,d,s,rfl⟩);unfold jd at l;split at h;{rename_i K;simp only[K]at l;simp at h;obtain⟨rfl,rfl⟩:=h;refine⟨args.toList.map (bx t)++y,?_,aN.append D m⟩;simp only[Sem.run_bind,resolve,l,Deferred.ofValue,Sem.run_pure,Result.andThen_ok,invoke];congr 2;simp_all};rename_i K;simp only[K]at l;simp at h;obtain⟨rfl,rfl⟩:=h;refine⟨y++args.toList.map (bx t),?_,aN.append m D⟩;simp only[Sem.run_bind,resolve,l,Deferred.ofValue,Sem.run_pure,Result.andThen_ok,invoke];congr 2;simp_all};all_goals simp_all
def Hl{o:Oper}{f:Operand}{args:Array Operand}{b:Array TypeId}(U:o.op= .call {callee:= .value f,args:=args,argTypes:=b}){regs:eG}{t:Array Value}{c:Nat}{M:eG}(C:bL A S w regs t)(g:cR o=true)(h:cL (aQ regs f) (args.toList.map (aQ regs))=some (.yl c,M)): ∃(vs:List Value)(B d:Nat),S c=some (B,d)/\aN A S w M vs/\∀q,w.heap[B]? =some (.loop q)->vs.length=q.params.size-> (execOp (bx t) o).run P w= .ok (.round B q.fn ((q.params.zip vs.toArray).foldl (fun K (x,a)=>K.setIfInBounds x a) q.tmps) q.assign q.body) w:=by(have hm:=qo g;rw[U]at hm;simp only[Op.operands,Call.operands]at hm;have T:=gh C (hm f s_);have D:aN A S w (args.toList.map (aQ regs)) (args.toList.map (bx t)):=aN.i6 _ _ _ fun x N=>gh C (hm x kg);have i:execOp (bx t) o=(do let d <- resolve (bx t) {callee:= .value f,args:=args,argTypes:=b} o.type;invoke d.target d.args):=by exact aug);rw[i];generalize aQ regs f=O at h T;generalize j:bx t f=vf at T;unfold cL at h;split at h;{grind};{grind};{(rename_i k;simp at h;obtain⟨rfl,rfl⟩:=h;obtain⟨B,d,r,rfl⟩:=T;refine⟨args.toList.map (bx t),B,d,r,D,fun q l v=> ?_⟩;have y:(getObj B).run P w= .ok (.loop q) w:=by simp[getObj,Sem.run,l]);(have e:(args.map (bx t))=(args.toList.map (bx t)).toArray:=by apply aaP;simp);(have s:¬((args.toList.map (bx t)).toArray.size≠q.params.size):=by simp at v |-;exact v);simp only[Sem.run_bind,resolve,j,Deferred.ofValue,Sem.run_pure,Result.andThen_ok,invoke,e,Array.empty_append,Instr.yield,Instr.getLoop,y,Sem.run_ite,s,w4]};simp at h
def Steps.cG{m g:Machine}(h:step P m= .next g):Steps P m g:=Go.Steps.one h
def qq(l:bf T){ops:Array Oper}{i:Nat}{rest:ak}{o:Oper}{b:Frame}{t:Array Value}{k:pA}{cs:BY}{st:St}{K:St->Prop}(z:ops[i]? =some o)(u:Region.wanted o (yielded ops t)=true)(C:al G A S st.hp w)(E:bL A S w st.regs t)(h:eQ P T G (am P G) o st K): ∃st' U O S' w',K st'/\Steps P (lone (Fr b t (.inRegion ops (i::rest)::k)) cs w) (lone (Fr b U (.inRegion ops rest::k)) cs w')/\bL O S' w' st'.regs U/\al G O S' st'.hp w'/\Ext A S st.hp w O S' st'.hp w':=by unfold eQ at h;split at h;{exact h.elim};rename_i e;split at h;{(rename_i f args j V;have p:iX o.op=true:=by rw[V];rfl);(have m:∀v,(Fr b t (.inRegion ops (i::rest)::k)).finish v=Fr b (il t o.dst v) (.inRegion ops rest::k):=by intro v;rw[l5,z];rfl);split at h;{rename_i c M hc;cases c with| fn g=>obtain⟨vs,a,y⟩:=Hk (P:=P) (w:=w) V E e hc;(rcases h with⟨⟨fn,n,q,s⟩,F⟩|N);{obtain⟨r,H,v,O,S',w',W,I,J,Y,L⟩:=F A S w vs C y (Fr b t (.inRegion ops (i::rest)::k)) cs;rw[m]at I;exact⟨_,_,O,S',w',W,.head (FH z u p (a.trans (ta n q s))) I,(C.ey L E).put J,Y,L⟩};obtain⟨r,H,v,O,S',w',W,I,J,Y,L⟩:=N A S w vs C y;exact⟨_,_,O,S',w',W,Steps.cG (iN z u p (a.trans I)),(C.ey L E).put J,Y,L⟩|yl Q=>obtain⟨vs,B,d,X,y,a⟩:=Hl (P:=P) V E e hc;obtain⟨⟨R,Z⟩,F⟩:=h;obtain⟨ap,aw,tmps,D,a0,a1,a2⟩:=C.ob Q _ Z;rw[X]at a0;simp only[pB,q0]at a0;obtain⟨rfl,rfl⟩:=a0;obtain⟨a_,be⟩:=F A S w vs B d _ C y X a1;obtain⟨r,H,v,O,S',w',W,bo,J,Y,L⟩:=be (Fr b t (.inRegion ops (i::rest)::k)) cs;rw[m]at bo;exact⟨_,_,O,S',w',W,.head (FI z u p (a _ a1 a_)) bo,(C.ey L E).put J,Y,L⟩};exact h.elim};split at h;{(rename_i M r hp n;have p:iX o.op=true:=by cases V:o.op<;>first| rfl|(simp[aJ,V]at n));obtain⟨y,v,w',O,S',F,W,J,Y,H⟩:=J' (ρ':=bx t) l C (fun x N=>gh E (qo e x N)) n;refine⟨_,_,O,S',w',h,?_,(C.ey H E).put J,Y,H⟩;(rcases W with rfl|⟨rfl,rfl⟩);{exact Steps.cG (iN z u p F)};exact Steps.cG (Gr z u p F)};exact h.elim
def tP(m:bf T){ops:Array Oper}{b:Frame}{k:pA}{cs:BY}{Q:St->Prop}:
  ∀(l:List Oper)(i:Nat),ops.toList.drop i=l->∀{A:Nat->Prop}{S:ay}{w:World}{t:Array Value}{st:St},al G A S st.hp w->bL A S w st.regs t->fB P T G (am P G) ops l st Q->
  ∃st' U O S' w',Q st'/\Steps P (lone (Fr b t (.inRegion ops (List.range' i l.length)::k)) cs w) (lone (Fr b U k) cs w')/\bL O S' w' st'.regs U/\al G O S' st'.hp w'/\Ext A S st.hp w O S' st'.hp w'
 | [],i,hd,A,S,w,t,st,B,C,h=>⟨st,t,A,S,w,h,Steps.cG iJ,C,B,Ext.refl⟩
 |o::l,i,hd,A,S,w,t,st,B,C,h=>by
  have z:ops[i]? =some o:=by
   have:(ops.toList.drop i)[0]? =some o:=by rw[hd];rfl
   rw[List.getElem?_drop]at this
   simpa using this
  have d:ops.toList.drop (i+1)=l:=by
   rw[<- acG,hd];rfl
  have V:List.range' i (o::l).length=i::List.range' (i+1) l.length:=by simp[aeO]
  rw[V];have go:∀(u:Region.wanted o (yielded ops t)=true),eQ P T G (am P G) o st (fun st'=>fB P T G (am P G) ops l st' Q)->
    ∃st' U O S' w',Q st'/\Steps P (lone (Fr b t (.inRegion ops (i::List.range' (i+1) l.length)::k)) cs w) (lone (Fr b U k) cs w')/\bL O S' w' st'.regs U/\al G O S' st'.hp w'/\Ext A S st.hp w O S' st'.hp w':=by
   intro u W;obtain⟨N,v,D,X,x,Y,E,F,H,M⟩:=qq (b:=b) (k:=k) (cs:=cs) (rest:=List.range' (i+1) l.length) m z u B C W;obtain⟨R,y,I,Z,J,a,K,L,e,f⟩:=tP m l (i+1) d H F Y;exact⟨R,y,I,Z,J,a,E.trans K,L,e,M.trans f⟩
  simp only[fB]at h;split at h
  ·rename_i j;exact go (by simp[Region.wanted,j]) h
  rename_i g j;split at h
  ·rename_i c hc;have n:=yc C j hc;cases c with
   |true=>simp_all
   |false=>
    have p:=qm (P:=P) (b:=b) (t:=t) (k:=k) (cs:=cs) (w:=w) (ops:=ops) (i:=i) (rest:=List.range' (i+1) l.length) (by simp[z,n]);rw[z]at p;simp only[YV]at p;obtain⟨R,y,I,Z,J,a,K,L,e,f⟩:=tP (b:=b) (k:=k) (cs:=cs) m l (i+1) d (st:=⟨aT st.regs o.dst bl,st.hp⟩) B (C.put jC) (h.2 rfl);exact⟨R,y,I,Z,J,a,.head p K,L,e,f⟩
  exact h.elim
def gF(P:lB)(m:Machine)(b:Frame)(k:pA)(cs:BY):Ex->List Deferred->Array Value->World->Prop
 | .normal,ds,t,w=>Steps P m (lone (Fr {b with defers:=ds} t k) cs w)
 | .exit id,ds,t,w=>∃l,exitTo id l=exitTo id k/\Steps P m (lone (Fr {b with defers:=ds} t (.code (.exit id)::l)) cs w)
 | .ret,ds,t,w=>∃l,Steps P m (lone (Fr {b with defers:=ds} t (.code .ret::l)) cs w)
def gF.of_steps{m g:Machine}{b:Frame}{k:pA}{cs:BY}{e:Ex}{A:List Deferred}{t:Array Value}{w:World}(h:Steps P m g)(V:gF P g b k cs e A t w):gF P m b k cs e A t w:=by cases e with| normal=>exact h.trans V|exit id=>obtain⟨l,i,j⟩:=V;exact⟨l,i,h.trans j⟩|ret=>obtain⟨l,j⟩:=V;exact⟨l,h.trans j⟩
def eo(P:lB)(G:az)(base:Bs)(b:Frame)(k:pA)(cs:BY)(m:Machine)(A:Nat->Prop)(S:ay)(L:ag)(w:World)(Q:Ex->St->Prop):Prop:=
 ∃e st' U O S' w' B,Q e st'/\gF P m b k cs e B U w'/\bL O S' w' st'.regs U/\al G O S' st'.hp w'/\Ext A S L w O S' st'.hp w'/\Marks O S' st'.hp w' base B
def Marks.ext{S':ay}{n:(List Ob)}{w':World}{O:Nat->Prop}{base:Bs}{B:List Deferred}(h:Marks A S L w base B)(M:Ext A S L w O S' n w'):Marks O S' n w' base B:=by obtain⟨N,i,hp,h⟩:=h;refine⟨N,i,hp,fun d T=> ?_⟩;obtain⟨D,e,j,k,l,m⟩:=h d T;have K:=dg k;refine⟨D,e,j,by rw[M.aK D K l];exact k,fun z=>l (M.own D K z),fun I=> ?_⟩;(rcases M.down D I with h|h|h);all_goals grind
end
end Go.Sx
