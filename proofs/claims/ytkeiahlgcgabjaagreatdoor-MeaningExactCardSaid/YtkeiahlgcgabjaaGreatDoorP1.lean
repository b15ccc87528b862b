/- Part of MeaningExact. -/
import Derived.Laws.Cells
import Derived.Laws.Sem
import Derived.Laws.Tables
import Derived.Test.YtkeiahlgcgabjaaGreatDoorP0
set_option linter.all false
set_option maxRecDepth 1000000
set_option maxHeartbeats 0
namespace Go.Sx
def w_{P:Prop}(h:P:=by omega):P:=h
def k_{P:Prop}(h:P:=by kernel_rfl):P:=h
def a_{P:Prop}(h:P:=by assumption):P:=h
def d_{P:Prop}(h:P:=by decide):P:=h
def t_{P:Prop}(h:P:=by(try dsimp only);omega):P:=h
def s_{P:Prop}(h:P:=by simp):P:=h
def f_{P:Prop}(h:P:=by first| omega| decide):P:=h
def g_{P:Prop}(h:P:=by first| ((try dsimp only);omega)|((try dsimp only);(repeat' apply And.intro)<;>first| omega| rfl|assumption|(simp only[WJ,VP,WY,WZ,ZI,Wb];omega)|(simp only[WJ,VP,WY,WZ,ZI,Wb]at*;omega))):P:=h
def l_{P:Prop}(h:P:=by(repeat apply Exists.intro);first| exact rfl|((refine⟨rfl,?_⟩);(repeat' apply And.intro)<;>first| assumption|omega| rfl|exact .sl|exact .nil rfl|(simp;omega))|(exfalso;omega)):P:=h
def eI{α:Type}[DecidableEq α]{a b:α}(h:a≠b):(a !=b)=true:=bne_iff_ne.2 h
def b'{α:Type}[DecidableEq α]{a b:α}(h:¬a≠b):(a !=b)=false:=bne_eq_false_iff_eq.2 (Decidable.not_not.1 h)
structure aq where
 au:lA->Option TypeDesc
 info:lA->Option TypeInfo
 kz:lA->Bool:=fun _=>false
class aG(P:lB)(T:aq):Prop where
 au:∀t d,T.au t=some d->P.underlying t=some d
 info:∀t i,T.info t=some i->P.info? t=some i
inductive PV where
 |vl (v:Value)
 |sl (n:Nat) (cs:List PV)
inductive LV where
 |p (x:PV)
 |ref (b o:Nat)
 |aX (cs:List PV) (o:Nat)
 |ad (b o n z:Nat)
 |map (b:Nat)
 |fn (f:FuncId) (M:List (Nat×Nat))
 |aI (b:Nat)
 |gQ (t:lA) (b o:Nat)
def mK:Nat:=1000
inductive RW where
 |one (x:LV)
 |agg (xs:List LV)
inductive RV where
 |v (x:RW)
 |ab (xs:List RW)
structure LR where
 fn:FuncId
 regs:List RV
 params:List Tmp
 assign:Code
 body:Code
 state:LoopState
 pending:Option Code
inductive Ob where
 |cells (cs:List LV) (fz:Bool)
 |map (es:List (Value×RW))
 |iter (s:ByteArray) (pos:Nat)
 |loop (r:LR)
 |gone
 |tc (t:lA) (cs:List LV) (ro:Bool)
abbrev ag:=List Ob
abbrev eG:=List RV
abbrev lW:=List LV
abbrev rK:=List PV
structure St where
 regs:eG
 hp:ag
def bl:RV:= .ab []
def single:Value->Bool
 | .agg _=>false
 | .tuple _=>false
 |_=>true
def ba{α β:Type}(f:α->Option β):List α->Option (List β)
 | []=>some []
 |x::xs=>match f x,ba f xs with
  |some y,some w=>some (y::w)
  |_,_=>none
def atR(v:Value):RV:= .v (.one (.p (.vl v)))
def bi(P:lB){α:Type}:Sem α->Option α
 | .pure a=>some a
 | .program k=>bi P (k P)
 |_=>none
def xE{P:lB}{α:Type}:∀{s:Sem α}{a:α},bi P s=some a->∀w,s.run P w= .ok a w
 | .pure _,_,h,_=>by simp only[bi,pB]at h;subst h;rfl
 | .program k,_,h,w=>by simp only[bi]at h;simp only[Sem.run];exact xE h w
 | .load ..,_,h,_=>by simp[bi]at h
 | .store ..,_,h,_=>by simp[bi]at h
 | .new ..,_,h,_=>by simp[bi]at h
 | .shape ..,_,h,_=>by simp[bi]at h
 | .freeze ..,_,h,_=>by simp[bi]at h
 | .frozen ..,_,h,_=>by simp[bi]at h
 | .getObj ..,_,h,_=>by simp[bi]at h
 | .setObj ..,_,h,_=>by simp[bi]at h
 | .choose ..,_,h,_=>by simp[bi]at h
 | .sys ..,_,h,_=>by simp[bi]at h
 | .mark ..,_,h,_=>by simp[bi]at h
 | .halt ..,_,h,_=>by simp[bi]at h
def e7:LV->Option Value
 | .p (.vl v)=>some v
 |_=>none
def i3:lW->Option (List Value)
 | []=>some []
 |x::xs=>match e7 x,i3 xs with
  |some v,some vs=>some (v::vs)
  |_,_=>none
def bE:RV->Option Value
 | .v (.one x)=>e7 x
 | .v (.agg xs)=>(i3 xs).map fun l=> .agg l.toArray
 | .ab _=>none
def jD:List Value->Bool
 | []=>true
 |v::vs=>single v && jD vs
def g8:Value->Option RV
 | .agg cs=>if jD cs.toList then some (.v (.agg (cs.toList.map fun v=> .p (.vl v)))) else none
 | .tuple vs=>if jD vs.toList then some (.ab (vs.toList.map fun v=> .one (.p (.vl v)))) else none
 |v=>some (.v (.one (.p (.vl v))))
def gi:RV->Option (lW)
 | .v (.one x)=>some [x]
 | .v (.agg xs)=>some xs
 | .ab _=>none
def dO:RV->Option LV
 | .v (.one x)=>some x
 |_=>none
def ej(T:aq)(t:lA):Option Bool:=
 match T.au t with
 |some (.struct _)=>some true
 |some (.array _ _)=>some true
 |some _=>some false
 |none=>none
def a6(T:aq)(t:lA):Option Nat:=(T.info t).map (·.size)
def zeroOf(T:aq)(t:lA):Option (lW):=
 match T.info t with
 |some i=>match i.zero with
  |some v=>if jD v.cells.toList then some (v.cells.toList.map fun v=> .p (.vl v)) else none
  |none=>none
 |none=>none
def gg(k:Bool)(cs:lW):Option RV:=
 match k,cs with
 |true,cs=>some (.v (.agg cs))
 |false,[x]=>some (.v (.one x))
 |false,_=>none
def part{α:Type}(l:List α)(o n:Nat):Option (List α):=
 let r:=(l.drop o).take n
 if r.length=n then some r else none
def eM{α:Type}(l:List α)(o:Nat)(vs:List α):List α:=l.take o++vs++l.drop (o+vs.length)
abbrev az:=Nat->Option (List Value)
def fo(G:az)(hp:ag)(a:LV)(n:Nat):Option (lW):=
 match a with
 | .ref b o=>match hp[b]? with
  |some (.cells cs _)=>part cs o n
  |some (.tc _ cs _)=>part cs o n
  |_=>none
 | .aX cs o=>(part cs o n).map (·.map .p)
 | .p (.vl (.pointer (some ⟨g,o,none⟩)))=>match G g with
  |some vs=>(part vs o n).map (·.map fun v=> .p (.vl v))
  |none=>none
 |_=>none
def gj(hp:ag)(a:LV)(vs:lW):Option (ag):=
 match a with
 | .ref b o=>match hp[b]? with
  |some (.cells cs false)=>if o+vs.length<=cs.length then some (hp.set b (.cells (eM cs o vs) false)) else none
  |some (.tc t cs false)=>if o+vs.length<=cs.length then some (hp.set b (.tc t (eM cs o vs) false)) else none
  |some (.tc _ _ true)=>match vs with
   | []=>some hp
   |_=>none
  |_=>none
 |_=>none
def jb(L:Nat->Option (Nat×Nat))(cells:lW):List (Nat×RV)->Option (lW)
 | []=>some cells
 |(i,v)::rest=>
  match L i,gi v with
  |some (off,size),some vs=>
   if vs.length=size/\off+size<=cells.length then jb L (eM cells off vs) rest else none
  |_,_=>none
def em:RV->Option Int
 | .v (.one (.p (.vl (.int _ n))))=>some n
 |_=>none
def bounds(i:Nat)(L y:Option Int):Option (Nat×Nat):=
 let h:=y.getD i
 let l:=L.getD 0
 if 0<=l/\l<=h/\h<=i then some (l.toNat,h.toNat) else none
def dW(Y:Value):List (Value×RW)->Option RW
 | []=>none
 |(k,v)::es=>if Instr.sameBits 1 Y k then some v else dW Y es
def eN(Y:Value)(x:RW):List (Value×RW)->List (Value×RW)
 | []=>[(Y,x)]
 |(k,v)::es=>if Instr.sameBits 1 Y k then(Y,x)::es else(k,v)::eN Y x es
def bytesOf:lW->Option (List UInt8)
 | []=>some []
 | .p (.vl (.int .u8 n))::l=>(bytesOf l).map (UInt8.ofNat n.toNat::·)
 |_=>none
def ofBytes(s:ByteArray):lW:=s.data.toList.map fun b=> .p (.vl (.int .u8 b.toNat))
def elems(hp:ag)(z:Nat):RV->Option (Nat×lW)
 | .v (.one (.p (.vl (.slice none 0 0))))=>some (0,[])
 | .v (.one (.p (.vl (.string s))))=>if z=1 then some (s.size,ofBytes s) else none
 | .v (.one (.p (.sl n cs)))=>(part cs 0 (n*z)).map fun l=>(n,l.map .p)
 | .v (.one (.ad b o n W))=>if W=z then match hp[b]? with
   |some (.cells cs _)=>(part cs o (n*z)).map fun l=>(n,l)
   |some (.tc _ cs _)=>(part cs o (n*z)).map fun l=>(n,l)
   |_=>none
  else none
 |_=>none
def kh(n:Nat):RV:=atR (.int .i64 n)
def roomy(n c:Nat):Bool:=decide (n*c<=2^44/\n<=2^44)
def dX(P:lB)(s:Sem Value):Option RV:=(bi P s).bind g8
def aV(P:lB)(T:aq)(b:Builtin)(c:Array TypeId)(w:lA)(args:eG)(hp:ag):Option (RV×ag):=
 match b,args with
 | .len,[a]=>
  match (c[0]?).bind T.au,a with
  |some (.slice _),.v (.one (.p (.sl n _)))=>some (kh n,hp)
  |some (.slice _),.v (.one (.ad _ _ n _))=>some (kh n,hp)
  |some .string,.v (.one (.p (.vl (.string s))))=>some (kh s.size,hp)
  |some (.map _ _),.v (.one (.map b))=>match hp[b]? with
   |some (.map es)=>some (kh es.length,hp)
   |_=>none
  |_,a=>match bE a with
   |some v=>(dX P (Builtin.len_ c w #[v])).map fun r=>(r,hp)
   |none=>none
 | .append,[s,x]=>
  match (c[0]?).bind T.au,(c[1]?).bind T.au with
  |some (.slice e),some y=>
   match y with
   | .int _=>none
   |_=>
   match T.info e,zeroOf T e with
   |some i,some zero=>
    let z:=i.size
    match elems hp z x with
    |some (m,new)=>
     if zero.length=z then
     match s with
     | .v (.one (.p (.vl (.slice none 0 0))))=>
      if m=0 then some (s,hp)
      else if roomy m i.bytes && decide (0<z) then some (.v (.one (.ad hp.length 0 m z)),hp++[.cells new false]) else none
     | .v (.one (.ad b o n W))=>
      match hp[b]? with
      |some (.cells cs false)=>
       match part cs o (n*z) with
       |some j=>
        if W=z && roomy (n+m) i.bytes && decide (0<z) then some (.v (.one (.ad hp.length 0 (n+m) z)),hp.set b .gone++[.cells (j++new) false]) else none
       |none=>none
      |_=>none
     | .v (.one (.p (.sl _ _)))=>if m=0 then some (s,hp) else none
     |_=>none
     else none
    |none=>none
   |_,_=>none
  |_,_=>none
 | .copy,[d,x]=>
  match (c[0]?).bind T.au with
  |some (.slice e)=>
   match T.info e with
   |some i=>
    match elems hp i.size x,d with
    |some (m,new),.v (.one (.ad b o n W))=>
     if W=i.size then
      match gj hp (.ref b o) (new.take (min m n*i.size)) with
      |some R=>some (kh (min m n),R)
      |none=>none
     else none
    |_,_=>none
   |none=>none
  |_=>none
 | .min,args=>match ba bE args with
  |some vs=>(dX P (Builtin.min_ c w vs.toArray)).map fun r=>(r,hp)
  |none=>none
 | .max,args=>match ba bE args with
  |some vs=>(dX P (Builtin.max_ c w vs.toArray)).map fun r=>(r,hp)
  |none=>none
 |_,_=>none
def mm(T:aq)(t:lA)(hp:ag):Option (RV×ag):=
 match zeroOf T t with
 |some cs=>some (.v (.one (.ref hp.length 0)),hp++[.cells cs false])
 |none=>none
def pd(x:RV)(hp:ag):Option (RV×ag):=
 match gi x with
 |some cs=>some (.v (.one (.ref hp.length 0)),hp++[.cells cs false])
 |none=>none
def ou(T:aq)(t:lA)(hp:ag):Option (RV×ag):=
 match zeroOf T t with
 |some cs=>some (.v (.one (.ref hp.length 0)),hp++[.tc t cs false])
 |none=>none
def pe(t:lA)(x:RV)(hp:ag):Option (RV×ag):=
 match gi x with
 |some cs=>some (.v (.one (.ref hp.length 0)),hp++[.tc t cs false])
 |none=>none
def DL(n:String):String:= "builder.go" ++String.singleton (Char.ofNat 58)++n
def u3(s:String):Bool:=s==DL "114" || s==DL "97"
def dM(T:aq)(c:Array TypeId)(args:eG)(hp:ag):Option (RV×ag):=
 match args with
 | [s,x]=>
  match (c[0]?).bind T.au,(c[1]?).bind T.au with
  |some (.slice e),some y=>
   match y with
   | .int _=>none
   |_=>
   match T.info e,zeroOf T e with
   |some i,some zero=>
    match elems hp i.size x with
    |some (m,new)=>
     if zero.length=i.size/\m≠0/\0<i.size then
     match s with
     | .v (.one (.p (.vl (.slice none 0 0))))=>
      if roomy m i.bytes then some (.v (.one (.ad hp.length 0 m i.size)),hp++[.tc e new true]) else none
     | .v (.one (.ad b 0 n W))=>
      match hp[b]? with
      |some (.tc k cs true)=>
       if W=i.size/\k=e/\cs.length=n*i.size/\roomy (n+m) i.bytes=true then some (.v (.one (.ad hp.length 0 (n+m) i.size)),hp.set b .gone++[.tc e (cs++new) true]) else none
      |_=>none
     |_=>none
     else none
    |none=>none
   |_,_=>none
  |_,_=>none
 |_=>none
def jS(P:lB)(T:aq)(s d:lA)(b o:Nat)(hp:ag):Option (RV×ag):=
 match T.au s,T.au d,hp[b]? with
 |some (.pointer t),some .unsafePointer,some (.tc _ cs false)=>match a6 T t with
  |some (_+1)=>if o<cs.length then some (.v (.one (.ref b o)),hp) else none
  |_=>none
 |some .unsafePointer,some (.pointer u),some (.tc e cs false)=>match a6 T u with
  |some (_+1)=>if liesAt P P.depth e (cs.length /P.cellsOf e) o u 1 then some (.v (.one (.ref b o)),hp) else none
  |_=>none
 |_,_,_=>none
def mG(T:aq)(op:BinOp)(t:lA)(x y:RV)(hp:ag):Option (RV×ag):=
 match x,y,T.au t with
 | .v (.one (.ref b o)),.v (.one (.ref f z)),some (.pointer e)=>match a6 T e with
  |some (_+1)=>if b=f then match op with
    | .eql=>some (atR (.bool (Nat.beq o z)),hp)
    | .neq=>some (atR (.bool !(Nat.beq o z)),hp)
    |_=>none
   else none
  |_=>none
 |_,_,_=>none
def kO(args:eG)(hp:ag):Option (RV×ag):=
 match args with
 | [.v (.one (.ad b o (_+1) _))]=>some (.v (.one (.ref b o)),hp)
 |_=>none
def sr(T:aq)(b:Array TypeId)(args:eG)(hp:ag):Option (RV×ag):=
 match args,(b[0]?).bind T.au with
 | [.v (.one (.p (.vl (.slice none 0 0))))],some (.slice _)=>some (kh 0,hp)
 |_,_=>none
def jA(P:lB)(T:aq)(c:Array TypeId)(args:eG)(hp:ag):Option (RV×ag):=
 match args,(c[0]?).bind T.au with
 | [.v (.one (.ref b 0)),.v (.one (.p (.vl (.int .i64 (.ofNat (n+1))))))],some (.pointer u)=>match hp[b]? with
  |some (.tc e cs true)=>match bytesOf cs with
   |some l=>if cs.length=n+1/\n+1<=2^40/\u=e/\P.cellsOf e=1 then some (atR (.string ⟨l.toArray⟩),hp) else none
   |none=>none
  |_=>none
 |_,_=>none
def placesOf(T:aq)(t:lA):Option (Nat->Option (Nat×Nat)):=
 match T.au t with
 |some (.struct fields)=>some fun i=>match fields[i]? with
  |some f=>match a6 T f.type with
   |some s=>some (f.offset,s)
   |none=>none
  |none=>none
 |some (.array _ e)=>match a6 T e with
  |some s=>some fun i=>some (i*s,s)
  |none=>none
 |_=>none
def rx(T:aq)(t:lA)(x:List (Nat×RV))(hp:ag):Option (RV×ag):=
 match zeroOf T t,placesOf T t with
 |some zero,some place=>match jb place zero x with
  |some cs=>some (.v (.agg cs),hp)
  |none=>none
 |_,_=>none
def jz(T:aq)(t:lA)(h:Nat)(x:List (Nat×RV))(hp:ag):Option (RV×ag):=
 match T.au t with
 |some (.slice e)=>match a6 T e,zeroOf T e with
  |some s,some zero=>
   if h*s<=2^24/\zero.length=s then
    match jb (fun i=>some (i*s,s)) (List.replicate h zero).flatten x with
    |some cs=>some (.v (.one (.ad hp.length 0 h s)),hp++[.cells cs false])
    |none=>none
   else none
  |_,_=>none
 |_=>none
def a8(T:aq)(G:az)(t:lA)(a:RV)(hp:ag):Option (RV×ag):=
 match dO a,a6 T t,ej T t with
 |some x,some n,some g=>if g || n==1 then match fo G hp x n with
   |some cs=>match gg g cs with
    |some r=>some (r,hp)
    |none=>none
   |none=>none
  else none
 |_,_,_=>none
def cf(T:aq)(t:lA)(a v:RV)(hp:ag):Option (RV×ag):=
 match dO a,a6 T t,gi v with
 |some x,some n,some vs=>if vs.length=n then match gj hp x vs with
   |some R=>some (bl,R)
   |none=>none
  else none
 |_,_,_=>none
def qi(x:RV)(hp:ag):Option (RV×ag):=
 match x with
 | .v (.one (.ref b o))=>some (.v (.one (.ref b o)),hp)
 | .v (.one (.aX cs o))=>some (.v (.one (.aX cs o)),hp)
 | .v (.one (.fn f cs))=>some (.v (.one (.fn f cs)),hp)
 | .v (.one (.p (.vl (.func (.func f) a b))))=>some (atR (.func (.func f) a b),hp)
 | .v (.one (.aI b))=>some (.v (.one (.aI b)),hp)
 |_=>none
def oh:RV->RV->Bool
 | .v (.one (.p (.sl _ _))),.v (.one (.p (.vl (.slice none _ _))))=>true
 | .v (.one (.ad _ _ _ _)),.v (.one (.p (.vl (.slice none _ _))))=>true
 | .v (.one (.map _)),.v (.one (.p (.vl (.map none))))=>true
 | .v (.one (.fn _ _)),.v (.one (.p (.vl .nilFunc)))=>true
 | .v (.one (.gQ _ _ _)),.v (.one (.p (.vl .nilIface)))=>true
 | .v (.one (.ref _ _)),.v (.one (.p (.vl (.pointer none))))=>true
 |_,_=>false
def jT(T:aq)(t:lA)(b:RV):Bool:=
 match T.au t,b with
 |some (.slice _),.v (.one (.p (.vl (.slice none _ _))))=>true
 |some (.map _ _),.v (.one (.p (.vl (.map none))))=>true
 |some (.func _ _ _),.v (.one (.p (.vl .nilFunc)))=>true
 |some (.interface _),.v (.one (.p (.vl .nilIface)))=>true
 |some (.pointer _),.v (.one (.p (.vl (.pointer none))))=>true
 |_,_=>false
def bj(P:lB)(T:aq)(op:BinOp)(t:lA)(x y:Operand)(a b:RV)(hp:ag):Option (RV×ag):=
 match bE a,bE b with
 |some u,some v=>match dX P (do eqGuard op t x y u v;binOp op t u v) with
  |some r=>some (r,hp)
  |none=>none
 |_,_=>if oh a b && jT T t b then match op with
   | .eql=>some (atR (.bool false),hp)
   | .neq=>some (atR (.bool true),hp)
   |_=>none
  else mG T op t a b hp
def ge(P:lB)(T:aq)(s d:lA)(x:RV)(hp:ag):Option (RV×ag):=
 match bE x with
 |some (.string str)=>match T.au s,T.au d with
  |some .string,some .string=>some (x,hp)
  |some .string,some (.slice e)=>match T.au e with
   |some (.int .u8)=>if roomy str.size 1 then some (.v (.one (.ad hp.length 0 str.size 1)),hp++[.cells (ofBytes str) false]) else none
   |_=>none
  |_,_=>none
 |some v=>match dX P (convert s d v) with
  |some r=>some (r,hp)
  |none=>none
 |none=>match T.au s,T.au d with
  |some (.slice e),some .string=>match T.au e with
   |some (.int .u8)=>match elems hp 1 x with
    |some (_,cs)=>match bytesOf cs with
     |some l=>some (atR (.string ⟨l.toArray⟩),hp)
     |none=>none
    |none=>none
   |_=>none
  |_,_=>none
def ry(P:lB)(T:aq)(t:lA)(x:RV)(hp:ag):Option (RV×ag):=
 match x with
 | .v (.one (.ref b o))=>match T.au t with
  |some (.interface _)=>none
  |some _=>some (.v (.one (.gQ t b o)),hp)
  |none=>none
 |r=>match bE r with
  |some v=>match dX P (Instr.makeInterface t v) with
   |some r=>some (r,hp)
   |none=>none
  |none=>none
def rX:RV->Option (Nat×Nat)
 | .v (.one (.ref b o))=>some (b,o)
 |_=>none
def rY(fn:Fn)(first D:eG)(hp:ag):Option (RV×ag):=
 match ba bE first,ba bE D with
 |some a,some b=>some (atR (.func fn a.toArray b.toArray),hp)
 |some [],none=>match fn,ba rX D with
  | .func f,some l=>if f<mK then some (.v (.one (.fn f l)),hp) else none
  |_,_=>none
 |none,some []=>match fn,ba rX first with
  | .func f,some l=>some (.v (.one (.fn (f+mK) l)),hp)
  |_,_=>none
 |_,_=>none
def eC(T:aq)(t:lA)(l c:RV)(hp:ag):Option (RV×ag):=
 match T.au t,em l,em c with
 |some (.slice e),some n,some m=>match T.info e,zeroOf T e with
  |some i,some zero=>
   if 0<=n/\n<=m/\roomy m.toNat i.bytes=true/\zero.length=i.size/\0<i.size then
    some (.v (.one (.ad hp.length 0 n.toNat i.size)),hp++[.cells (List.replicate n.toNat zero).flatten false])
   else none
  |_,_=>none
 |_,_,_=>none
def fP:Option RV->Option (Option Int)
 |none=>some none
 |some r=>match em r with
  |some n=>some (some n)
  |none=>none
def mn:Option RV->Option (Option Value)
 |none=>some none
 |some r=>match bE r with
  |some n=>some (some n)
  |none=>none
def g5(P:lB)(T:aq)(t:lA)(x:RV)(L y d:Option RV)(hp:ag):Option (RV×ag):=
 match bE x with
 |some v=>match mn L,mn y,mn d with
  |some l,some h,some m=>match dX P (Instr.sliceAt t v l h m) with
   |some r=>some (r,hp)
   |none=>none
  |_,_,_=>none
 |none=>match d,fP L,fP y with
  |none,some l',some V=>match T.au t,x with
   |some (.slice e),.v (.one (.p (.sl n cs)))=>match a6 T e,bounds n l' V with
    |some s,some (l,h)=>match part cs (l*s) ((h - l)*s) with
     |some p=>some (.v (.one (.p (.sl (h - l) p))),hp)
     |none=>none
    |_,_=>none
   |some (.slice e),.v (.one (.ad b o n z))=>match a6 T e,bounds n l' V with
    |some s,some (l,h)=>if z=s then some (.v (.one (.ad b (o+l*s) (h - l) s)),hp) else none
    |_,_=>none
   |some (.array k e),.v (.one (.ref b o))=>match a6 T e,bounds k l' V,hp[b]? with
    |some s,some (l,h),some (.cells cs _)=>if o+k*s<=cs.length then some (.v (.one (.ad b (o+l*s) (h - l) s)),hp) else none
    |_,_,_=>none
   |_,_=>none
  |_,_,_=>none
def nY(x:LV)(k:Nat):Option LV:=
 match x with
 | .ref b o=>some (.ref b (o+k))
 | .aX cs o=>some (.aX cs (o+k))
 | .p (.vl (.pointer (some ⟨g,o,none⟩)))=>some (.p (.vl (.pointer (some ⟨g,o+k,none⟩))))
 |_=>none
def nG(T:aq)(s:lA)(x:RV)(f:Nat)(hp:ag):Option (RV×ag):=
 match T.au s,dO x with
 |some (.struct fields),some x=>match fields[f]? with
  |some fd=>match a6 T fd.type,nY x fd.offset with
   |some (_+1),some y=>some (.v (.one y),hp)
   |_,_=>none
  |none=>none
 |_,_=>none
def jc(T:aq)(t:lA)(cs:lW)(o:Nat)(hp:ag):Option (RV×ag):=
 match ej T t,a6 T t with
 |some g,some n=>if g || n==1 then match part cs o n with
   |some l=>match gg g l with
    |some r=>some (r,hp)
    |none=>none
   |none=>none
  else none
 |_,_=>none
def rz(T:aq)(t:lA)(x:RV)(f:Nat)(hp:ag):Option (RV×ag):=
 match T.au t,x with
 |some (.struct fields),.v (.agg cs)=>match fields[f]? with
  |some fd=>jc T fd.type cs fd.offset hp
  |none=>none
 |_,_=>none
def a5(T:aq)(t:lA)(x R:RV)(hp:ag):Option (RV×ag):=
 match T.au t,x,em R with
 |some (.array n e),.v (.one x),some i=>match a6 T e with
  |some s=>if 0<=i/\i<n then match nY x (i.toNat*s) with
    |some y=>some (.v (.one y),hp)
    |none=>none
   else none
  |none=>none
 |some (.slice e),.v (.one (.p (.sl n cs))),some i=>match a6 T e with
  |some s=>if 0<=i/\i<n then some (.v (.one (.aX cs (i.toNat*s))),hp) else none
  |none=>none
 |some (.slice e),.v (.one (.ad b o n z)),some i=>match a6 T e with
  |some s=>if z=s/\0<=i/\i<n then some (.v (.one (.ref b (o+i.toNat*s))),hp) else none
  |none=>none
 |_,_,_=>none
def mq(P:lB)(T:aq)(t:lA)(x R:RV)(hp:ag):Option (RV×ag):=
 match bE x,bE R with
 |some u,some v=>match dX P (Instr.index t u v) with
  |some r=>some (r,hp)
  |none=>none
 |_,_=>match T.au t,x,em R with
  |some (.array n e),.v (.agg cs),some i=>match a6 T e with
   |some s=>if 0<=i/\i<n then jc T e cs (i.toNat*s) hp else none
   |none=>none
  |_,_,_=>none
def eX(M:TypeDesc)(k:Value):Bool:=
 match M,k with
 | .int j,.int k _=>j==k
 | .string,.string _=>true
 | .bool,.bool _=>true
 |_,_=>false
def mH(T:aq)(M:TypeDesc)(k:Value):Bool:=
 match M,k with
 | .array 2 e,.agg cs=>match T.au e,a6 T e,cs.toList with
  |some (.int .i64),some 1,[.int .i64 _,.int .i64 _]=>true
  |_,_,_=>false
 |_,_=>false
def eD(T:aq)(M:TypeDesc)(k:Value):Bool:=eX M k || mH T M k
def mapOf(x:RV)(hp:ag):Option (List (Value×RW)):=
 match x with
 | .v (.one (.map b))=>match hp[b]? with
  |some (.map es)=>some es
  |_=>none
 | .v (.one (.p (.vl (.map none))))=>some []
 |_=>none
def mI(T:aq)(t:lA):Option RV:=
 match T.info t with
 |some i=>match i.zero with
  |some v=>g8 v
  |none=>none
 |none=>none
def hP(T:aq)(t:lA)(x k:RV)(h:Bool)(hp:ag):Option (RV×ag):=
 match T.au t,bE k,mapOf x hp with
 |some (.map o e),some kv,some es=>match T.au o,mI T e with
  |some M,some (.v z)=>
   if eD T M kv && es.all (fun e=>eD T M e.1) then
    match dW kv es with
    |some x=>some (if h then .ab [x,.one (.p (.vl (.bool true)))] else .v x,hp)
    |none=>some (if h then .ab [z,.one (.p (.vl (.bool false)))] else .v z,hp)
   else none
  |_,_=>none
 |_,_,_=>none
def e4(T:aq)(t:lA)(m k x:RV)(hp:ag):Option (RV×ag):=
 match T.au t,m,bE k,x with
 |some (.map o _),.v (.one (.map b)),some kv,.v x=>match T.au o,hp[b]? with
  |some M,some (.map es)=>
   if eD T M kv && es.all (fun e=>eD T M e.1) then some (bl,hp.set b (.map (eN kv x es))) else none
  |_,_=>none
 |_,_,_,_=>none
def rZ(i:RV)(hp:ag):Option (RV×ag):=
 match i with
 | .v (.one (.ref b 0))=>match hp[b]? with
  |some (.iter s pos)=>
   if pos<s.size then
    some (.ab [.one (.p (.vl (.bool true))),.one (.p (.vl (goInt pos))),.one (.p (.vl (.int .i32 (Utf8.decode s pos).1)))],hp.set b (.iter s (pos+(Utf8.decode s pos).2)))
   else some (.ab [.one (.p (.vl (.bool false)))],hp)
  |_=>none
 |_=>none
def e8(P:lB)(T:aq)(s d:lA)(x:RV)(hp:ag):Option (RV×ag):=
 match x,T.au s,T.au d with
 | .v (.one (.p (.vl (.int _ n)))),some _,some (.int k)=>some (atR (.int k (k.wrap n)),hp)
 |_,_,_=>ge P T s d x hp
def cD(P:lB)(T:aq)(t:lA)(x R:RV)(hp:ag):Option (RV×ag):=
 match x,R,T.au t with
 | .v (.one (.p (.vl (.string s)))),.v (.one (.p (.vl (.int _ n)))),some .string=>
  match n with
  | .ofNat i=>match s[i]? with
   |some b=>some (atR (.int .u8 b.toNat),hp)
   |none=>none
  | .negSucc _=>none
 |_,_,_=>mq P T t x R hp
def aZ(P:lB)(T:aq)(t:lA)(x:RV)(L y d:Option RV)(hp:ag):Option (RV×ag):=
 match x,T.au t,d with
 | .v (.one (.p (.vl (.string s)))),some .string,none=>
  match fP L,fP y with
  |some l',some V=>match bounds s.size l' V with
   |some (l,h)=>some (atR (.string (s.extract l h)),hp)
   |none=>none
  |_,_=>none
 |_,_,_=>g5 P T t x L y d hp
def aJ(P:lB)(T:aq)(G:az)(ρ:Operand->RV)(o:Oper)(hp:ag):Option (RV×ag):=
 match o.op with
 | .move x=>some (ρ x,hp)
 | .assign x=>some (ρ x,hp)
 | .pick c a b=>match ρ c with
  | .v (.one (.p (.vl (.bool t))))=>some (if t then ρ a else ρ b,hp)
  |_=>none
 | .alloc t=>match T.kz t with
  |true=>ou T t hp
  |false=>mm T t hp
 | .box t x=>match T.kz t with
  |true=>pe t (ρ x) hp
  |false=>pd (ρ x) hp
 | .build t parts=>rx T t (parts.toList.map fun p=>(p.1,ρ p.2)) hp
 | .buildSlice t len parts=>jz T t len (parts.toList.map fun p=>(p.1,ρ p.2)) hp
 | .load t a=>a8 T G t (ρ a) hp
 | .store t a v=>cf T t (ρ a) (ρ v) hp
 | .nilCheck x=>qi (ρ x) hp
 | .binOp op t x y _=>bj P T op t x y (ρ x) (ρ y) hp
 | .unOp op _ x=>match bE (ρ x) with
  |some v=>match dX P (Op.unary op v) with
   |some r=>some (r,hp)
   |none=>none
  |none=>none
 | .convert s d x=>match ρ x with
  | .v (.one (.ref b o))=>jS P T s d b o hp
  |r=>e8 P T s d r hp
 | .makeInterface t x=>ry P T t (ρ x) hp
 | .makeFunc fn first captured=>rY fn (first.toList.map ρ) (captured.toList.map ρ) hp
 | .makeMap _ none=>some (.v (.one (.map hp.length)),hp++[.map []])
 | .makeSlice t l c=>eC T t (ρ l) (ρ c) hp
 | .slice t x lo hi mx=>aZ P T t (ρ x) (lo.map ρ) (hi.map ρ) (mx.map ρ) hp
 | .fieldAddr s x f=>nG T s (ρ x) f hp
 | .field t x f=>rz T t (ρ x) f hp
 | .indexAddr t x R=>a5 T t (ρ x) (ρ R) hp
 | .index t x R=>cD P T t (ρ x) (ρ R) hp
 | .lookup t x k ok=>hP T t (ρ x) (ρ k) ok hp
 | .extract t i=>match ρ t with
  | .ab vs=>match vs[i]? with
   |some x=>some (.v x,hp)
   |none=>none
  |_=>none
 | .mapUpdate t m k x=>e4 T t (ρ m) (ρ k) (ρ x) hp
 | .insert t m k x=>e4 T t (ρ m) (ρ k) (ρ x) hp
 | .range t x=>match T.au t,ρ x with
  |some .string,.v (.one (.p (.vl (.string s))))=>some (.v (.one (.ref hp.length 0)),hp++[.iter s 0])
  |_,_=>none
 | .next it true=>rZ (ρ it) hp
 | .call {callee:= .builtin b,args,argTypes}=>match b with
  | .append=>match u3 o.pos with
   |true=>dM T argTypes (args.toList.map ρ) hp
   |false=>aV P T .append argTypes o.type (args.toList.map ρ) hp
  | .unsafeSliceData=>kO (args.toList.map ρ) hp
  | .unsafeString=>jA P T argTypes (args.toList.map ρ) hp
  | .cap=>sr T argTypes (args.toList.map ρ) hp
  |b=>aV P T b argTypes o.type (args.toList.map ρ) hp
 |_=>none
inductive bG(A:Nat->Prop)(w:World):PV->Value->Prop
 |vl (v:Value) (h:single v=true):bG A w (.vl v) v
 |sl (n:Nat) (cs:rK) (B o cap:Nat) (vs:Nat->Value) (hn:n<=cap)
   (I:∀(i:Nat) c,cs[i]? =some c->A B)
   (hc:∀(i:Nat) c,cs[i]? =some c->w.cell? ⟨B,o+i,none⟩=some (vs i))
   (he:∀(i:Nat) c,cs[i]? =some c->bG A w c (vs i)):bG A w (.sl n cs) (.slice (some ⟨B,o,none⟩) n cap)
def bG.single{A:Nat->Prop}{w:World}{x:PV}{v:Value}(h:bG A w x v):single v=true:=by cases h with| vl _ h=>exact h|sl=>rfl
def bG.ext{A A':Nat->Prop}{w w':World}{x:PV}{v:Value}(h:bG A w x v)(I:∀B,A B->A' B/\w'.heap[B]? =w.heap[B]?):bG A' w' x v:=by induction h with| vl v h=>exact .vl v h|sl n cs B o cap vs hn h1 hc _ d=>refine .sl n cs B o cap vs hn (fun i c y=>(I B (h1 i c y)).1) (fun i c y=> ?_) (fun i c y=>d i c y);have:=hc i c y;unfold World.cell? at*;grind
abbrev ay:=Nat->Option (Nat×Nat)
def jd(f:FuncId)(x:Array Value):Value:=match Nat.blt f mK with
 |true=> .func (.func f) #[] x
 |false=> .func (.func (f - mK)) x #[]
def tD(f:FuncId)(x:Array Value):∃g a b,jd f x= .func (.func g) a b:=by unfold jd;split;all_goals simp_all
def Rel(A:Nat->Prop)(S:ay)(w:World):LV->Value->Prop
 | .p x,v=>bG A w x v
 | .ref b o,v=>∃B d,S b=some (B,d)/\v= .pointer (some ⟨B,d+o,none⟩)
 | .aX cs o,v=>∃(B d:Nat)(vs:Nat->Value),v= .pointer (some ⟨B,d+o,none⟩)/\∀(i:Nat) c,cs[i]? =some c->A B/\w.cell? ⟨B,d+i,none⟩=some (vs i)/\bG A w c (vs i)
 | .ad b o n z,v=>∃B d q y,S b=some (B,d)/\v= .slice (some ⟨B,q,none⟩) n y/\n<=y/\(0<y->q=d+o/\∃c e fr,w.heap[B]? =some (.cells c e fr)/\d+o+y*z<=c.size)
 | .map b,v=>∃B d,S b=some (B,d)/\v= .map (some B)
 | .fn f M,v=>∃C:List Value,v=jd f C.toArray/\C.length=M.length/\∀(i:Nat) b o,M[i]? =some (b,o)->∃B d,S b=some (B,d)/\C[i]? =some (Value.pointer (some ⟨B,d+o,none⟩))
 | .aI b,v=>∃B d,S b=some (B,d)/\v= .func (.yield B) #[] #[]
 | .gQ t b o,v=>∃B d,S b=some (B,d)/\v= .iface t (.pointer (some ⟨B,d+o,none⟩))
def Rel.single{A:Nat->Prop}{S:ay}{w:World}{x:LV}{v:Value}(h:Rel A S w x v):single v=true:=by cases x with| p x=>exact bG.single h|ref b o=>obtain⟨B,d,_,rfl⟩:=h;rfl|aX cs o=>obtain⟨B,d,vs,rfl,_⟩:=h;rfl|ad b o n z=>obtain⟨B,d,q,y,_,rfl,_⟩:=h;rfl|map b=>obtain⟨B,d,_,rfl⟩:=h;rfl|fn f M=>obtain⟨C,rfl,_⟩:=h;unfold jd;split<;>rfl|aI b=>obtain⟨B,d,_,rfl⟩:=h;rfl|gQ t b o=>obtain⟨B,d,_,rfl⟩:=h;rfl
def bh(A:Nat->Prop)(S:ay)(w:World)(xs:lW)(vs:List Value):Prop:=
 vs.length=xs.length/\∀(i:Nat) x,xs[i]? =some x->∃v,vs[i]? =some v/\Rel A S w x v
def bZ(A:Nat->Prop)(S:ay)(w:World):RW->Value->Prop
 | .one x,v=>Rel A S w x v
 | .agg xs,v=>∃vs:Array Value,v= .agg vs/\bh A S w xs vs.toList
def aD(A:Nat->Prop)(S:ay)(w:World):RV->Value->Prop
 | .v x,v=>bZ A S w x v
 | .ab xs,v=>∃vs:Array Value,v= .tuple vs/\vs.size=xs.length/\∀(i:Nat) x,xs[i]? =some x->∃u,vs[i]? =some u/\bZ A S w x u
def bS:Ob->Bool
 | .cells _ fz=> !fz
 | .gone=>false
 |_=>true
def bT:Ob->Bool
 | .gone=>false
 |_=>true
def ch(S:ay)(L:ag)(B:Nat):Prop:=∃(b:Nat)(ob:Ob)(d:Nat),L[b]? =some ob/\bS ob=true/\S b=some (B,d)
def bL(A:Nat->Prop)(S:ay)(w:World)(x:eG)(vs:Array Value):Prop:=
 vs.size=x.length/\∀(i:Nat) r,x[i]? =some r->∃v,vs[i]? =some v/\aD A S w r v
def dx(A:Nat->Prop)(S:ay)(w:World)(b:Nat):Ob->Prop
 | .cells cs fz=>∃B d c e fr,S b=some (B,d)/\w.heap[B]? =some (.cells c e fr)/\d+cs.length<=c.size/\(∀i,i<c.size->¬(fr.1<=i/\i<fr.2))/\
   (fz=true->A B)/\∀(i:Nat) x,cs[i]? =some x->∃v,c[d+i]? =some v/\Rel A S w x v
 | .map es=>∃B d u l,S b=some (B,d)/\w.heap[B]? =some (.map u l)/\u.size=es.length/\
   ∀(i:Nat) k x,es[i]? =some (k,x)->∃e,u[i]? =some e/\e.key=k/\bZ A S w x e.val
 | .iter s pos=>∃B,S b=some (B,0)/\w.heap[B]? =some (.stringIter s pos)
 | .loop r=>∃B d tmps D,S b=some (B,d)/\w.heap[B]? =some (.loop {state:=r.state,pending:=r.pending,fn:=r.fn,tmps,params:=r.params.toArray,assign:=r.assign,body:=r.body,defers:=D})/\
   bL A S w r.regs tmps
 | .gone=>True
 | .tc t cs buf=>∃B c fr,S b=some (B,0)/\w.heap[B]? =some (.cells c t fr)/\cs.length<=c.size/\(buf=false->c.size=cs.length/\∀i,i<c.size->¬(fr.1<=i/\i<fr.2))/\fr.2<=cs.length/\
   ∀(i:Nat) x,cs[i]? =some x->∃v,c[i]? =some v/\Rel A S w x v
structure al(G:az)(A:Nat->Prop)(S:ay)(L:ag)(w:World):Prop where
 ob:∀(b:Nat) o,L[b]? =some o->dx A S w b o
 ca:∀B,A B->¬ch S L B
 lt:∀B,A B->B<w.heap.size
 inj:∀(b f:Nat) o y B d R,b≠f->L[b]? =some o->bS o=true->L[f]? =some y->bT y=true->S b=some (B,d)->S f=some (B,R)->False
 cz:∀b B d,S b=some (B,d)->b<L.length
 gl:∀g vs,G g=some vs->A g/\∀(i:Nat) v,vs[i]? =some v->w.cell? ⟨g,i,none⟩=some v/\single v=true
structure c7(n:Nat)(A:Nat->Prop)(S:ay)(L:ag)(w:World)(A':Nat->Prop)(S':ay)(L':ag)(w':World):Prop where
 size:w.heap.size<=w'.heap.size
 os:w'.os=w.os
 tape:w'.tape=w.tape
 output:w'.output=w.output
 wh:∀b p,S b=some p->S' b=some p
 nw:∀b,b<n->S b=none->S' b=none
 len:L.length<=L'.length
 aK:∀B,B<w.heap.size->¬ch S L B->w'.heap[B]? =w.heap[B]?
 da:∀(B:Nat)(c:Array Value)(e:lA)(fr:Nat×Nat),w.heap[B]? =some (Obj.cells c e fr)->∃f:Array Value,(∃h,w'.heap[B]? =some (Obj.cells f e h))/\f.size=c.size
 up:∀B,A B->A' B
 down:∀B,A' B->A B\/w.heap.size<=B\/ch S L B
 own:∀B,B<w.heap.size->ch S' L' B->ch S L B
abbrev Ext(A:Nat->Prop)(S:ay)(L:ag)(w:World)(A':Nat->Prop)(S':ay)(L':ag)(w':World):Prop:=c7 L.length A S L w A' S' L' w'
section
variable {G:az} {A A' A'':Nat->Prop} {S S' S'':ay} {L L' L'':ag} {w w' w'':World} {n m:Nat}
def c7.refl:c7 n A S L w A S L w:=
 ⟨vA _,rfl,rfl,rfl,fun _ _ h=>h,fun _ _ h=>h,vA _,fun _ _ _=>rfl,fun _ c _ fr h=>⟨c,⟨fr,h⟩,rfl⟩,fun _ h=>h,fun _ h=> .inl h,fun _ _ h=>h⟩
def Ext.refl:Ext A S L w A S L w:=c7.refl
def c7.trans'(h:c7 n A S L w A' S' L' w')(k:c7 m A' S' L' w' A'' S'' L'' w'')(M:n<=m):c7 n A S L w A'' S'' L'' w'' where
 size:=Wu h.size k.size
 os:=k.os.trans h.os
 tape:=k.tape.trans h.tape
 output:=k.output.trans h.output
 wh b p hp:=k.wh b p (h.wh b p hp)
 nw b hb hn:=k.nw b (W0 hb M) (h.nw b hb hn)
 len:=Wu h.len k.len
 aK B hB hn:=(k.aK B ahB (fun z=>hn (h.own B hB z))).trans (h.aK B hB hn)
 da B c e fr hc:=by
  obtain⟨d,⟨f,i⟩,g⟩:=h.da B c e fr hc;obtain⟨j,l,o⟩:=k.da B d e f i
  grind
 up B hB:=k.up B (h.up B hB)
 down B hB:=by
  rcases k.down B hB with i|i|i
  ·exact h.down B i
  ·exact .inr (.inl (Wu h.size i))
  rcases VI B w.heap.size with K|X
  ·exact .inr (.inr (h.own B K i))
  omega
 own B hB z:=h.own B hB (k.own B ahB z)
def c7.trans(h:Ext A S L w A' S' L' w')(k:Ext A' S' L' w' A'' S'' L'' w''):Ext A S L w A'' S'' L'' w'':=c7.trans' h k h.len
def al.DM(C:al G A S L w)(M:c7 n A S L w A' S' L' w'){x:PV}{v:Value}(h:bG A w x v):bG A' w' x v:=
 h.ext fun B a=>⟨M.up B a,M.aK B (C.lt B a) (C.ca B a)⟩
def al.rel(C:al G A S L w)(M:c7 n A S L w A' S' L' w'){x:LV}{v:Value}(h:Rel A S w x v):Rel A' S' w' x v:=by have wh:∀{b B d},S b=some (B,d)->S' b=some (B,d):=fun O=>M.wh _ _ O;cases x with| p x=>exact C.DM M h|ref b o=>obtain⟨B,d,O,rfl⟩:=h;exact⟨B,d,wh O,rfl⟩|aX cs o=>obtain⟨B,d,vs,rfl,g⟩:=h;refine⟨B,d,vs,rfl,fun i c y=> ?_⟩;obtain⟨j,k,l⟩:=g i c y;refine⟨M.up B j,?_,C.DM M l⟩;unfold World.cell? at*;rw[M.aK B (C.lt B j) (C.ca B j)];exact k|ad b o n z=>obtain⟨B,d,q,D,O,rfl,E,r⟩:=h;refine⟨B,d,q,D,wh O,rfl,E,fun hp=> ?_⟩;obtain⟨m,c,e,fr,j,g⟩:=r hp;obtain⟨s,⟨u,V⟩,F⟩:=M.da B c e fr j;exact kg|map b=>obtain⟨B,d,O,rfl⟩:=h;exact⟨B,d,wh O,rfl⟩|fn f N=>obtain⟨H,rfl,I,g⟩:=h;refine⟨H,rfl,I,fun i b o y=> ?_⟩;grind|aI b=>obtain⟨B,d,O,rfl⟩:=h;exact⟨B,d,wh O,rfl⟩|gQ t b o=>obtain⟨B,d,O,rfl⟩:=h;exact⟨B,d,wh O,rfl⟩
def al.R_(B:al G A S L w)(M:c7 n A S L w A' S' L' w'){xs:lW}{vs:List Value}(h:bh A S w xs vs):bh A' S' w' xs vs:=
 ⟨h.1,fun i x y=>let ⟨v,h1,h2⟩:=h.2 i x y;⟨v,h1,B.rel M h2⟩⟩
def al.pf(B:al G A S L w)(M:c7 n A S L w A' S' L' w'){x:RW}{v:Value}(h:bZ A S w x v):bZ A' S' w' x v:=by cases x with| one x=>exact B.rel M h|agg xs=>obtain⟨vs,rfl,y⟩:=h;exact⟨vs,rfl,B.R_ M y⟩
def al.DN(B:al G A S L w)(M:c7 n A S L w A' S' L' w'){x:RV}{v:Value}(h:aD A S w x v):aD A' S' w' x v:=by cases x with| v x=>exact B.pf M h|ab xs=>obtain⟨vs,rfl,y,c⟩:=h;exact⟨vs,rfl,y,fun i x z=>let ⟨u,h1,h2⟩:=c i x z;⟨u,h1,B.pf M h2⟩⟩
def al.ey(B:al G A S L w)(M:c7 n A S L w A' S' L' w'){x:eG}{vs:Array Value}(h:bL A S w x vs):bL A' S' w' x vs:=
 ⟨h.1,fun i r y=>let ⟨v,h1,h2⟩:=h.2 i r y;⟨v,h1,B.DN M h2⟩⟩
end
section
variable {G:az} {A A':Nat->Prop} {S S':ay} {L L':ag} {w w':World} {n:Nat}
def dx.ext(C:al G A S L w)(M:c7 n A S L w A' S' L' w'){b:Nat}{o:Ob}(h:dx A S w b o)(p:bT o=true->∀B d,S b=some (B,d)->w'.heap[B]? =w.heap[B]?):dx A' S' w' b o:=by have wh:∀{b B d},S b=some (B,d)->S' b=some (B,d):=fun O=>M.wh _ _ O;cases o with| cells cs fz=>obtain⟨B,d,c,e,fr,j,l,m,q,u,y⟩:=h;refine⟨B,d,c,e,fr,wh j,(p rfl B d j).trans l,m,q,fun T=>M.up B (u T),fun i x z=> ?_⟩;exact avd|map es=>obtain⟨B,d,F,H,j,l,m,q⟩:=h;refine⟨B,d,F,H,wh j,(p rfl B d j).trans l,m,fun i k x z=> ?_⟩;obtain⟨e,V,I,E⟩:=q i k x z;exact⟨e,V,I,C.pf M E⟩|iter s pos=>obtain⟨B,j,l⟩:=h;exact⟨B,wh j,(p rfl B 0 j).trans l⟩|loop r=>obtain⟨B,d,tmps,D,j,l,m⟩:=h;exact⟨B,d,tmps,D,wh j,(p rfl B d j).trans l,C.ey M m⟩|gone=>trivial|tc t cs buf=>obtain⟨B,c,fr,j,l,m,q,u,y⟩:=h;refine⟨B,c,fr,wh j,(p rfl B 0 j).trans l,m,q,u,fun i x z=> ?_⟩;exact avd
def dx.live{b:Nat}{o:Ob}(h:dx A S w b o)(x:bT o=true):∃B d F,S b=some (B,d)/\w.heap[B]? =some F:=by cases o with| cells cs fz=>obtain⟨B,d,c,e,fr,i,j,_⟩:=h;simp_all| map es=>obtain⟨B,d,u,k,i,j,_⟩:=h;simp_all| iter s pos=>obtain⟨B,i,j⟩:=h;simp_all| loop r=>obtain⟨B,d,tmps,D,i,j,_⟩:=h;simp_all| gone=>simp[bT]at x|tc t cs buf=>obtain⟨B,c,fr,i,j,_⟩:=h;simp_all
def nZ{o:Ob}(h:bS o=true):bT o=true:=by cases o<;>simp_all[bS,bT]
def ch.lt(C:al G A S L w){B:Nat}(h:ch S L B):B<w.heap.size:=by obtain⟨b,F,d,i,j,k⟩:=h;obtain⟨Z,R,o,l,m⟩:=(C.ob b F i).live (nZ j);grind
def ay.put(S:ay)(n:Nat)(x:Nat×Nat):ay:=fun b=>if b=n then some x else S b
@[simp] theorem ay.dG(S:ay)(n:Nat)(x:Nat×Nat):S.put n x n=some x:=by simp[ay.put]
def ay.dU(S:ay){n b:Nat}(x:Nat×Nat)(h:b≠n):S.put n x b=S b:=by simp[ay.put,h]
def bF(w:World)(o:Obj):World:={w with heap:=w.heap.push o}
def ga(w:World)(o:Obj){B:Nat}(h:B<w.heap.size):(bF w o).heap[B]? =w.heap[B]? :=by show(w.heap.push o)[B]? =_;grind
def eL(w:World)(o:Obj):(bF w o).heap[w.heap.size]? =some o:=by show(w.heap.push o)[w.heap.size]? =_;simp
def iI{α:Type}(l:List α)(x:α)(i:Nat)(y:α)(h:(l++[x])[i]? =some y):(i<l.length/\l[i]? =some y)\/(i=l.length/\y=x):=by grind
def dg{w:World}{B:Nat}{o:Obj}(h:w.heap[B]? =some o):B<w.heap.size:=by grind
def Ext.push(C:al G A S L w)(F:Ob)(o:Obj)(d:Nat):
  Ext A S L w A (S.put L.length (w.heap.size,d)) (L++[F]) (bF w o) where
 size:=by simp[bF]
 os:=rfl
 tape:=rfl
 output:=rfl
 wh b p hp:=by rw[ay.dU _ _ (by have:=C.cz b p.1 p.2 hp;omega)];exact hp
 nw b hb hn:=by rw[ay.dU _ _ w_];exact hn
 len:=by simp
 aK B hB _:=ga w o hB
 da B c e fr hc:=⟨c,⟨fr,by rw[ga w o (dg hc)];exact hc⟩,rfl⟩
 up _ h:=h
 down _ h:= .inl h
 own B hB z:=by
  obtain⟨b,M,R,i,j,k⟩:=z
  rcases iI _ _ _ _ i with⟨h4,h5⟩|⟨rfl,_⟩
  ·exact⟨b,M,R,h5,j,by rwa [ay.dU _ _ w_]at k⟩
  simp_all
def al.push(C:al G A S L w)(F:Ob)(o:Obj)(d:Nat)(Y:dx A (S.put L.length (w.heap.size,d)) (bF w o) L.length F):
  al G A (S.put L.length (w.heap.size,d)) (L++[F]) (bF w o) where
 ob b x hb:=by
  rcases iI _ _ _ _ hb with⟨j,h5⟩|⟨rfl,rfl⟩
  ·refine dx.ext C (Ext.push C F o d) (C.ob b x h5) fun y B R a=> ?_;obtain⟨Z,e,z,k,l⟩:=(C.ob b x h5).live y;exact atx
  exact Y
 ca B I z:=by
  obtain⟨b,M,R,k,l,m⟩:=z
  rcases iI _ _ _ _ k with⟨j,h5⟩|⟨rfl,_⟩
  ·exact C.ca B I ⟨b,M,R,h5,l,by rwa [ay.dU _ _ w_]at m⟩
  simp at m;have:=C.lt B I;omega
 lt B I:=by have:=C.lt B I;simp[bF];omega
 inj b f x n B d1 e H hb hm O y k l:=by
  rcases iI _ _ _ _ hb with⟨j,h5⟩|⟨rfl,rfl⟩<;>rcases iI _ _ _ _ O with⟨p,q⟩|⟨rfl,rfl⟩
  ·rw[ay.dU _ _ w_]at k l;exact C.inj b f x n B d1 e H h5 hm q y k l
  ·rw[ay.dU _ _ w_]at k;simp at l;have:=ch.lt C ⟨b,x,d1,h5,hm,k⟩;omega
  ·rw[ay.dU _ _ w_]at l;simp at k;obtain⟨Z,R,D,r,s⟩:=(C.ob f n q).live y;exact kg
  omega
 cz b B R h:=by
  by_cases hb:b=L.length
  ·exact VO
  exact avh
 gl g vs D:=by
  obtain⟨k,l⟩:=C.gl g vs D;refine⟨k,fun i v E=> ?_⟩;obtain⟨m,j⟩:=l i v E;refine⟨?_,j⟩;unfold World.cell? at*;rw[ga w o (C.lt g k)];exact m
def al.vl(C:al G A S L w){b:Nat}{o:Ob}(h:L[b]? =some o)(x:bT o=true){B d:Nat}(O:S b=some (B,d)):B<w.heap.size:=by obtain⟨Z,e,y,i,j⟩:=(C.ob b o h).live x;grind
def bs(w:World)(B:Nat)(o:Obj):World:={w with heap:=w.heap.setIfInBounds B o}
def ew(w:World)(o:Obj){B Z:Nat}(h:Z≠B):(bs w B o).heap[Z]? =w.heap[Z]? :=by show(w.heap.setIfInBounds B o)[Z]? =_;grind
def fk(w:World){o:Obj}{B:Nat}(h:B<w.heap.size):(bs w B o).heap[B]? =some o:=by show(w.heap.setIfInBounds B o)[B]? =_;simp[h]
@[simp] theorem Vk(w:World)(o:Obj)(B:Nat):(bs w B o).heap.size=w.heap.size:=by simp[bs]
def Ext.k4(C:al G A S L w){b B d:Nat}{x y:Ob}{o z:Obj}(O:L[b]? =some x)(T:bS x=true)(a:S b=some (B,d))(D:w.heap[B]? =some o)
  (v:∀c e fr,o= .cells c e fr->∃f,(∃i,z= .cells f e i)/\f.size=c.size):
  Ext A S L w A S (L.set b y) (bs w B z) where
 size:=by simp
 os:=rfl
 tape:=rfl
 output:=rfl
 wh _ _ h:=h
 nw _ _ h:=h
 len:=by simp
 aK Z Y hn:=ew w z fun e=>hn ⟨b,x,d,O,T,e ▸ a⟩
 da Z c e fr hc:=by
  by_cases h:Z=B
  ·subst h;rw[D]at hc;simp only[pB]at hc;obtain⟨f,⟨i,rfl⟩,j⟩:=v c e fr hc;exact⟨f,⟨i,fk w (dg D)⟩,j⟩
  exact⟨c,⟨fr,by rw[ew w z h];exact hc⟩,rfl⟩
 up _ h:=h
 down _ h:= .inl h
 own Z _ h:=by
  obtain⟨f,k,R,i,j,l⟩:=h
  by_cases m:f=b
  ·subst m;exact⟨f,x,R,O,T,l⟩
  rw[Vt (Ne.symm m)]at i;exact⟨f,k,R,i,j,l⟩
def al.k4(C:al G A S L w){b B d:Nat}{x y:Ob}{o D:Obj}(O:L[b]? =some x)(T:bS x=true)(a:S b=some (B,d))(E:w.heap[B]? =some o)
  (F:∀c e fr,o= .cells c e fr->∃f,(∃j,D= .cells f e j)/\f.size=c.size) (hy:bS y=true)
  (Y:dx A S (bs w B D) b y):
  al G A S (L.set b y) (bs w B D) where
 ob f z hz:=by
  by_cases l:f=b
  ·grind
  rw[Vt (Ne.symm l)]at hz;refine dx.ext C (Ext.k4 C (y:=y) O T a E F) (C.ob f z hz) fun H Z R j=> ?_;exact ew w D fun e=>C.inj b f x z B d R (Ne.symm l) O T hz H a (e ▸ j)
 ca Z I h:=C.ca Z I ((Ext.k4 C (A:=A) (y:=y) O T a E F).own Z (C.lt Z I) h)
 lt Z I:=by simpa using C.lt Z I
 inj k m J K Z d1 d2 M n U p H q r:=by
  have f1:∃z,L[k]? =some z/\bS z=true:=by
   by_cases e:k=b
   ·exact kg
   grind
  have f2:∃z,L[m]? =some z/\bT z=true:=by
   by_cases e:m=b
   ·subst e;exact⟨x,O,nZ T⟩
   grind
  obtain⟨N,s,t⟩:=f1;obtain⟨P,u,Q⟩:=f2;exact C.inj k m N P Z d1 d2 M s t u Q q r
 cz f Z R h:=by simpa using C.cz f Z R h
 gl g vs V:=by
  obtain⟨n,p⟩:=C.gl g vs V;refine⟨n,fun i v W=> ?_⟩;obtain⟨q,r⟩:=p i v W;refine⟨?_,r⟩;have M:g≠B:=fun e=>C.ca g n ⟨b,x,d,O,T,e ▸ a⟩;unfold World.cell? at*;rw[ew w D M];exact q
def Ext.write(C:al G A S L w){b B d:Nat}{x y:Ob}{o z:Obj}(O:L[b]? =some x)(T:bS x=true)(a:S b=some (B,d))(D:w.heap[B]? =some o)
  (v:∀c e fr,o= .cells c e fr->∃f,z= .cells f e fr/\f.size=c.size):Ext A S L w A S (L.set b y) (bs w B z):=
 Ext.k4 C O T a D fun c e fr h=>let ⟨f,h1,h2⟩:=v c e fr h;⟨f,⟨fr,h1⟩,h2⟩
def al.write(C:al G A S L w){b B d:Nat}{x y:Ob}{o z:Obj}(O:L[b]? =some x)(T:bS x=true)(a:S b=some (B,d))(D:w.heap[B]? =some o)
  (v:∀c e fr,o= .cells c e fr->∃f,z= .cells f e fr/\f.size=c.size) (hy:bS y=true)
  (Y:dx A S (bs w B z) b y):al G A S (L.set b y) (bs w B z):=
 al.k4 C O T a D (fun c e fr h=>let ⟨f,h1,h2⟩:=v c e fr h;⟨f,⟨fr,h1⟩,h2⟩) hy Y
def Ext.i5(C:al G A S L w){b B d:Nat}{x y:Ob}{o z:Obj}(R:Nat)(O:L[b]? =some x)(T:bS x=true)(a:S b=some (B,d))(D:w.heap[B]? =some o)
  (v:∀c e fr,o= .cells c e fr->∃f,z= .cells f e fr/\f.size=c.size):
  Ext A S L w A (S.put L.length (B,R)) (L.set b .gone++[y]) (bs w B z) where
 size:=by simp
 os:=rfl
 tape:=rfl
 output:=rfl
 wh b p hp:=by rw[ay.dU _ _ (by have:=C.cz b p.1 p.2 hp;omega)];exact hp
 nw b O hn:=by rw[ay.dU _ _ w_];exact hn
 len:=by simp
 aK Z Y hn:=ew w z fun e=>hn ⟨b,x,d,O,T,e ▸ a⟩
 da Z c e fr hc:=by
  by_cases h:Z=B
  ·subst h;rw[D]at hc;simp only[pB]at hc;obtain⟨f,rfl,i⟩:=v c e fr hc;exact⟨f,⟨fr,fk w (dg D)⟩,i⟩
  exact⟨c,⟨fr,by rw[ew w z h];exact hc⟩,rfl⟩
 up _ h:=h
 down _ h:= .inl h
 own Z _ h:=by
  obtain⟨f,k,g,i,j,l⟩:=h
  rcases iI _ _ _ _ i with⟨h4,h5⟩|⟨h4,_⟩
  ·simp at h4;rw[ay.dU _ _ w_]at l
   by_cases m:f=b
   ·subst m;rw[Yb h4]at h5;simp only[pB]at h5;subst h5;simp[bS]at j
   rw[Vt (Ne.symm m)]at h5;exact⟨f,k,g,h5,j,l⟩
  simp at h4;subst h4;simp at l;exact⟨b,x,d,O,T,l.1 ▸ a⟩
def al.i5(C:al G A S L w){b B d:Nat}{x y:Ob}{o D:Obj}(R:Nat)(O:L[b]? =some x)(T:bS x=true)(a:S b=some (B,d))(E:w.heap[B]? =some o)
  (F:∀c e fr,o= .cells c e fr->∃f,D= .cells f e fr/\f.size=c.size)
  (Y:dx A (S.put L.length (B,R)) (bs w B D) L.length y):
  al G A (S.put L.length (B,R)) (L.set b .gone++[y]) (bs w B D) where
 ob f z hz:=by
  rcases iI _ _ _ _ hz with⟨j,h5⟩|⟨j,h5⟩
  ·simp at j
   by_cases l:f=b
   ·subst l;rw[Yb j]at h5;simp only[pB]at h5;subst h5;trivial
   rw[Vt (Ne.symm l)]at h5;refine dx.ext C (Ext.i5 C (y:=y) R O T a E F) (C.ob f z h5) fun H Z k m=> ?_;exact ew w D fun e=>C.inj b f x z B d k (Ne.symm l) O T h5 H a (e ▸ m)
  exact kg
 ca Z I h:=C.ca Z I ((Ext.i5 C (A:=A) (y:=y) R O T a E F).own Z (C.lt Z I) h)
 lt Z I:=by simpa using C.lt Z I
 inj k l H J Z d1 m K n U p M q j:=by
  have key:∀(r:Nat)(z:Ob)(P:Nat),(L.set b .gone++[y])[r]? =some z->bT z=true->S.put L.length (B,R) r=some (Z,P)->
    (r=L.length/\Z=B)\/(r≠L.length/\r≠b/\L[r]? =some z/\S r=some (Z,P)):=by
   intro r z P hz s V
   rcases iI _ _ _ _ hz with⟨t,u⟩|⟨t,u⟩
   ·simp at t
    by_cases N:r=b
    ·subst N;rw[Yb t]at u;simp only[pB]at u;subst u;simp[bT]at s
    rw[Vt (Ne.symm N)]at u;rw[ay.dU _ _ w_]at V
    grind
   exact kg
  rcases key k H d1 n (nZ U) q with⟨N,Q⟩|⟨N,Q,W,X⟩<;>rcases key l J m p M j with⟨f1,f2⟩|⟨f1,f2,f3,f4⟩
  ·omega
  ·subst Q;exact C.inj b l x J Z d m (Ne.symm f2) O T f3 M a f4
  ·subst f2;exact C.inj k b H x Z d1 d Q W U O (nZ T) X a
  exact C.inj k l H J Z d1 m K W U f3 M X f4
 cz f Z m h:=by
  by_cases ap:f=L.length
  ·exact VO
  rw[ay.dU _ _ ap]at h;have:=C.cz f Z m h;simp;omega
 gl g vs aw:=by
  obtain⟨n,p⟩:=C.gl g vs aw;refine⟨n,fun i v a0=> ?_⟩;obtain⟨q,j⟩:=p i v a0;refine⟨?_,j⟩;have K:g≠B:=fun e=>C.ca g n ⟨b,x,d,O,T,e ▸ a⟩;unfold World.cell? at*;rw[ew w D K];exact q
def al.drop(C:al G A S L w)(b:Nat):al G A S (L.set b .gone) w where
 ob g z hz:=by
  by_cases l:g=b
  ·subst l;rw[W1]at hz;simp at hz;obtain⟨_,rfl⟩:=hz;trivial
  rw[Vt (Ne.symm l)]at hz;exact C.ob g z hz
 ca B I h:=by
  obtain⟨g,k,d,i,j,m⟩:=h
  by_cases l:g=b
  ·subst l;rw[W1]at i;simp at i;obtain⟨_,rfl⟩:=i;simp[bS]at j
  rw[Vt (Ne.symm l)]at i;exact C.ca B I ⟨g,k,d,i,j,m⟩
 lt:=C.lt
 inj c e x y Z d1 d H i T j hl m h4:=by
  have f:∀(n:Nat)(z:Ob),(L.set b .gone)[n]? =some z->bT z=true->L[n]? =some z:=by
   intro n z hz o
   by_cases l:n=b
   ·subst l;rw[W1]at hz;simp at hz;obtain⟨_,rfl⟩:=hz;simp[bT]at o
   grind
  exact C.inj c e x y Z d1 d H (f c x i (nZ T)) T (f e y j hl) hl m h4
 cz g Z d h:=by simpa using C.cz g Z d h
 gl:=C.gl
def Ext.drop(b:Nat):Ext A S L w A S (L.set b .gone) w where
 size:=vA _
 os:=rfl
 tape:=rfl
 output:=rfl
 wh _ _ h:=h
 nw _ _ h:=h
 len:=by simp
 aK _ _ _:=rfl
 da _ c _ fr hc:=⟨c,⟨fr,hc⟩,rfl⟩
 up _ h:=h
 down _ h:= .inl h
 own B _ h:=by
  obtain⟨f,k,d,i,j,l⟩:=h
  by_cases m:f=b
  ·subst m;rw[W1]at i;simp at i;obtain⟨_,rfl⟩:=i;simp[bS]at j
  rw[Vt (Ne.symm m)]at i;exact⟨f,k,d,i,j,l⟩
end
section
variable {P:lB} {T:aq} [aG P T] {G:az} {A:Nat->Prop} {S:ay} {L:ag} {w:World}
def a7(P:lB)(G:az)(A:Nat->Prop)(S:ay)(L:ag)(w:World)(s:Sem Value)(r:RV)(n:ag):Prop:=
 ∃v w' O S',s.run P w= .ok v w'/\aD O S' w' r v/\al G O S' n w'/\Ext A S L w O S' n w'
def a7.still(B:al G A S L w){s:Sem Value}{r:RV}{v:Value}(h:s.run P w= .ok v w)(C:aD A S w r v):a7 P G A S L w s r L:=
 ⟨v,w,A,S,h,C,B,Ext.refl⟩
def bp{t:lA}{d:TypeDesc}(h:T.au t=some d):(underlying t).run P w= .ok d w:=by simp[underlying,aG.au (P:=P) t d h]
def n0{t:lA}{i:TypeInfo}(h:T.info t=some i):(typeInfo t).run P w= .ok i w:=by simp[typeInfo,aG.info (P:=P) t i h]
def dV{t:lA}{n:Nat}(h:a6 T t=some n):(sizeOf t).run P w= .ok n w:=by unfold a6 at h;cases hi:T.info t with| none=>simp[hi]at h|some i=>simp[hi]at h;subst h;simp[Go.sizeOf,n0 hi]
def qj{t:lA}{g:Bool}(h:ej T t=some g):(isAgg t).run P w= .ok g w:=by unfold ej at h;cases hd:T.au t with| none=>simp[hd]at h|some d=>cases d<;>simp[hd]at h<;>subst h<;>simp[isAgg,bp hd]
def bh.nil:bh A S w [] []:=⟨rfl,fun i x h=>by simp at h⟩
def bh.cons{x:LV}{v:Value}{xs:lW}{vs:List Value}(h:Rel A S w x v)(B:bh A S w xs vs):bh A S w (x::xs) (v::vs):=by exact ass
def bh.dc{x:LV}{xs:lW}{vs:List Value}(h:bh A S w (x::xs) vs):∃v k,vs=v::k/\Rel A S w x v/\bh A S w xs k:=by exact aqY
def bh.dR{vs:List Value}(h:bh A S w [] vs):vs=[]:=by have:=h.1;simp_all
def x4{x:LV}{u v:Value}(h:e7 x=some u)(C:Rel A S w x v):v=u:=by cases x with| p y=>(cases y with| vl a=>simp[e7]at h;subst h;cases C;rfl|sl n cs=>simp[e7]at h)|_=>simp[e7]at h
def xF:∀{xs:lW}{us vs:List Value},i3 xs=some us->bh A S w xs vs->vs=us
 | [],us,vs,h,C=>by simp[i3]at h;subst h;exact C.dR
 |x::xs,us,vs,h,C=>by
  obtain⟨v,k,rfl,i,j⟩:=C.dc;cases s:e7 x with
  |none=>simp[i3,s]at h
  |some a=>
   cases hb:i3 xs with
   |none=>simp[i3,s,hb]at h
   |some b=>
    simp[i3,s,hb]at h;subst h;rw[x4 s i,xF hb j]
def fl{r:RV}{u v:Value}(h:bE r=some u)(C:aD A S w r v):v=u:=by cases r with| v x=>(cases x with| one x=>exact x4 h C|agg xs=>(obtain⟨vs,rfl,y⟩:=C;simp only[bE]at h;cases s:i3 xs with| none=>simp[s]at h|some us=>simp[s]at h;subst h;have:=xF s y;rw[<- this]))|ab xs=>simp[bE]at h
def nH:∀{vs:List Value},jD vs=true->bh A S w (vs.map fun v=> .p (.vl v)) vs
 | [],_=>bh.nil
 |v::vs,h=>by
  simp only[jD,Cz]at h;exact bh.cons (.vl v h.1) (nH h.2)
def qk{v:Value}{r:RV}(h:g8 v=some r):aD A S w r v:=by unfold g8 at h;split at h;{rename_i cs;split at h;{rename_i B;simp at h;subst h;exact⟨cs,rfl,nH B⟩};simp at h};{rename_i vs;split at h;{rename_i B;simp at h;subst h;refine⟨vs,rfl,s_,fun i x y=> ?_⟩;have C:=nH (A:=A) (S:=S) (w:=w) B;simp only[VJ,CG]at y;obtain⟨u,j,rfl⟩:=y;obtain⟨l,k,m⟩:=C.2 i (.p (.vl u)) (by simp[j]);exact⟨l,by simpa using k,m⟩};simp at h};rename_i j k;simp at h;subst h;refine bG.vl v ?_;cases v<;>first| rfl|simp_all| simp_all
def iW(B:al G A S L w){s:Sem Value}{r:RV}(h:dX P s=some r):a7 P G A S L w s r L:=by unfold dX at h;cases hp:bi P s with| none=>simp[hp]at h|some v=>simp[hp]at h;exact a7.still B (xE hp w) (qk h)
def g0(B o k:Nat):Addr.add ⟨B,o,none⟩ k=⟨B,o+k,none⟩:=by unfold Addr.add;simp_all
def gY{α:Type}{l r:List α}{o n:Nat}(h:part l o n=some r):r.length=n/\∀i,i<n->l[o+i]? =r[i]? :=by unfold part at h;grind
def fJ{α:Type}{l r:List α}{o n:Nat}(h:part l o n=some r){i:Nat}{x:α}(y:r[i]? =some x):l[o+i]? =some x:=by obtain⟨j,k⟩:=gY h;grind
def kY{α β:Type}(r:List α)(Q:α->Nat->β->Prop)(h:∀(i:Nat) x,r[i]? =some x->∃v,Q x i v): ∃vs:List β,vs.length=r.length/\∀(i:Nat) x,r[i]? =some x->∃v,vs[i]? =some v/\Q x i v:=by induction r generalizing Q with| nil=>simp_all| cons a r d=>obtain⟨v,P⟩:=h 0 a rfl;obtain⟨vs,y,c⟩:=d (fun x i v=>Q x (i+1) v) (fun i x z=>h (i+1) x (by simpa using z));refine⟨v::vs,by simp[y],fun i x z=> ?_⟩;grind
def cell_of_heap{c:Array Value}{e:lA}{fr:Nat×Nat}{B i:Nat}{v:Value}(h:w.heap[B]? =some (.cells c e fr))(d:c[i]? =some v):w.cell? ⟨B,i,none⟩=some v:=by simp[World.cell?,h,d]
def Ha(C:al G A S L w){a:LV}{n:Nat}{cs:lW}{v:Value}(h:fo G L a n=some cs)(D:Rel A S w a v): ∃B o vs,v= .pointer (some ⟨B,o,none⟩)/\cs.length=n/\bh A S w cs vs/\∀(j:Nat) u,vs[j]? =some u->w.cell? ⟨B,o+j,none⟩=some u:=by
 cases a with
 |ref b o=>
  obtain⟨B,d,O,rfl⟩:=D;simp only[fo]at h;cases hl:L[b]? with
  |none=>simp[hl]at h
  |some ob=>
   cases ob with
   |cells l fz=>
    simp only[hl]at h;obtain⟨Z,R,c,e,fr,k,m,_,_,_,q⟩:=C.ob b _ hl;rw[O]at k;simp only[pB,q0]at k;obtain⟨rfl,rfl⟩:=k;obtain⟨vs,P,Q⟩:=kY cs (fun x i v=>c[d+(o+i)]? =some v/\Rel A S w x v) fun i x z=>q (o+i) x (fJ h z);refine⟨B,d+o,vs,rfl,(gY h).1,⟨P,fun i x z=>let ⟨u,s,E⟩:=Q i x z;⟨u,s,E.2⟩⟩,fun j u F=> ?_⟩;have K:j<cs.length:=by have:=(se.1 F).1;omega
    obtain⟨H,s,E,_⟩:=Q j cs[j] (v9 K);rw[F]at s;simp at s;subst s;exact cell_of_heap m (by grind)
   |tc t l buf=>
    simp only[hl]at h;obtain⟨Z,c,fr,k,m,_,_,_,q⟩:=C.ob b _ hl;rw[O]at k;simp only[pB,q0]at k;obtain⟨rfl,rfl⟩:=k;obtain⟨vs,P,Q⟩:=kY cs (fun x i v=>c[o+i]? =some v/\Rel A S w x v) fun i x z=>q (o+i) x (fJ h z);refine⟨B,0+o,vs,rfl,(gY h).1,⟨P,fun i x z=>let ⟨u,s,E⟩:=Q i x z;⟨u,s,E.2⟩⟩,fun j u F=> ?_⟩;have K:j<cs.length:=by have:=(se.1 F).1;omega
    obtain⟨H,s,E,_⟩:=Q j cs[j] (v9 K);rw[F]at s;simp at s;subst s;exact cell_of_heap m kg
   |_=>simp[hl]at h
 |aX l o=>
  obtain⟨B,d,I,rfl,f⟩:=D;simp only[fo]at h;cases hp:part l o n with
  |none=>simp[hp]at h
  |some r=>
   simp[hp]at h;subst h;obtain⟨vs,P,Q⟩:=kY r (fun x i v=>w.cell? ⟨B,d+(o+i),none⟩=some v/\bG A w x v) fun i x z=>
    ⟨_,(f (o+i) x (fJ hp z)).2⟩
   refine⟨B,d+o,vs,rfl,by simp[(gY hp).1],⟨by simp[P],fun i x z=> ?_⟩,fun j u F=> ?_⟩
   ·simp only[VJ,CG]at z;obtain⟨y,hy,rfl⟩:=z;obtain⟨u,s,E⟩:=Q i y hy;exact⟨u,s,E.2⟩
   have K:j<r.length:=by have:=(se.1 F).1;omega
   obtain⟨H,s,E,_⟩:=Q j r[j] (v9 K)
   grind
 |p x=>
  cases x with
  |sl n cs=>simp[fo]at h
  |vl u=>
   cases D with
   |vl _ T=>
   unfold fo at h;split at h
   ·exact kg
   ·exact kg
   ·rename_i g o heq;cases heq;cases J:G g with
    |none=>simp[J]at h
    |some gs=>
     simp only[J]at h;cases hp:part gs o n with
     |none=>simp[hp]at h
     |some r=>
      simp[hp]at h;subst h;obtain⟨M,U⟩:=C.gl g gs J;refine⟨g,o,r,rfl,by simp[(gY hp).1],⟨s_,fun i x z=> ?_⟩,fun j u F=> ?_⟩
      ·simp only[VJ,CG]at z;obtain⟨y,hy,rfl⟩:=z;exact⟨y,hy,.vl y (U (o+i) y (fJ hp hy)).2⟩
      exact(U (o+j) u (fJ hp F)).1
   simp at h
 |_=>simp[fo]at h
def p6{B o n:Nat}{vs:List Value}(x:vs.length=n)(h:∀(j:Nat) u,vs[j]? =some u->w.cell? ⟨B,o+j,none⟩=some u): (loadCells ⟨B,o,none⟩ n).run P w= .ok vs.toArray w:=by have:=run_loadCells_list (P:=P) (w:=w) ⟨B,o,none⟩ vs (fun j v s=>by rw[g0];exact h j v s);exact kg
def xj{g:Bool}{cs:lW}{vs:List Value}{r:RV}(h:gg g cs=some r)(C:bh A S w cs vs): (g=true/\aD A S w r (.agg vs.toArray))\/(g=false/\∃v,vs=[v]/\aD A S w r v):=by cases g with| true=>simp[gg]at h;subst h;exact .inl ⟨rfl,_,rfl,by simpa using C⟩|false=>(match cs,h with| [x],h=>simp[gg]at h;subst h;obtain⟨v,k,rfl,i,j⟩:=C.dc;have:=j.dR;subst this;exact .inr ⟨rfl,v,rfl,i⟩ | [],h=>simp[gg]at h|_::_::_,h=>simp[gg]at h)
def x5(C:al G A S L w){t:lA}{a r:RV}{z:Value}{p:ag}(h:a8 T G t a L=some (r,p))(s:aD A S w a z): p=L/\∃W v,z= .pointer (some W)/\(loadVar t W).run P w= .ok v w/\aD A S w r v:=by unfold a8 at h;split at h;{rename_i x n g h1 h2 h3;split at h;{rename_i D;split at h;{rename_i cs hc;split at h;{rename_i E H;simp at h;obtain⟨rfl,rfl⟩:=h;refine⟨rfl,?_⟩;cases a with| ab _=>simp[dO]at h1|v y=>(cases y with| agg _=>simp[dO]at h1|one y=>simp[dO]at h1;subst h1;obtain⟨B,o,vs,rfl,F,U,q⟩:=Ha C hc s;(rcases xj H U with⟨rfl,I⟩|⟨rfl,v,rfl,I⟩);{refine⟨_,_,rfl,?_,I⟩;simp[loadVar,qj h3,dV h2,p6 (P:=P) (U.1.trans F) q]};refine⟨_,_,rfl,?_,I⟩;have:=q 0 v rfl;simp at this;simp[loadVar,qj h3,this])};simp at h};simp at h};simp at h};simp at h
def Hb(B:al G A S L w){t:lA}{a r:RV}{z:Value}{n:ag}(h:a8 T G t a L=some (r,n))(s:aD A S w a z): a7 P G A S L w (Instr.loadAt t z) r n:=by obtain⟨rfl,W,v,rfl,i,j⟩:=x5 (P:=P) B h s;exact a7.still B (by simp[Instr.loadAt,Instr.sureAddr,i]) j
def nI{r:RV}{cs:lW}{v:Value}(h:gi r=some cs)(C:aD A S w r v):bh A S w cs v.cells.toList:=by cases r with| ab _=>simp[gi]at h|v x=>(cases x with| one x=>(simp[gi]at h;subst h;have T:=Rel.single C;have:v.cells=#[v]:=by cases v<;>first| rfl|(simp[single]at T));rw[this];exact bh.cons C bh.nil|agg xs=>simp[gi]at h;subst h;obtain⟨vs,rfl,y⟩:=C;simpa[Value.cells] using y)
def dx.new(B:al G A S L w){cs:lW}{c:Array Value}{e:lA}(y:cs.length<=c.size)(d:∀(i:Nat) x,cs[i]? =some x->∃v,c[i]? =some v/\Rel A S w x v): dx A (S.put L.length (w.heap.size,0)) (bF w (.cells c e)) L.length (.cells cs false):=by refine⟨w.heap.size,0,c,e,(0,0),ay.dG _ _ _,eL w _,by simpa using y,fun i _ h=>by simp at h,fun h=>by simp at h,fun i x z=> ?_⟩;obtain⟨v,j,k⟩:=d i x z;exact⟨v,by simpa using j,B.rel (Ext.push B (.cells cs false) (.cells c e) 0) k⟩
def tL(B:al G A S L w){cs:lW}{vs:Array Value}(e:lA)(C:bh A S w cs vs.toList): ∃S',(newRow e vs).run P w= .ok ⟨w.heap.size,0,none⟩ (bF w (.cells vs e))/\S' L.length=some (w.heap.size,0)/\ al G A S' (L++[.cells cs false]) (bF w (.cells vs e))/\Ext A S L w A S' (L++[.cells cs false]) (bF w (.cells vs e)):=by refine⟨S.put L.length (w.heap.size,0),by rfl,ay.dG _ _ _,B.push _ _ 0 ?_,Ext.push B _ _ 0⟩;refine dx.new B alq fun i x y=> ?_;obtain⟨v,h,j⟩:=C.2 i x y;exact kg
def xG(B:al G A S L w){cs:lW}{vs:Array Value}(e:lA)(C:bh A S w cs vs.toList): ∃S',(newRow e vs).run P w= .ok ⟨w.heap.size,0,none⟩ (bF w (.cells vs e))/\S' L.length=some (w.heap.size,0)/\ al G A S' (L++[.tc e cs false]) (bF w (.cells vs e))/\Ext A S L w A S' (L++[.tc e cs false]) (bF w (.cells vs e)):=by refine⟨S.put L.length (w.heap.size,0),by rfl,ay.dG _ _ _,B.push _ _ 0 ?_,Ext.push B _ _ 0⟩;have hl:=C.1;refine⟨w.heap.size,vs,(0,0),ay.dG _ _ _,eL w _,by simp_all,fun _=>⟨by simpa using hl,fun i _ h=>by simp at h⟩,Xq _,fun i x y=> ?_⟩;obtain⟨v,j,k⟩:=C.2 i x y;exact⟨v,by simpa using j,B.rel (Ext.push B (.tc e cs false) (.cells vs e) 0) k⟩
def Fh{t:lA}{cs:lW}(h:zeroOf T t=some cs):∃v,(∀w:World,(zeroValue t).run P w= .ok v w)/\jD v.cells.toList=true/\cs=v.cells.toList.map fun v=> .p (.vl v):=by unfold zeroOf at h;split at h;{rename_i i hi;split at h;{rename_i v Q;split at h;{rename_i S;simp at h;subst h;exact⟨v,fun w=>by simp[zeroValue,n0 hi,Q],S,rfl⟩};simp at h};simp at h};simp at h
def iM{t:lA}{cs:lW}(h:zeroOf T t=some cs):∃v,(∀w:World,(zeroValue t).run P w= .ok v w)/\∀{A S w},bh A S w cs v.cells.toList:=by obtain⟨v,i,j,rfl⟩:=Fh (P:=P) h;exact⟨v,i,nH j⟩
def Gg(B:al G A S L w){t:lA}{r:RV}{n:ag}(h:mm T t L=some (r,n)): a7 P G A S L w (Instr.alloc t true (.tuple #[])) r n:=by unfold mm at h;split at h;{rename_i cs hz;simp at h;obtain⟨rfl,rfl⟩:=h;obtain⟨v,Q,C⟩:=iM (P:=P) hz;obtain⟨S',i,j,k,l⟩:=tL (P:=P) B t (C (A:=A) (S:=S) (w:=w));exact atO};simp at h
def Ik(B:al G A S L w){t:lA}{x r:RV}{v:Value}{n:ag}(h:pd x L=some (r,n))(M:aD A S w x v): a7 P G A S L w (Instr.box t v) r n:=by unfold pd at h;split at h;{rename_i cs hc;simp at h;obtain⟨rfl,rfl⟩:=h;obtain⟨S',i,j,k,l⟩:=tL (P:=P) B t (nI hc M);exact auT};simp at h
def Gh(B:al G A S L w){t:lA}{r:RV}{n:ag}(h:ou T t L=some (r,n)): a7 P G A S L w (Instr.alloc t true (.tuple #[])) r n:=by unfold ou at h;split at h;{rename_i cs hz;simp at h;obtain⟨rfl,rfl⟩:=h;obtain⟨v,Q,C⟩:=iM (P:=P) hz;obtain⟨S',i,j,k,l⟩:=xG (P:=P) B t (C (A:=A) (S:=S) (w:=w));exact atO};simp at h
def Il(B:al G A S L w){t:lA}{x r:RV}{v:Value}{n:ag}(h:pe t x L=some (r,n))(M:aD A S w x v): a7 P G A S L w (Instr.box t v) r n:=by unfold pe at h;split at h;{rename_i cs hc;simp at h;obtain⟨rfl,rfl⟩:=h;obtain⟨S',i,j,k,l⟩:=xG (P:=P) B t (nI hc M);exact auT};simp at h
def EY{v:Value}(h:single v=true):v.oneCell'=true:=by cases v<;>first| rfl|(simp[single]at h)
def Fi{c:Array Value}{e:lA}{fr:Nat×Nat}{B i:Nat}{v:Value}(h:w.heap[B]? =some (.cells c e fr)): w.setCell ⟨B,i,none⟩ v=bs w B (.cells (c.setIfInBounds i v) e fr):=by have K:=dg h;simp only[World.setCell,bs];congr 1;grind
def Im{o:Obj}{B:Nat}(h:w.heap[B]? =some o):bs w B o=w:=by have K:=dg h;simp only[bs];congr 1;grind
def s9{B:Nat}{e:lA}{fr:Nat×Nat}:∀(vs:List Value)(o i:Nat)(c:Array Value)(w:World),w.heap[B]? =some (.cells c e fr)->o+i+vs.length<=c.size->
  (∀k,o+i<=k->k<c.size->¬(fr.1<=k/\k<fr.2))->(∀v∈vs,single v=true)->
  ∃f:Array Value,(storeCells ⟨B,o,none⟩ vs i).run P w= .ok () (bs w B (.cells f e fr))/\f.size=c.size/\
   ∀k,f[k]? =if o+i<=k/\k<o+i+vs.length then vs[k - (o+i)]? else c[k]?
 | [],o,i,c,w,h,hl,T,Q=>by
  refine⟨c,?_,rfl,fun k=>by simp;omega⟩;have:bs w B (.cells c e fr)=w:=by
   have K:=dg h;simp only[bs]
   congr 1
   apply Array.ext
   ·simp
   grind
  simp[storeCells,this]
 |v::vs,o,i,c,w,h,hl,T,Q=>by
  simp only[VP]at hl;have hc:w.cell? ⟨B,o+i,none⟩=some (c[o+i]'w_):=cell_of_heap h (Array.getElem?_eq_getElem w_);have Z:w.frozen? ⟨B,o+i,none⟩=false:=by
   have:=T (o+i) (vA _) w_;obtain⟨L,y⟩:=fr;simp only[World.frozen?,h];simp only at this;simp only[Bool.and_eq_false_imp,XO,decide_eq_false_iff_not];intro j l;exact this ⟨j,l⟩
  have l:(bs w B (.cells (c.setIfInBounds (o+i) v) e fr)).heap[B]? =some (.cells (c.setIfInBounds (o+i) v) e fr):=fk w (dg h);obtain⟨f,m,n,p⟩:=s9 vs o (i+1) (c.setIfInBounds (o+i) v) _ l VO (fun k C D=>T k w_ (by simpa using D)) (fun u q=>Q u (Xr _ q));refine⟨f,?_,by simpa using n,fun k=> ?_⟩
  ·have A:=run_store P w ⟨B,o+i,none⟩ v .plain (EY (Q v (aaO ..)));rw[hc]at A;simp only[Z,Vp,w4]at A;simp only[storeCells,g0,Sem.run_bind,A,Result.andThen_ok,Fi h,m]
   congr 1
   simp[bs]
  grind
def s'{B:Nat}{e:lA}{fr:Nat×Nat}(vs:List Value)(o i:Nat)(c:Array Value)(w:World)(h:w.heap[B]? =some (.cells c e fr))(x:o+i+vs.length<=c.size)
  (T:∀k,k<c.size->¬(fr.1<=k/\k<fr.2)) (Q:∀v∈vs,single v=true):
  ∃f:Array Value,(storeCells ⟨B,o,none⟩ vs i).run P w= .ok () (bs w B (.cells f e fr))/\f.size=c.size/\
   ∀k,f[k]? =if o+i<=k/\k<o+i+vs.length then vs[k - (o+i)]? else c[k]? :=
 s9 vs o i c w h x (fun k _=>T k) Q
def tr{α:Type}{l vs:List α}{o k:Nat}(h:o+vs.length<=l.length):(eM l o vs)[k]? =if o<=k/\k<o+vs.length then vs[k - o]? else l[k]? :=by unfold eM;by_cases h1:k<o;all_goals grind
def lY{α:Type}{l vs:List α}{o:Nat}(h:o+vs.length<=l.length):(eM l o vs).length=l.length:=by unfold eM;simp;omega
def bh.rb{xs:lW}{vs:List Value}(h:bh A S w xs vs):∀v∈vs,single v=true:=by(intro v P;obtain⟨i,y⟩:=List.mem_iff_getElem?.1 P;have K:i<xs.length:=by have:=(se.1 y).1;have:=h.1;omega);obtain⟨u,j,k⟩:=h.2 i xs[i] (v9 K);rw[y]at j;simp at j;subst j;exact k.single
def x6(C:al G A S L w){a:LV}{va:Value}{xs:lW}{vs:List Value}{n:ag}(h:gj L a xs=some n)(s:Rel A S w a va)(Q:bh A S w xs vs): ∃B o w',va= .pointer (some ⟨B,o,none⟩)/\(storeCells ⟨B,o,none⟩ vs).run P w= .ok () w'/\al G A S n w'/\Ext A S L w A S n w':=by cases a with| ref b o=>obtain⟨B,d,O,rfl⟩:=s;simp only[gj]at h;split at h;{rename_i cs hl;split at h;{(rename_i hle;simp at h;subst h;obtain⟨Z,R,c,e,fr,j,k,l,m,p,q⟩:=C.ob b _ hl;rw[O]at j;simp only[pB,q0]at j;obtain⟨rfl,rfl⟩:=j;have hlen:=Q.1;obtain⟨f,r,v,y⟩:=s' (P:=P) vs (d+o) 0 c w k w_ m Q.rb;have z:∀g D E,Obj.cells c e fr= .cells g D E->∃F,Obj.cells f e fr= .cells F D E/\F.size=g.size:=by intro g D E V;cases V;exact⟨f,rfl,v⟩);have hx:Ext A S L w A S (L.set b (.cells (eM cs o xs) false)) (bs w B (.cells f e fr)):=Ext.write C hl rfl O k z;refine⟨B,d+o,_,rfl,r,C.write hl rfl O k z rfl ?_,hx⟩;refine⟨B,d,f,e,fr,O,fk w (dg k),?_,by simp_all,fun H=>by simp at H,fun i x I=> ?_⟩;{rw[lY hle,v];exact l};rw[tr hle]at I;rw[y];split at I;{rename_i J;rw[if_pos w_];obtain⟨u,K,M⟩:=Q.2 _ _ I;refine⟨u,?_,C.rel hx M⟩;grind};rename_i J;rw[if_neg w_];obtain⟨u,K,M⟩:=q i x I;exact⟨u,K,C.rel hx M⟩};simp at h};{rename_i t cs hl;split at h;{(rename_i hle;simp at h;subst h;obtain⟨Z,c,fr,j,k,l,m,p,q⟩:=C.ob b _ hl;rw[O]at j;simp only[pB,q0]at j;obtain⟨rfl,rfl⟩:=j;obtain⟨r,v⟩:=m rfl;have hlen:=Q.1;obtain⟨f,y,z,D⟩:=s' (P:=P) vs (0+o) 0 c w k w_ v Q.rb;have E:∀g F H,Obj.cells c t fr= .cells g F H->∃I,Obj.cells f t fr= .cells I F H/\I.size=g.size:=by intro g F H V;cases V;exact⟨f,rfl,z⟩);have hx:Ext A S L w A S (L.set b (.tc t (eM cs o xs) false)) (bs w B (.cells f t fr)):=Ext.write C hl rfl O k E;refine⟨B,0+o,_,rfl,y,C.write hl rfl O k E rfl ?_,hx⟩;refine⟨B,f,fr,O,fk w (dg k),?_,fun _=>⟨?_,by simp_all⟩,?_,fun i x J=> ?_⟩;{rw[lY hle,z];exact l};{rw[lY hle,z];exact r};{rw[lY hle];exact p};rw[tr hle]at J;rw[D];split at J;{rename_i K;rw[if_pos w_];obtain⟨u,M,N⟩:=Q.2 _ _ J;refine⟨u,?_,C.rel hx N⟩;exact kg};rename_i K;rw[if_neg w_];obtain⟨u,M,N⟩:=q i x J;exact⟨u,M,C.rel hx N⟩};simp at h};{split at h;{simp at h;subst h;have:=Q.dR;subst this;exact⟨B,d+o,w,rfl,by rfl,C,Ext.refl⟩};simp at h};simp at h|_=>simp[gj]at h
def rA(P:lB)(G:az)(A:Nat->Prop)(S:ay)(L:ag)(w:World)(s:Sem Unit)(n:ag):Prop:=
 ∃w' O S',s.run P w= .ok () w'/\al G O S' n w'/\Ext A S L w O S' n w'
def Gi(C:al G A S L w){t:lA}{a v r:RV}{z c:Value}{p:ag}(h:cf T t a v L=some (r,p))(s:aD A S w a z)(Q:aD A S w v c): r=bl/\rA P G A S L w (Instr.storeAt t z c) p:=by unfold cf at h;split at h;{rename_i x n xs h1 h2 h3;split at h;{rename_i hn;split at h;{rename_i R hw;simp at h;obtain⟨rfl,rfl⟩:=h;refine⟨rfl,?_⟩;cases a with| ab _=>simp[dO]at h1|v y=>(cases y with| agg _=>simp[dO]at h1|one y=>(simp[dO]at h1;subst h1;have e:=nI h3 Q;obtain⟨B,o,w',rfl,k,l,m⟩:=x6 (P:=P) C hw s e;refine⟨w',A,S,?_,l,m⟩;have u:c.cells.size=n:=by have:=e.1;simp at this;omega);simp[Instr.storeAt,Instr.sureAddr,storeVar,dV h2,u,k])};simp at h};simp at h};simp at h
end
end Go.Sx
