/- A part of the proof of MeaningEmpty. -/
import Derived.Calls
set_option linter.all false
set_option maxRecDepth 1000000
set_option maxHeartbeats 0
namespace Go.Sx
structure Tab where
 und:TypeId→Option TypeDesc
 info:TypeId→Option TypeInfo
 trk:TypeId→Bool:=fun _=>false
class TOk (P:Program) (T:Tab):Prop where
 und:∀t d,T.und t=some d→P.underlying t=some d
 info:∀t i,T.info t=some i→P.info? t=some i
inductive PV where
 | vl (v:Value)
 | sl (n:Nat) (cs:List PV)
inductive LV where
 | p (x:PV)
 | ref (b o:Nat)
 | pref (cs:List PV) (o:Nat)
 | lsl (b o n z:Nat)
 | map (b:Nat)
 | fn (f:FuncId) (caps:List (Nat×Nat))
 | yld (b:Nat)
 | ifc (t:TypeId) (b o:Nat)
def mK:Nat:=1000
inductive RW where
 | one (x:LV)
 | agg (xs:List LV)
inductive RV where
 | v (x:RW)
 | tup (xs:List RW)
structure LR where
 fn:FuncId
 regs:List RV
 params:List Tmp
 assign:Code
 body:Code
 state:LoopState
 pending:Option Code
inductive Ob where
 | cells (cs:List LV) (fz:Bool)
 | map (es:List (Value×RW))
 | iter (s:ByteArray) (pos:Nat)
 | loop (r:LR)
 | gone
 | tc (t:TypeId) (cs:List LV) (ro:Bool)
structure St where
 regs:List RV
 hp:List Ob
def undefR:RV:= .tup []
def single:Value→Bool
 | .agg _=>false
 | .tuple _=>false
 | _=>true
def mapOpt {α β:Type} (f:α→Option β):List α→Option (List β)
 | []=>some []
 | x::xs=>match f x,mapOpt f xs with
  | some y,some ys=>some (y::ys)
  | _,_=>none
def atR (v:Value):RV:= .v (.one (.p (.vl v)))
def pureOf (P:Program) {α:Type}:Sem α→Option α
 | .pure a=>some a
 | .program k=>pureOf P (k P)
 | _=>none
theorem pureOf_run {P:Program} {α:Type}:∀{s:Sem α} {a:α},pureOf P s=some a→∀w,s.run P w= .ok a w
 | .pure _,_,h,_=>by simp only [pureOf,Option.some.injEq] at h;subst h;rfl
 | .program k,_,h,w=>by simp only [pureOf] at h;simp only [Sem.run];exact pureOf_run h w
 | .load ..,_,h,_=>by simp [pureOf] at h
 | .store ..,_,h,_=>by simp [pureOf] at h
 | .new ..,_,h,_=>by simp [pureOf] at h
 | .shape ..,_,h,_=>by simp [pureOf] at h
 | .freeze ..,_,h,_=>by simp [pureOf] at h
 | .frozen ..,_,h,_=>by simp [pureOf] at h
 | .getObj ..,_,h,_=>by simp [pureOf] at h
 | .setObj ..,_,h,_=>by simp [pureOf] at h
 | .choose ..,_,h,_=>by simp [pureOf] at h
 | .sys ..,_,h,_=>by simp [pureOf] at h
 | .mark ..,_,h,_=>by simp [pureOf] at h
 | .halt ..,_,h,_=>by simp [pureOf] at h
def atomL:LV→Option Value
 | .p (.vl v)=>some v
 | _=>none
def atomsL:List LV→Option (List Value)
 | []=>some []
 | x::xs=>match atomL x,atomsL xs with
  | some v,some vs=>some (v::vs)
  | _,_=>none
def toVal:RV→Option Value
 | .v (.one x)=>atomL x
 | .v (.agg xs)=>(atomsL xs).map fun l=> .agg l.toArray
 | .tup _=>none
def allSingle:List Value→Bool
 | []=>true
 | v::vs=>single v && allSingle vs
def ofVal:Value→Option RV
 | .agg cs=>if allSingle cs.toList then some (.v (.agg (cs.toList.map fun v=> .p (.vl v)))) else none
 | .tuple vs=>if allSingle vs.toList then some (.tup (vs.toList.map fun v=> .one (.p (.vl v)))) else none
 | v=>some (.v (.one (.p (.vl v))))
def cellsR:RV→Option (List LV)
 | .v (.one x)=>some [x]
 | .v (.agg xs)=>some xs
 | .tup _=>none
def oneR:RV→Option LV
 | .v (.one x)=>some x
 | _=>none
def isAggB (T:Tab) (t:TypeId):Option Bool:=
 match T.und t with
 | some (.struct _)=>some true
 | some (.array _ _)=>some true
 | some _=>some false
 | none=>none
def szOf (T:Tab) (t:TypeId):Option Nat:=(T.info t).map (·.size)
def zeroOf (T:Tab) (t:TypeId):Option (List LV):=
 match T.info t with
 | some i=>match i.zero with
  | some v=>if allSingle v.cells.toList then some (v.cells.toList.map fun v=> .p (.vl v)) else none
  | none=>none
 | none=>none
def ofCells (agg:Bool) (cs:List LV):Option RV:=
 match agg,cs with
 | true,cs=>some (.v (.agg cs))
 | false,[x]=>some (.v (.one x))
 | false,_=>none
def part {α:Type} (l:List α) (o n:Nat):Option (List α):=
 let r:=(l.drop o).take n
 if r.length=n then some r else none
def setPart {α:Type} (l:List α) (o:Nat) (vs:List α):List α:=l.take o++vs++l.drop (o+vs.length)
abbrev Globs:=Nat→Option (List Value)
def readC (G:Globs) (hp:List Ob) (a:LV) (n:Nat):Option (List LV):=
 match a with
 | .ref b o=>match hp[b]? with
  | some (.cells cs _)=>part cs o n
  | some (.tc _ cs _)=>part cs o n
  | _=>none
 | .pref cs o=>(part cs o n).map (·.map .p)
 | .p (.vl (.pointer (some ⟨g,o,none⟩)))=>match G g with
  | some vs=>(part vs o n).map (·.map fun v=> .p (.vl v))
  | none=>none
 | _=>none
def writeC (hp:List Ob) (a:LV) (vs:List LV):Option (List Ob):=
 match a with
 | .ref b o=>match hp[b]? with
  | some (.cells cs false)=>if o+vs.length≤cs.length then some (hp.set b (.cells (setPart cs o vs) false)) else none
  | some (.tc t cs false)=>if o+vs.length≤cs.length then some (hp.set b (.tc t (setPart cs o vs) false)) else none
  | some (.tc _ _ true)=>match vs with
   | []=>some hp
   | _=>none
  | _=>none
 | _=>none
def fillL (place:Nat→Option (Nat×Nat)) (cells:List LV):List (Nat×RV)→Option (List LV)
 | []=>some cells
 | (i,v)::rest=>
  match place i,cellsR v with
  | some (off,size),some vs=>
   if vs.length=size∧off+size≤cells.length then fillL place (setPart cells off vs) rest else none
  | _,_=>none
def intR:RV→Option Int
 | .v (.one (.p (.vl (.int _ n))))=>some n
 | _=>none
def bounds (len:Nat) (lo hi:Option Int):Option (Nat×Nat):=
 let h:=hi.getD len
 let l:=lo.getD 0
 if 0≤l∧l≤h∧h≤len then some (l.toNat,h.toNat) else none
def lookM (kv:Value):List (Value×RW)→Option RW
 | []=>none
 | (k,v)::es=>if Instr.sameBits 1 kv k then some v else lookM kv es
def putM (kv:Value) (x:RW):List (Value×RW)→List (Value×RW)
 | []=>[(kv,x)]
 | (k,v)::es=>if Instr.sameBits 1 kv k then (kv,x)::es else (k,v)::putM kv x es
def bytesOf:List LV→Option (List UInt8)
 | []=>some []
 | .p (.vl (.int .u8 n))::l=>(bytesOf l).map (UInt8.ofNat n.toNat::·)
 | _=>none
def ofBytes (s:ByteArray):List LV:=s.data.toList.map fun b=> .p (.vl (.int .u8 b.toNat))
def elems (hp:List Ob) (z:Nat):RV→Option (Nat×List LV)
 | .v (.one (.p (.vl (.slice none 0 0))))=>some (0,[])
 | .v (.one (.p (.vl (.string s))))=>if z=1 then some (s.size,ofBytes s) else none
 | .v (.one (.p (.sl n cs)))=>(part cs 0 (n*z)).map fun l=>(n,l.map .p)
 | .v (.one (.lsl b o n z'))=>if z'=z then match hp[b]? with
   | some (.cells cs _)=>(part cs o (n*z)).map fun l=>(n,l)
   | some (.tc _ cs _)=>(part cs o (n*z)).map fun l=>(n,l)
   | _=>none
  else none
 | _=>none
def i64R (n:Nat):RV:=atR (.int .i64 n)
def roomy (n bytes:Nat):Bool:=decide (n*bytes≤2^44∧n≤2^44)
def pureR (P:Program) (s:Sem Value):Option RV:=(pureOf P s).bind ofVal
def builtinA (P:Program) (T:Tab) (b:Builtin) (ats:Array TypeId) (ty:TypeId) (args:List RV) (hp:List Ob):Option (RV×List Ob):=
 match b,args with
 | .len,[a]=>
  match (ats[0]?).bind T.und,a with
  | some (.slice _),.v (.one (.p (.sl n _)))=>some (i64R n,hp)
  | some (.slice _),.v (.one (.lsl _ _ n _))=>some (i64R n,hp)
  | some .string,.v (.one (.p (.vl (.string s))))=>some (i64R s.size,hp)
  | some (.map _ _),.v (.one (.map b))=>match hp[b]? with
   | some (.map es)=>some (i64R es.length,hp)
   | _=>none
  | _,a=>match toVal a with
   | some v=>(pureR P (Builtin.len_ ats ty #[v])).map fun r=>(r,hp)
   | none=>none
 | .append,[s,x]=>
  match (ats[0]?).bind T.und,(ats[1]?).bind T.und with
  | some (.slice e),some xd=>
   match xd with
   | .int _=>none
   | _=>
   match T.info e,zeroOf T e with
   | some i,some zero=>
    let z:=i.size
    match elems hp z x with
    | some (m,new)=>
     if zero.length=z then
     match s with
     | .v (.one (.p (.vl (.slice none 0 0))))=>
      if m=0 then some (s,hp)
      else if roomy m i.bytes && decide (0<z) then some (.v (.one (.lsl hp.length 0 m z)),hp++[.cells new false]) else none
     | .v (.one (.lsl b o n z'))=>
      match hp[b]? with
      | some (.cells cs false)=>
       match part cs o (n*z) with
       | some old=>
        if z'=z && roomy (n+m) i.bytes && decide (0<z) then some (.v (.one (.lsl hp.length 0 (n+m) z)),hp.set b .gone++[.cells (old++new) false]) else none
       | none=>none
      | _=>none
     | .v (.one (.p (.sl _ _)))=>if m=0 then some (s,hp) else none
     | _=>none
     else none
    | none=>none
   | _,_=>none
  | _,_=>none
 | .copy,[d,x]=>
  match (ats[0]?).bind T.und with
  | some (.slice e)=>
   match T.info e with
   | some i=>
    match elems hp i.size x,d with
    | some (m,new),.v (.one (.lsl b o n z'))=>
     if z'=i.size then
      match writeC hp (.ref b o) (new.take (min m n*i.size)) with
      | some hp'=>some (i64R (min m n),hp')
      | none=>none
     else none
    | _,_=>none
   | none=>none
  | _=>none
 | .min,args=>match mapOpt toVal args with
  | some vs=>(pureR P (Builtin.min_ ats ty vs.toArray)).map fun r=>(r,hp)
  | none=>none
 | .max,args=>match mapOpt toVal args with
  | some vs=>(pureR P (Builtin.max_ ats ty vs.toArray)).map fun r=>(r,hp)
  | none=>none
 | _,_=>none
def allocA (T:Tab) (t:TypeId) (hp:List Ob):Option (RV×List Ob):=
 match zeroOf T t with
 | some cs=>some (.v (.one (.ref hp.length 0)),hp++[.cells cs false])
 | none=>none
def boxA (x:RV) (hp:List Ob):Option (RV×List Ob):=
 match cellsR x with
 | some cs=>some (.v (.one (.ref hp.length 0)),hp++[.cells cs false])
 | none=>none
def allocT (T:Tab) (t:TypeId) (hp:List Ob):Option (RV×List Ob):=
 match zeroOf T t with
 | some cs=>some (.v (.one (.ref hp.length 0)),hp++[.tc t cs false])
 | none=>none
def boxT (t:TypeId) (x:RV) (hp:List Ob):Option (RV×List Ob):=
 match cellsR x with
 | some cs=>some (.v (.one (.ref hp.length 0)),hp++[.tc t cs false])
 | none=>none
def bldP (n:String):String:= "builder.go" ++String.singleton (Char.ofNat 58)++n
def bldPos (s:String):Bool:=s==bldP "114" || s==bldP "97"
def appendB (T:Tab) (ats:Array TypeId) (args:List RV) (hp:List Ob):Option (RV×List Ob):=
 match args with
 | [s,x]=>
  match (ats[0]?).bind T.und,(ats[1]?).bind T.und with
  | some (.slice e),some xd=>
   match xd with
   | .int _=>none
   | _=>
   match T.info e,zeroOf T e with
   | some i,some zero=>
    match elems hp i.size x with
    | some (m,new)=>
     if zero.length=i.size∧m≠0∧0<i.size then
     match s with
     | .v (.one (.p (.vl (.slice none 0 0))))=>
      if roomy m i.bytes then some (.v (.one (.lsl hp.length 0 m i.size)),hp++[.tc e new true]) else none
     | .v (.one (.lsl b 0 n z'))=>
      match hp[b]? with
      | some (.tc e' cs true)=>
       if z'=i.size∧e'=e∧cs.length=n*i.size∧roomy (n+m) i.bytes=true then some (.v (.one (.lsl hp.length 0 (n+m) i.size)),hp.set b .gone++[.tc e (cs++new) true]) else none
      | _=>none
     | _=>none
     else none
    | none=>none
   | _,_=>none
  | _,_=>none
 | _=>none
def convRef (P:Program) (T:Tab) (s d:TypeId) (b o:Nat) (hp:List Ob):Option (RV×List Ob):=
 match T.und s,T.und d,hp[b]? with
 | some (.pointer t),some .unsafePointer,some (.tc _ cs false)=>match szOf T t with
  | some (_+1)=>if o<cs.length then some (.v (.one (.ref b o)),hp) else none
  | _=>none
 | some .unsafePointer,some (.pointer u),some (.tc e cs false)=>match szOf T u with
  | some (_+1)=>if liesAt P P.depth e (cs.length /P.cellsOf e) o u 1 then some (.v (.one (.ref b o)),hp) else none
  | _=>none
 | _,_,_=>none
def refEq (T:Tab) (op:BinOp) (t:TypeId) (x y:RV) (hp:List Ob):Option (RV×List Ob):=
 match x,y,T.und t with
 | .v (.one (.ref b o)),.v (.one (.ref b' o')),some (.pointer e)=>match szOf T e with
  | some (_+1)=>if b=b' then match op with
    | .eql=>some (atR (.bool (Nat.beq o o')),hp)
    | .neq=>some (atR (.bool !(Nat.beq o o')),hp)
    | _=>none
   else none
  | _=>none
 | _,_,_=>none
def sliceDataA (args:List RV) (hp:List Ob):Option (RV×List Ob):=
 match args with
 | [.v (.one (.lsl b o (_+1) _))]=>some (.v (.one (.ref b o)),hp)
 | _=>none
def capA (T:Tab) (ats:Array TypeId) (args:List RV) (hp:List Ob):Option (RV×List Ob):=
 match args,(ats[0]?).bind T.und with
 | [.v (.one (.p (.vl (.slice none 0 0))))],some (.slice _)=>some (i64R 0,hp)
 | _,_=>none
def unsafeStrA (P:Program) (T:Tab) (ats:Array TypeId) (args:List RV) (hp:List Ob):Option (RV×List Ob):=
 match args,(ats[0]?).bind T.und with
 | [.v (.one (.ref b 0)),.v (.one (.p (.vl (.int .i64 (.ofNat (n+1))))))],some (.pointer u)=>match hp[b]? with
  | some (.tc e cs true)=>match bytesOf cs with
   | some l=>if cs.length=n+1∧n+1≤2^40∧u=e∧P.cellsOf e=1 then some (atR (.string ⟨l.toArray⟩),hp) else none
   | none=>none
  | _=>none
 | _,_=>none
def placesOf (T:Tab) (t:TypeId):Option (Nat→Option (Nat×Nat)):=
 match T.und t with
 | some (.struct fields)=>some fun i=>match fields[i]? with
  | some f=>match szOf T f.type with
   | some s=>some (f.offset,s)
   | none=>none
  | none=>none
 | some (.array _ e)=>match szOf T e with
  | some s=>some fun i=>some (i*s,s)
  | none=>none
 | _=>none
def buildA (T:Tab) (t:TypeId) (ps:List (Nat×RV)) (hp:List Ob):Option (RV×List Ob):=
 match zeroOf T t,placesOf T t with
 | some zero,some place=>match fillL place zero ps with
  | some cs=>some (.v (.agg cs),hp)
  | none=>none
 | _,_=>none
def buildSliceA (T:Tab) (t:TypeId) (len:Nat) (ps:List (Nat×RV)) (hp:List Ob):Option (RV×List Ob):=
 match T.und t with
 | some (.slice e)=>match szOf T e,zeroOf T e with
  | some s,some zero=>
   if len*s≤2^24∧zero.length=s then
    match fillL (fun i=>some (i*s,s)) (List.replicate len zero).flatten ps with
    | some cs=>some (.v (.one (.lsl hp.length 0 len s)),hp++[.cells cs false])
    | none=>none
   else none
  | _,_=>none
 | _=>none
def loadA (T:Tab) (G:Globs) (t:TypeId) (a:RV) (hp:List Ob):Option (RV×List Ob):=
 match oneR a,szOf T t,isAggB T t with
 | some x,some n,some g=>if g || n==1 then match readC G hp x n with
   | some cs=>match ofCells g cs with
    | some r=>some (r,hp)
    | none=>none
   | none=>none
  else none
 | _,_,_=>none
def storeA (T:Tab) (t:TypeId) (a v:RV) (hp:List Ob):Option (RV×List Ob):=
 match oneR a,szOf T t,cellsR v with
 | some x,some n,some vs=>if vs.length=n then match writeC hp x vs with
   | some hp'=>some (undefR,hp')
   | none=>none
  else none
 | _,_,_=>none
def nilCheckA (x:RV) (hp:List Ob):Option (RV×List Ob):=
 match x with
 | .v (.one (.ref b o))=>some (.v (.one (.ref b o)),hp)
 | .v (.one (.pref cs o))=>some (.v (.one (.pref cs o)),hp)
 | .v (.one (.fn f cs))=>some (.v (.one (.fn f cs)),hp)
 | .v (.one (.p (.vl (.func (.func f) a b))))=>some (atR (.func (.func f) a b),hp)
 | .v (.one (.yld b))=>some (.v (.one (.yld b)),hp)
 | _=>none
def nilLike:RV→RV→Bool
 | .v (.one (.p (.sl _ _))),.v (.one (.p (.vl (.slice none _ _))))=>true
 | .v (.one (.lsl _ _ _ _)),.v (.one (.p (.vl (.slice none _ _))))=>true
 | .v (.one (.map _)),.v (.one (.p (.vl (.map none))))=>true
 | .v (.one (.fn _ _)),.v (.one (.p (.vl .nilFunc)))=>true
 | .v (.one (.ifc _ _ _)),.v (.one (.p (.vl .nilIface)))=>true
 | .v (.one (.ref _ _)),.v (.one (.p (.vl (.pointer none))))=>true
 | _,_=>false
def nilType (T:Tab) (t:TypeId) (b:RV):Bool:=
 match T.und t,b with
 | some (.slice _),.v (.one (.p (.vl (.slice none _ _))))=>true
 | some (.map _ _),.v (.one (.p (.vl (.map none))))=>true
 | some (.func _ _ _),.v (.one (.p (.vl .nilFunc)))=>true
 | some (.interface _),.v (.one (.p (.vl .nilIface)))=>true
 | some (.pointer _),.v (.one (.p (.vl (.pointer none))))=>true
 | _,_=>false
def binA (P:Program) (T:Tab) (op:BinOp) (t:TypeId) (x y:Operand) (a b:RV) (hp:List Ob):Option (RV×List Ob):=
 match toVal a,toVal b with
 | some u,some v=>match pureR P (do eqGuard op t x y u v;binOp op t u v) with
  | some r=>some (r,hp)
  | none=>none
 | _,_=>if nilLike a b && nilType T t b then match op with
   | .eql=>some (atR (.bool false),hp)
   | .neq=>some (atR (.bool true),hp)
   | _=>none
  else refEq T op t a b hp
def convertA (P:Program) (T:Tab) (s d:TypeId) (x:RV) (hp:List Ob):Option (RV×List Ob):=
 match toVal x with
 | some (.string str)=>match T.und s,T.und d with
  | some .string,some .string=>some (x,hp)
  | some .string,some (.slice e)=>match T.und e with
   | some (.int .u8)=>if roomy str.size 1 then some (.v (.one (.lsl hp.length 0 str.size 1)),hp++[.cells (ofBytes str) false]) else none
   | _=>none
  | _,_=>none
 | some v=>match pureR P (convert s d v) with
  | some r=>some (r,hp)
  | none=>none
 | none=>match T.und s,T.und d with
  | some (.slice e),some .string=>match T.und e with
   | some (.int .u8)=>match elems hp 1 x with
    | some (_,cs)=>match bytesOf cs with
     | some l=>some (atR (.string ⟨l.toArray⟩),hp)
     | none=>none
    | none=>none
   | _=>none
  | _,_=>none
def ifaceA (P:Program) (T:Tab) (t:TypeId) (x:RV) (hp:List Ob):Option (RV×List Ob):=
 match x with
 | .v (.one (.ref b o))=>match T.und t with
  | some (.interface _)=>none
  | some _=>some (.v (.one (.ifc t b o)),hp)
  | none=>none
 | r=>match toVal r with
  | some v=>match pureR P (Instr.makeInterface t v) with
   | some r=>some (r,hp)
   | none=>none
  | none=>none
def refOf:RV→Option (Nat×Nat)
 | .v (.one (.ref b o))=>some (b,o)
 | _=>none
def funcA (fn:Fn) (first captured:List RV) (hp:List Ob):Option (RV×List Ob):=
 match mapOpt toVal first,mapOpt toVal captured with
 | some a,some b=>some (atR (.func fn a.toArray b.toArray),hp)
 | some [],none=>match fn,mapOpt refOf captured with
  | .func f,some l=>if f<mK then some (.v (.one (.fn f l)),hp) else none
  | _,_=>none
 | none,some []=>match fn,mapOpt refOf first with
  | .func f,some l=>some (.v (.one (.fn (f+mK) l)),hp)
  | _,_=>none
 | _,_=>none
def makeSliceA (T:Tab) (t:TypeId) (l c:RV) (hp:List Ob):Option (RV×List Ob):=
 match T.und t,intR l,intR c with
 | some (.slice e),some n,some m=>match T.info e,zeroOf T e with
  | some i,some zero=>
   if 0≤n∧n≤m∧roomy m.toNat i.bytes=true∧zero.length=i.size∧0<i.size then
    some (.v (.one (.lsl hp.length 0 n.toNat i.size)),hp++[.cells (List.replicate n.toNat zero).flatten false])
   else none
  | _,_=>none
 | _,_,_=>none
def optInt:Option RV→Option (Option Int)
 | none=>some none
 | some r=>match intR r with
  | some n=>some (some n)
  | none=>none
def optVal:Option RV→Option (Option Value)
 | none=>some none
 | some r=>match toVal r with
  | some n=>some (some n)
  | none=>none
def sliceA (P:Program) (T:Tab) (t:TypeId) (x:RV) (lo hi mx:Option RV) (hp:List Ob):Option (RV×List Ob):=
 match toVal x with
 | some v=>match optVal lo,optVal hi,optVal mx with
  | some l,some h,some m=>match pureR P (Instr.sliceAt t v l h m) with
   | some r=>some (r,hp)
   | none=>none
  | _,_,_=>none
 | none=>match mx,optInt lo,optInt hi with
  | none,some l',some h'=>match T.und t,x with
   | some (.slice e),.v (.one (.p (.sl n cs)))=>match szOf T e,bounds n l' h' with
    | some s,some (l,h)=>match part cs (l*s) ((h - l)*s) with
     | some p=>some (.v (.one (.p (.sl (h - l) p))),hp)
     | none=>none
    | _,_=>none
   | some (.slice e),.v (.one (.lsl b o n z))=>match szOf T e,bounds n l' h' with
    | some s,some (l,h)=>if z=s then some (.v (.one (.lsl b (o+l*s) (h - l) s)),hp) else none
    | _,_=>none
   | some (.array k e),.v (.one (.ref b o))=>match szOf T e,bounds k l' h',hp[b]? with
    | some s,some (l,h),some (.cells cs _)=>if o+k*s≤cs.length then some (.v (.one (.lsl b (o+l*s) (h - l) s)),hp) else none
    | _,_,_=>none
   | _,_=>none
  | _,_,_=>none
def moveAddr (x:LV) (k:Nat):Option LV:=
 match x with
 | .ref b o=>some (.ref b (o+k))
 | .pref cs o=>some (.pref cs (o+k))
 | .p (.vl (.pointer (some ⟨g,o,none⟩)))=>some (.p (.vl (.pointer (some ⟨g,o+k,none⟩))))
 | _=>none
def fieldAddrA (T:Tab) (s:TypeId) (x:RV) (f:Nat) (hp:List Ob):Option (RV×List Ob):=
 match T.und s,oneR x with
 | some (.struct fields),some x=>match fields[f]? with
  | some fd=>match szOf T fd.type,moveAddr x fd.offset with
   | some (_+1),some y=>some (.v (.one y),hp)
   | _,_=>none
  | none=>none
 | _,_=>none
def partA (T:Tab) (t:TypeId) (cs:List LV) (o:Nat) (hp:List Ob):Option (RV×List Ob):=
 match isAggB T t,szOf T t with
 | some g,some n=>if g || n==1 then match part cs o n with
   | some l=>match ofCells g l with
    | some r=>some (r,hp)
    | none=>none
   | none=>none
  else none
 | _,_=>none
def fieldA (T:Tab) (t:TypeId) (x:RV) (f:Nat) (hp:List Ob):Option (RV×List Ob):=
 match T.und t,x with
 | some (.struct fields),.v (.agg cs)=>match fields[f]? with
  | some fd=>partA T fd.type cs fd.offset hp
  | none=>none
 | _,_=>none
def indexAddrA (T:Tab) (t:TypeId) (x ix:RV) (hp:List Ob):Option (RV×List Ob):=
 match T.und t,x,intR ix with
 | some (.array n e),.v (.one x),some i=>match szOf T e with
  | some s=>if 0≤i∧i<n then match moveAddr x (i.toNat*s) with
    | some y=>some (.v (.one y),hp)
    | none=>none
   else none
  | none=>none
 | some (.slice e),.v (.one (.p (.sl n cs))),some i=>match szOf T e with
  | some s=>if 0≤i∧i<n then some (.v (.one (.pref cs (i.toNat*s))),hp) else none
  | none=>none
 | some (.slice e),.v (.one (.lsl b o n z)),some i=>match szOf T e with
  | some s=>if z=s∧0≤i∧i<n then some (.v (.one (.ref b (o+i.toNat*s))),hp) else none
  | none=>none
 | _,_,_=>none
def indexA (P:Program) (T:Tab) (t:TypeId) (x ix:RV) (hp:List Ob):Option (RV×List Ob):=
 match toVal x,toVal ix with
 | some u,some v=>match pureR P (Instr.index t u v) with
  | some r=>some (r,hp)
  | none=>none
 | _,_=>match T.und t,x,intR ix with
  | some (.array n e),.v (.agg cs),some i=>match szOf T e with
   | some s=>if 0≤i∧i<n then partA T e cs (i.toNat*s) hp else none
   | none=>none
  | _,_,_=>none
def keyFits (kd:TypeDesc) (k:Value):Bool:=
 match kd,k with
 | .int j,.int k _=>j==k
 | .string,.string _=>true
 | .bool,.bool _=>true
 | _,_=>false
def mapOf (x:RV) (hp:List Ob):Option (List (Value×RW)):=
 match x with
 | .v (.one (.map b))=>match hp[b]? with
  | some (.map es)=>some es
  | _=>none
 | .v (.one (.p (.vl (.map none))))=>some []
 | _=>none
def zeroR (T:Tab) (t:TypeId):Option RV:=
 match T.info t with
 | some i=>match i.zero with
  | some v=>ofVal v
  | none=>none
 | none=>none
def lookupA (T:Tab) (t:TypeId) (x k:RV) (ok:Bool) (hp:List Ob):Option (RV×List Ob):=
 match T.und t,toVal k,mapOf x hp with
 | some (.map kt e),some kv,some es=>match T.und kt,zeroR T e with
  | some kd,some (.v z)=>
   if keyFits kd kv && es.all (fun e=>keyFits kd e.1) then
    match lookM kv es with
    | some x=>some (if ok then .tup [x,.one (.p (.vl (.bool true)))] else .v x,hp)
    | none=>some (if ok then .tup [z,.one (.p (.vl (.bool false)))] else .v z,hp)
   else none
  | _,_=>none
 | _,_,_=>none
def mapPutA (T:Tab) (t:TypeId) (m k x:RV) (hp:List Ob):Option (RV×List Ob):=
 match T.und t,m,toVal k,x with
 | some (.map kt _),.v (.one (.map b)),some kv,.v x=>match T.und kt,hp[b]? with
  | some kd,some (.map es)=>
   if keyFits kd kv && es.all (fun e=>keyFits kd e.1) then some (undefR,hp.set b (.map (putM kv x es))) else none
  | _,_=>none
 | _,_,_,_=>none
def nextA (it:RV) (hp:List Ob):Option (RV×List Ob):=
 match it with
 | .v (.one (.ref b 0))=>match hp[b]? with
  | some (.iter s pos)=>
   if pos<s.size then
    some (.tup [.one (.p (.vl (.bool true))),.one (.p (.vl (goInt pos))),.one (.p (.vl (.int .i32 (Utf8.decode s pos).1)))],hp.set b (.iter s (pos+(Utf8.decode s pos).2)))
   else some (.tup [.one (.p (.vl (.bool false)))],hp)
  | _=>none
 | _=>none
def convQ (P:Program) (T:Tab) (s d:TypeId) (x:RV) (hp:List Ob):Option (RV×List Ob):=
 match x,T.und s,T.und d with
 | .v (.one (.p (.vl (.int _ n)))),some _,some (.int k)=>some (atR (.int k (k.wrap n)),hp)
 | _,_,_=>convertA P T s d x hp
def indexQ (P:Program) (T:Tab) (t:TypeId) (x ix:RV) (hp:List Ob):Option (RV×List Ob):=
 match x,ix,T.und t with
 | .v (.one (.p (.vl (.string s)))),.v (.one (.p (.vl (.int _ n)))),some .string=>
  match n with
  | .ofNat i=>match s[i]? with
   | some b=>some (atR (.int .u8 b.toNat),hp)
   | none=>none
  | .negSucc _=>none
 | _,_,_=>indexA P T t x ix hp
def sliceQ (P:Program) (T:Tab) (t:TypeId) (x:RV) (lo hi mx:Option RV) (hp:List Ob):Option (RV×List Ob):=
 match x,T.und t,mx with
 | .v (.one (.p (.vl (.string s)))),some .string,none=>
  match optInt lo,optInt hi with
  | some l',some h'=>match bounds s.size l' h' with
   | some (l,h)=>some (atR (.string (s.extract l h)),hp)
   | none=>none
  | _,_=>none
 | _,_,_=>sliceA P T t x lo hi mx hp
def opA (P:Program) (T:Tab) (G:Globs) (ρ:Operand→RV) (o:Oper) (hp:List Ob):Option (RV×List Ob):=
 match o.op with
 | .move x=>some (ρ x,hp)
 | .assign x=>some (ρ x,hp)
 | .pick c a b=>match ρ c with
  | .v (.one (.p (.vl (.bool t))))=>some (if t then ρ a else ρ b,hp)
  | _=>none
 | .alloc t=>match T.trk t with
  | true=>allocT T t hp
  | false=>allocA T t hp
 | .box t x=>match T.trk t with
  | true=>boxT t (ρ x) hp
  | false=>boxA (ρ x) hp
 | .build t parts=>buildA T t (parts.toList.map fun p=>(p.1,ρ p.2)) hp
 | .buildSlice t len parts=>buildSliceA T t len (parts.toList.map fun p=>(p.1,ρ p.2)) hp
 | .load t a=>loadA T G t (ρ a) hp
 | .store t a v=>storeA T t (ρ a) (ρ v) hp
 | .nilCheck x=>nilCheckA (ρ x) hp
 | .binOp op t x y _=>binA P T op t x y (ρ x) (ρ y) hp
 | .unOp op _ x=>match toVal (ρ x) with
  | some v=>match pureR P (Op.unary op v) with
   | some r=>some (r,hp)
   | none=>none
  | none=>none
 | .convert s d x=>match ρ x with
  | .v (.one (.ref b o))=>convRef P T s d b o hp
  | r=>convQ P T s d r hp
 | .makeInterface t x=>ifaceA P T t (ρ x) hp
 | .makeFunc fn first captured=>funcA fn (first.toList.map ρ) (captured.toList.map ρ) hp
 | .makeMap _ none=>some (.v (.one (.map hp.length)),hp++[.map []])
 | .makeSlice t l c=>makeSliceA T t (ρ l) (ρ c) hp
 | .slice t x lo hi mx=>sliceQ P T t (ρ x) (lo.map ρ) (hi.map ρ) (mx.map ρ) hp
 | .fieldAddr s x f=>fieldAddrA T s (ρ x) f hp
 | .field t x f=>fieldA T t (ρ x) f hp
 | .indexAddr t x ix=>indexAddrA T t (ρ x) (ρ ix) hp
 | .index t x ix=>indexQ P T t (ρ x) (ρ ix) hp
 | .lookup t x k ok=>lookupA T t (ρ x) (ρ k) ok hp
 | .extract t i=>match ρ t with
  | .tup vs=>match vs[i]? with
   | some x=>some (.v x,hp)
   | none=>none
  | _=>none
 | .mapUpdate t m k x=>mapPutA T t (ρ m) (ρ k) (ρ x) hp
 | .insert t m k x=>mapPutA T t (ρ m) (ρ k) (ρ x) hp
 | .range t x=>match T.und t,ρ x with
  | some .string,.v (.one (.p (.vl (.string s))))=>some (.v (.one (.ref hp.length 0)),hp++[.iter s 0])
  | _,_=>none
 | .next it true=>nextA (ρ it) hp
 | .call {callee:= .builtin b,args,argTypes}=>match b with
  | .append=>match bldPos o.pos with
   | true=>appendB T argTypes (args.toList.map ρ) hp
   | false=>builtinA P T .append argTypes o.type (args.toList.map ρ) hp
  | .unsafeSliceData=>sliceDataA (args.toList.map ρ) hp
  | .unsafeString=>unsafeStrA P T argTypes (args.toList.map ρ) hp
  | .cap=>capA T argTypes (args.toList.map ρ) hp
  | b=>builtinA P T b argTypes o.type (args.toList.map ρ) hp
 | _=>none
end Go.Sx
namespace Go.Sx
inductive EncP (A:Nat→Prop) (w:World):PV→Value→Prop
 | vl (v:Value) (h:single v=true):EncP A w (.vl v) v
 | sl (n:Nat) (cs:List PV) (B o cap:Nat) (vs:Nat→Value) (hn:n≤cap)
   (hA:∀(i:Nat) c,cs[i]? =some c→A B)
   (hc:∀(i:Nat) c,cs[i]? =some c→w.cell? ⟨B,o+i,none⟩=some (vs i))
   (he:∀(i:Nat) c,cs[i]? =some c→EncP A w c (vs i)):EncP A w (.sl n cs) (.slice (some ⟨B,o,none⟩) n cap)
theorem EncP.single {A:Nat→Prop} {w:World} {x:PV} {v:Value} (h:EncP A w x v):single v=true:=by
 cases h with
 | vl _ h=>exact h
 | sl=>rfl
theorem EncP.ext {A A':Nat→Prop} {w w':World} {x:PV} {v:Value} (h:EncP A w x v) (hA:∀B,A B→A' B∧w'.heap[B]? =w.heap[B]?):EncP A' w' x v:=by
 induction h with
 | vl v h=>exact .vl v h
 | sl n cs B o cap vs hn h1 hc _ ih=>
  refine .sl n cs B o cap vs hn (fun i c hi=>(hA B (h1 i c hi)).1) (fun i c hi=> ?_) (fun i c hi=>ih i c hi);have:=hc i c hi;unfold World.cell? at*
  grind
abbrev Where:=Nat→Option (Nat×Nat)
def fnVal (f:FuncId) (ps:Array Value):Value:=match Nat.blt f mK with
 | true=> .func (.func f) #[] ps
 | false=> .func (.func (f - mK)) ps #[]
theorem fnVal_form (f:FuncId) (ps:Array Value):∃g a b,fnVal f ps= .func (.func g) a b:=by
 unfold fnVal;split
 all_goals simp_all
def Rel (A:Nat→Prop) (S:Where) (w:World):LV→Value→Prop
 | .p x,v=>EncP A w x v
 | .ref b o,v=>∃B d,S b=some (B,d)∧v= .pointer (some ⟨B,d+o,none⟩)
 | .pref cs o,v=>∃(B d:Nat) (vs:Nat→Value),v= .pointer (some ⟨B,d+o,none⟩)∧∀(i:Nat) c,cs[i]? =some c→A B∧w.cell? ⟨B,d+i,none⟩=some (vs i)∧EncP A w c (vs i)
 | .lsl b o n z,v=>∃B d q cap,S b=some (B,d)∧v= .slice (some ⟨B,q,none⟩) n cap∧n≤cap∧(0<cap→q=d+o∧∃c e fr,w.heap[B]? =some (.cells c e fr)∧d+o+cap*z≤c.size)
 | .map b,v=>∃B d,S b=some (B,d)∧v= .map (some B)
 | .fn f caps,v=>∃ps:List Value,v=fnVal f ps.toArray∧ps.length=caps.length∧∀(i:Nat) b o,caps[i]? =some (b,o)→∃B d,S b=some (B,d)∧ps[i]? =some (Value.pointer (some ⟨B,d+o,none⟩))
 | .yld b,v=>∃B d,S b=some (B,d)∧v= .func (.yield B) #[] #[]
 | .ifc t b o,v=>∃B d,S b=some (B,d)∧v= .iface t (.pointer (some ⟨B,d+o,none⟩))
theorem Rel.single {A:Nat→Prop} {S:Where} {w:World} {x:LV} {v:Value} (h:Rel A S w x v):single v=true:=by
 cases x with
 | p x=>exact EncP.single h
 | ref b o=>obtain ⟨B,d,_,rfl⟩:=h;rfl
 | pref cs o=>obtain ⟨B,d,vs,rfl,_⟩:=h;rfl
 | lsl b o n z=>obtain ⟨B,d,q,cap,_,rfl,_⟩:=h;rfl
 | map b=>obtain ⟨B,d,_,rfl⟩:=h;rfl
 | fn f caps=>obtain ⟨ps,rfl,_⟩:=h;unfold fnVal;split<;>rfl
 | yld b=>obtain ⟨B,d,_,rfl⟩:=h;rfl
 | ifc t b o=>obtain ⟨B,d,_,rfl⟩:=h;rfl
def RelL (A:Nat→Prop) (S:Where) (w:World) (xs:List LV) (vs:List Value):Prop:=
 vs.length=xs.length∧∀(i:Nat) x,xs[i]? =some x→∃v,vs[i]? =some v∧Rel A S w x v
def RelW (A:Nat→Prop) (S:Where) (w:World):RW→Value→Prop
 | .one x,v=>Rel A S w x v
 | .agg xs,v=>∃vs:Array Value,v= .agg vs∧RelL A S w xs vs.toList
def RelR (A:Nat→Prop) (S:Where) (w:World):RV→Value→Prop
 | .v x,v=>RelW A S w x v
 | .tup xs,v=>∃vs:Array Value,v= .tuple vs∧vs.size=xs.length∧∀(i:Nat) x,xs[i]? =some x→∃u,vs[i]? =some u∧RelW A S w x u
def mutOb:Ob→Bool
 | .cells _ fz=> !fz
 | .gone=>false
 | _=>true
def liveOb:Ob→Bool
 | .gone=>false
 | _=>true
def Owned (S:Where) (L:List Ob) (B:Nat):Prop:=∃(b:Nat) (ob:Ob) (d:Nat),L[b]? =some ob∧mutOb ob=true∧S b=some (B,d)
def RelRs (A:Nat→Prop) (S:Where) (w:World) (rs:List RV) (vs:Array Value):Prop:=
 vs.size=rs.length∧∀(i:Nat) r,rs[i]? =some r→∃v,vs[i]? =some v∧RelR A S w r v
def ObRel (A:Nat→Prop) (S:Where) (w:World) (b:Nat):Ob→Prop
 | .cells cs fz=>∃B d c e fr,S b=some (B,d)∧w.heap[B]? =some (.cells c e fr)∧d+cs.length≤c.size∧(∀i,i<c.size→¬(fr.1≤i∧i<fr.2))∧
   (fz=true→A B)∧∀(i:Nat) x,cs[i]? =some x→∃v,c[d+i]? =some v∧Rel A S w x v
 | .map es=>∃B d ents clock,S b=some (B,d)∧w.heap[B]? =some (.map ents clock)∧ents.size=es.length∧
   ∀(i:Nat) k x,es[i]? =some (k,x)→∃e,ents[i]? =some e∧e.key=k∧RelW A S w x e.val
 | .iter s pos=>∃B,S b=some (B,0)∧w.heap[B]? =some (.stringIter s pos)
 | .loop r=>∃B d tmps D,S b=some (B,d)∧w.heap[B]? =some (.loop {state:=r.state,pending:=r.pending,fn:=r.fn,tmps,params:=r.params.toArray,assign:=r.assign,body:=r.body,defers:=D})∧
   RelRs A S w r.regs tmps
 | .gone=>True
 | .tc t cs buf=>∃B c fr,S b=some (B,0)∧w.heap[B]? =some (.cells c t fr)∧cs.length≤c.size∧(buf=false→c.size=cs.length∧∀i,i<c.size→¬(fr.1≤i∧i<fr.2))∧fr.2≤cs.length∧
   ∀(i:Nat) x,cs[i]? =some x→∃v,c[i]? =some v∧Rel A S w x v
structure Sim (G:Globs) (A:Nat→Prop) (S:Where) (L:List Ob) (w:World):Prop where
 ob:∀(b:Nat) o,L[b]? =some o→ObRel A S w b o
 dis:∀B,A B→¬Owned S L B
 lt:∀B,A B→B<w.heap.size
 inj:∀(b b':Nat) o o' B d d',b≠b'→L[b]? =some o→mutOb o=true→L[b']? =some o'→liveOb o'=true→S b=some (B,d)→S b'=some (B,d')→False
 dom:∀b B d,S b=some (B,d)→b<L.length
 gl:∀g vs,G g=some vs→A g∧∀(i:Nat) v,vs[i]? =some v→w.cell? ⟨g,i,none⟩=some v∧single v=true
structure ExtN (n:Nat) (A:Nat→Prop) (S:Where) (L:List Ob) (w:World) (A':Nat→Prop) (S':Where) (L':List Ob) (w':World):Prop where
 size:w.heap.size≤w'.heap.size
 os:w'.os=w.os
 tape:w'.tape=w.tape
 output:w'.output=w.output
 wh:∀b p,S b=some p→S' b=some p
 nw:∀b,b<n→S b=none→S' b=none
 len:L.length≤L'.length
 keep:∀B,B<w.heap.size→¬Owned S L B→w'.heap[B]? =w.heap[B]?
 shp:∀(B:Nat) (c:Array Value) (e:TypeId) (fr:Nat×Nat),w.heap[B]? =some (Obj.cells c e fr)→∃c':Array Value,(∃fr',w'.heap[B]? =some (Obj.cells c' e fr'))∧c'.size=c.size
 up:∀B,A B→A' B
 down:∀B,A' B→A B∨w.heap.size≤B∨Owned S L B
 own:∀B,B<w.heap.size→Owned S' L' B→Owned S L B
abbrev Ext (A:Nat→Prop) (S:Where) (L:List Ob) (w:World) (A':Nat→Prop) (S':Where) (L':List Ob) (w':World):Prop:=ExtN L.length A S L w A' S' L' w'
section
variable {G:Globs} {A A' A'':Nat→Prop} {S S' S'':Where} {L L' L'':List Ob} {w w' w'':World} {n m:Nat}
theorem ExtN.refl:ExtN n A S L w A S L w:=
 ⟨Nat.le_refl _,rfl,rfl,rfl,fun _ _ h=>h,fun _ _ h=>h,Nat.le_refl _,fun _ _ _=>rfl,fun _ c _ fr h=>⟨c,⟨fr,h⟩,rfl⟩,fun _ h=>h,fun _ h=> .inl h,fun _ _ h=>h⟩
theorem Ext.refl:Ext A S L w A S L w:=ExtN.refl
theorem ExtN.trans' (h:ExtN n A S L w A' S' L' w') (k:ExtN m A' S' L' w' A'' S'' L'' w'') (hnm:n≤m):ExtN n A S L w A'' S'' L'' w'' where
 size:=Nat.le_trans h.size k.size
 os:=k.os.trans h.os
 tape:=k.tape.trans h.tape
 output:=k.output.trans h.output
 wh b p hp:=k.wh b p (h.wh b p hp)
 nw b hb hn:=k.nw b (Nat.lt_of_lt_of_le hb hnm) (h.nw b hb hn)
 len:=Nat.le_trans h.len k.len
 keep B hB hn:=(k.keep B (Nat.lt_of_lt_of_le hB h.size) (fun ho=>hn (h.own B hB ho))).trans (h.keep B hB hn)
 shp B c e fr hc:=by
  obtain ⟨c1,⟨fr1,h1⟩,e1⟩:=h.shp B c e fr hc;obtain ⟨c2,h2,e2⟩:=k.shp B c1 e fr1 h1
  grind
 up B hB:=k.up B (h.up B hB)
 down B hB:=by
  rcases k.down B hB with h1 | h1 | h1
  ·exact h.down B h1
  ·exact .inr (.inl (Nat.le_trans h.size h1))
  ·rcases Nat.lt_or_ge B w.heap.size with hlt | hge
   ·exact .inr (.inr (h.own B hlt h1))
   omega
 own B hB ho:=h.own B hB (k.own B (Nat.lt_of_lt_of_le hB h.size) ho)
theorem ExtN.trans (h:Ext A S L w A' S' L' w') (k:Ext A' S' L' w' A'' S'' L'' w''):Ext A S L w A'' S'' L'' w'':=ExtN.trans' h k h.len
theorem Sim.encP (hs:Sim G A S L w) (hx:ExtN n A S L w A' S' L' w') {x:PV} {v:Value} (h:EncP A w x v):EncP A' w' x v:=
 h.ext fun B hB=>⟨hx.up B hB,hx.keep B (hs.lt B hB) (hs.dis B hB)⟩
theorem Sim.rel (hs:Sim G A S L w) (hx:ExtN n A S L w A' S' L' w') {x:LV} {v:Value} (h:Rel A S w x v):Rel A' S' w' x v:=by
 have wh:∀{b B d},S b=some (B,d)→S' b=some (B,d):=fun hb=>hx.wh _ _ hb;cases x with
 | p x=>exact hs.encP hx h
 | ref b o=>obtain ⟨B,d,hb,rfl⟩:=h;exact ⟨B,d,wh hb,rfl⟩
 | pref cs o=>
  obtain ⟨B,d,vs,rfl,hc⟩:=h;refine ⟨B,d,vs,rfl,fun i c hi=> ?_⟩;obtain ⟨h1,h2,h3⟩:=hc i c hi;refine ⟨hx.up B h1,?_,hs.encP hx h3⟩;unfold World.cell? at*;rw [hx.keep B (hs.lt B h1) (hs.dis B h1)];exact h2
 | lsl b o n z=>
  obtain ⟨B,d,q,cap,hb,rfl,hn,hh⟩:=h;refine ⟨B,d,q,cap,wh hb,rfl,hn,fun hp=> ?_⟩;obtain ⟨h0,c,e,fr,h1,hc⟩:=hh hp;obtain ⟨c',⟨fr',h'⟩,e'⟩:=hx.shp B c e fr h1
  simp_all
 | map b=>obtain ⟨B,d,hb,rfl⟩:=h;exact ⟨B,d,wh hb,rfl⟩
 | fn f caps=>
  obtain ⟨ps,rfl,hl,hc⟩:=h;refine ⟨ps,rfl,hl,fun i b o hi=> ?_⟩
  grind
 | yld b=>obtain ⟨B,d,hb,rfl⟩:=h;exact ⟨B,d,wh hb,rfl⟩
 | ifc t b o=>obtain ⟨B,d,hb,rfl⟩:=h;exact ⟨B,d,wh hb,rfl⟩
theorem Sim.relL (hs:Sim G A S L w) (hx:ExtN n A S L w A' S' L' w') {xs:List LV} {vs:List Value} (h:RelL A S w xs vs):RelL A' S' w' xs vs:=
 ⟨h.1,fun i x hi=>let ⟨v,h1,h2⟩:=h.2 i x hi;⟨v,h1,hs.rel hx h2⟩⟩
theorem Sim.relW (hs:Sim G A S L w) (hx:ExtN n A S L w A' S' L' w') {x:RW} {v:Value} (h:RelW A S w x v):RelW A' S' w' x v:=by
 cases x with
 | one x=>exact hs.rel hx h
 | agg xs=>obtain ⟨vs,rfl,hl⟩:=h;exact ⟨vs,rfl,hs.relL hx hl⟩
theorem Sim.relR (hs:Sim G A S L w) (hx:ExtN n A S L w A' S' L' w') {x:RV} {v:Value} (h:RelR A S w x v):RelR A' S' w' x v:=by
 cases x with
 | v x=>exact hs.relW hx h
 | tup xs=>obtain ⟨vs,rfl,hl,hc⟩:=h;exact ⟨vs,rfl,hl,fun i x hi=>let ⟨u,h1,h2⟩:=hc i x hi;⟨u,h1,hs.relW hx h2⟩⟩
theorem Sim.relRs (hs:Sim G A S L w) (hx:ExtN n A S L w A' S' L' w') {rs:List RV} {vs:Array Value} (h:RelRs A S w rs vs):RelRs A' S' w' rs vs:=
 ⟨h.1,fun i r hi=>let ⟨v,h1,h2⟩:=h.2 i r hi;⟨v,h1,hs.relR hx h2⟩⟩
end
end Go.Sx
namespace Go.Sx
section
variable {G:Globs} {A A':Nat→Prop} {S S':Where} {L L':List Ob} {w w':World} {n:Nat}
theorem ObRel.ext (hs:Sim G A S L w) (hx:ExtN n A S L w A' S' L' w') {b:Nat} {o:Ob} (h:ObRel A S w b o)
  (hh:liveOb o=true→∀B d,S b=some (B,d)→w'.heap[B]? =w.heap[B]?):ObRel A' S' w' b o:=by
 have wh:∀{b B d},S b=some (B,d)→S' b=some (B,d):=fun hb=>hx.wh _ _ hb;cases o with
 | cells cs fz=>
  obtain ⟨B,d,c,e,fr,h1,h2,h3,h4,h5,h6⟩:=h;refine ⟨B,d,c,e,fr,wh h1,(hh rfl B d h1).trans h2,h3,h4,fun hf=>hx.up B (h5 hf),fun i x hi=> ?_⟩;obtain ⟨v,hv,hr⟩:=h6 i x hi;exact ⟨v,hv,hs.rel hx hr⟩
 | map es=>
  obtain ⟨B,d,ents,clock,h1,h2,h3,h4⟩:=h;refine ⟨B,d,ents,clock,wh h1,(hh rfl B d h1).trans h2,h3,fun i k x hi=> ?_⟩;obtain ⟨e,he,hk,hr⟩:=h4 i k x hi;exact ⟨e,he,hk,hs.relW hx hr⟩
 | iter s pos=>
  obtain ⟨B,h1,h2⟩:=h;exact ⟨B,wh h1,(hh rfl B 0 h1).trans h2⟩
 | loop r=>
  obtain ⟨B,d,tmps,D,h1,h2,h3⟩:=h;exact ⟨B,d,tmps,D,wh h1,(hh rfl B d h1).trans h2,hs.relRs hx h3⟩
 | gone=>trivial
 | tc t cs buf=>
  obtain ⟨B,c,fr,h1,h2,h3,h4,h5,h6⟩:=h;refine ⟨B,c,fr,wh h1,(hh rfl B 0 h1).trans h2,h3,h4,h5,fun i x hi=> ?_⟩;obtain ⟨v,hv,hr⟩:=h6 i x hi;exact ⟨v,hv,hs.rel hx hr⟩
theorem ObRel.live {b:Nat} {o:Ob} (h:ObRel A S w b o) (hl:liveOb o=true):∃B d ob,S b=some (B,d)∧w.heap[B]? =some ob:=by
 cases o with
 | cells cs fz=>obtain ⟨B,d,c,e,fr,h1,h2,_⟩:=h;simp_all
 | map es=>obtain ⟨B,d,ents,clock,h1,h2,_⟩:=h;simp_all
 | iter s pos=>obtain ⟨B,h1,h2⟩:=h;simp_all
 | loop r=>obtain ⟨B,d,tmps,D,h1,h2,_⟩:=h;simp_all
 | gone=>simp [liveOb] at hl
 | tc t cs buf=>obtain ⟨B,c,fr,h1,h2,_⟩:=h;simp_all
theorem mut_live {o:Ob} (h:mutOb o=true):liveOb o=true:=by cases o<;>simp_all [mutOb,liveOb]
theorem Owned.lt (hs:Sim G A S L w) {B:Nat} (h:Owned S L B):B<w.heap.size:=by
 obtain ⟨b,ob,d,h1,h2,h3⟩:=h;obtain ⟨B',d',o,h4,h5⟩:=(hs.ob b ob h1).live (mut_live h2)
 grind
def Where.put (S:Where) (n:Nat) (x:Nat×Nat):Where:=fun b=>if b=n then some x else S b
@[simp] theorem Where.put_same (S:Where) (n:Nat) (x:Nat×Nat):S.put n x n=some x:=by simp [Where.put]
theorem Where.put_ne (S:Where) {n b:Nat} (x:Nat×Nat) (h:b≠n):S.put n x b=S b:=by simp [Where.put,h]
def pushW (w:World) (o:Obj):World:={w with heap:=w.heap.push o}
theorem pushW_old (w:World) (o:Obj) {B:Nat} (h:B<w.heap.size):(pushW w o).heap[B]? =w.heap[B]? :=by
 show (w.heap.push o)[B]? =_
 grind
theorem pushW_new (w:World) (o:Obj):(pushW w o).heap[w.heap.size]? =some o:=by
 show (w.heap.push o)[w.heap.size]? =_;simp
theorem getElem?_app {α:Type} (l:List α) (x:α) (i:Nat) (y:α) (h:(l++[x])[i]? =some y):(i<l.length∧l[i]? =some y)∨(i=l.length∧y=x):=by
 grind
theorem not_lt_heap {w:World} {B:Nat} {o:Obj} (h:w.heap[B]? =some o):B<w.heap.size:=by
 grind
theorem Ext.push (hs:Sim G A S L w) (ob:Ob) (o:Obj) (d:Nat):
  Ext A S L w A (S.put L.length (w.heap.size,d)) (L++[ob]) (pushW w o) where
 size:=by simp [pushW]
 os:=rfl
 tape:=rfl
 output:=rfl
 wh b p hp:=by rw [Where.put_ne _ _ (by have:=hs.dom b p.1 p.2 hp;omega)];exact hp
 nw b hb hn:=by rw [Where.put_ne _ _ (by omega)];exact hn
 len:=by simp
 keep B hB _:=pushW_old w o hB
 shp B c e fr hc:=⟨c,⟨fr,by rw [pushW_old w o (not_lt_heap hc)];exact hc⟩,rfl⟩
 up _ h:=h
 down _ h:= .inl h
 own B hB ho:=by
  obtain ⟨b,ob',d',h1,h2,h3⟩:=ho
  rcases getElem?_app _ _ _ _ h1 with ⟨h4,h5⟩ | ⟨rfl,_⟩
  ·exact ⟨b,ob',d',h5,h2,by rwa [Where.put_ne _ _ (by omega)] at h3⟩
  simp_all
theorem Sim.push (hs:Sim G A S L w) (ob:Ob) (o:Obj) (d:Nat) (hob:ObRel A (S.put L.length (w.heap.size,d)) (pushW w o) L.length ob):
  Sim G A (S.put L.length (w.heap.size,d)) (L++[ob]) (pushW w o) where
 ob b x hb:=by
  rcases getElem?_app _ _ _ _ hb with ⟨h4,h5⟩ | ⟨rfl,rfl⟩
  ·refine ObRel.ext hs (Ext.push hs ob o d) (hs.ob b x h5) fun hl B d' hB=> ?_;obtain ⟨B',d2,o',h8,h9⟩:=(hs.ob b x h5).live hl;rw [hB] at h8;simp only [Option.some.injEq,Prod.mk.injEq] at h8;obtain ⟨rfl,rfl⟩:=h8;exact pushW_old w o (not_lt_heap h9)
  ·exact hob
 dis B hA ho:=by
  obtain ⟨b,ob',d',h1,h2,h3⟩:=ho
  rcases getElem?_app _ _ _ _ h1 with ⟨h4,h5⟩ | ⟨rfl,_⟩
  ·exact hs.dis B hA ⟨b,ob',d',h5,h2,by rwa [Where.put_ne _ _ (by omega)] at h3⟩
  ·simp at h3;have:=hs.lt B hA;omega
 lt B hA:=by have:=hs.lt B hA;simp [pushW];omega
 inj b b' x x' B d1 d2 hne hb hm hb' hl h1 h2:=by
  rcases getElem?_app _ _ _ _ hb with ⟨h4,h5⟩ | ⟨rfl,rfl⟩<;>rcases getElem?_app _ _ _ _ hb' with ⟨h6,h7⟩ | ⟨rfl,rfl⟩
  ·rw [Where.put_ne _ _ (by omega)] at h1 h2;exact hs.inj b b' x x' B d1 d2 hne h5 hm h7 hl h1 h2
  ·rw [Where.put_ne _ _ (by omega)] at h1;simp at h2;have:=Owned.lt hs ⟨b,x,d1,h5,hm,h1⟩;omega
  ·rw [Where.put_ne _ _ (by omega)] at h2;simp at h1;obtain ⟨B',d',o',h8,h9⟩:=(hs.ob b' x' h7).live hl
   simp_all
  omega
 dom b B d' h:=by
  by_cases hb:b=L.length
  ·simp;omega
  ·rw [Where.put_ne _ _ hb] at h;have:=hs.dom b B d' h;simp;omega
 gl g vs hg:=by
  obtain ⟨h1,h2⟩:=hs.gl g vs hg;refine ⟨h1,fun i v hi=> ?_⟩;obtain ⟨h3,h4⟩:=h2 i v hi;refine ⟨?_,h4⟩;unfold World.cell? at*;rw [pushW_old w o (hs.lt g h1)];exact h3
theorem Sim.vl (hs:Sim G A S L w) {b:Nat} {o:Ob} (h:L[b]? =some o) (hl:liveOb o=true) {B d:Nat} (hb:S b=some (B,d)):B<w.heap.size:=by
 obtain ⟨B',d2,o',h8,h9⟩:=(hs.ob b o h).live hl
 grind
def putW (w:World) (B:Nat) (o:Obj):World:={w with heap:=w.heap.setIfInBounds B o}
theorem putW_ne (w:World) (o:Obj) {B B':Nat} (h:B'≠B):(putW w B o).heap[B']? =w.heap[B']? :=by
 show (w.heap.setIfInBounds B o)[B']? =_
 grind
theorem putW_same (w:World) (o:Obj) {B:Nat} (h:B<w.heap.size):(putW w B o).heap[B]? =some o:=by
 show (w.heap.setIfInBounds B o)[B]? =_;simp [h]
@[simp] theorem putW_size (w:World) (o:Obj) (B:Nat):(putW w B o).heap.size=w.heap.size:=by simp [putW]
theorem Ext.writeF (hs:Sim G A S L w) {b B d:Nat} {x y:Ob} {o o':Obj} (hb:L[b]? =some x) (hm:mutOb x=true) (hB:S b=some (B,d)) (ho:w.heap[B]? =some o)
  (hshape:∀c e fr,o= .cells c e fr→∃c',(∃fr',o'= .cells c' e fr')∧c'.size=c.size):
  Ext A S L w A S (L.set b y) (putW w B o') where
 size:=by simp
 os:=rfl
 tape:=rfl
 output:=rfl
 wh _ _ h:=h
 nw _ _ h:=h
 len:=by simp
 keep B' hB' hn:=putW_ne w o' fun e=>hn ⟨b,x,d,hb,hm,e ▸ hB⟩
 shp B' c e fr hc:=by
  by_cases h:B'=B
  ·subst h;rw [ho] at hc;simp only [Option.some.injEq] at hc;obtain ⟨c',⟨fr',rfl⟩,h2⟩:=hshape c e fr hc;exact ⟨c',⟨fr',putW_same w _ (not_lt_heap ho)⟩,h2⟩
  ·exact ⟨c,⟨fr,by rw [putW_ne w o' h];exact hc⟩,rfl⟩
 up _ h:=h
 down _ h:= .inl h
 own B' _ h:=by
  obtain ⟨b',x',d',h1,h2,h3⟩:=h
  by_cases hbb:b'=b
  ·subst hbb;exact ⟨b',x,d',hb,hm,h3⟩
  ·rw [List.getElem?_set_ne (Ne.symm hbb)] at h1;exact ⟨b',x',d',h1,h2,h3⟩
theorem Sim.writeF (hs:Sim G A S L w) {b B d:Nat} {x y:Ob} {o o':Obj} (hb:L[b]? =some x) (hm:mutOb x=true) (hB:S b=some (B,d)) (ho:w.heap[B]? =some o)
  (hshape:∀c e fr,o= .cells c e fr→∃c',(∃fr',o'= .cells c' e fr')∧c'.size=c.size) (hy:mutOb y=true)
  (hob:ObRel A S (putW w B o') b y):
  Sim G A S (L.set b y) (putW w B o') where
 ob b' z hz:=by
  by_cases hbb:b'=b
  ·grind
  ·rw [List.getElem?_set_ne (Ne.symm hbb)] at hz;refine ObRel.ext hs (Ext.writeF hs (y:=y) hb hm hB ho hshape) (hs.ob b' z hz) fun hl B' d' hB'=> ?_;exact putW_ne w o' fun e=>hs.inj b b' x z B d d' (Ne.symm hbb) hb hm hz hl hB (e ▸ hB')
 dis B' hA h:=hs.dis B' hA ((Ext.writeF hs (A:=A) (y:=y) hb hm hB ho hshape).own B' (hs.lt B' hA) h)
 lt B' hA:=by simpa using hs.lt B' hA
 inj b1 b2 x1 x2 B' d1 d2 hne h1 hm1 h2 hl h3 h4:=by
  have f1:∃z,L[b1]? =some z∧mutOb z=true:=by
   by_cases e:b1=b
   ·simp_all
   ·grind
  have f2:∃z,L[b2]? =some z∧liveOb z=true:=by
   by_cases e:b2=b
   ·subst e;exact ⟨x,hb,mut_live hm⟩
   ·grind
  obtain ⟨z1,g1,k1⟩:=f1;obtain ⟨z2,g2,k2⟩:=f2;exact hs.inj b1 b2 z1 z2 B' d1 d2 hne g1 k1 g2 k2 h3 h4
 dom b' B' d' h:=by simpa using hs.dom b' B' d' h
 gl g vs hg:=by
  obtain ⟨h1,h2⟩:=hs.gl g vs hg;refine ⟨h1,fun i v hi=> ?_⟩;obtain ⟨h3,h4⟩:=h2 i v hi;refine ⟨?_,h4⟩;have hne:g≠B:=fun e=>hs.dis g h1 ⟨b,x,d,hb,hm,e ▸ hB⟩;unfold World.cell? at*;rw [putW_ne w o' hne];exact h3
theorem Ext.write (hs:Sim G A S L w) {b B d:Nat} {x y:Ob} {o o':Obj} (hb:L[b]? =some x) (hm:mutOb x=true) (hB:S b=some (B,d)) (ho:w.heap[B]? =some o)
  (hshape:∀c e fr,o= .cells c e fr→∃c',o'= .cells c' e fr∧c'.size=c.size):Ext A S L w A S (L.set b y) (putW w B o'):=
 Ext.writeF hs hb hm hB ho fun c e fr h=>let ⟨c',h1,h2⟩:=hshape c e fr h;⟨c',⟨fr,h1⟩,h2⟩
theorem Sim.write (hs:Sim G A S L w) {b B d:Nat} {x y:Ob} {o o':Obj} (hb:L[b]? =some x) (hm:mutOb x=true) (hB:S b=some (B,d)) (ho:w.heap[B]? =some o)
  (hshape:∀c e fr,o= .cells c e fr→∃c',o'= .cells c' e fr∧c'.size=c.size) (hy:mutOb y=true)
  (hob:ObRel A S (putW w B o') b y):Sim G A S (L.set b y) (putW w B o'):=
 Sim.writeF hs hb hm hB ho (fun c e fr h=>let ⟨c',h1,h2⟩:=hshape c e fr h;⟨c',⟨fr,h1⟩,h2⟩) hy hob
theorem Ext.regrow (hs:Sim G A S L w) {b B d:Nat} {x y:Ob} {o o':Obj} (d':Nat) (hb:L[b]? =some x) (hm:mutOb x=true) (hB:S b=some (B,d)) (ho:w.heap[B]? =some o)
  (hshape:∀c e fr,o= .cells c e fr→∃c',o'= .cells c' e fr∧c'.size=c.size):
  Ext A S L w A (S.put L.length (B,d')) (L.set b .gone++[y]) (putW w B o') where
 size:=by simp
 os:=rfl
 tape:=rfl
 output:=rfl
 wh b p hp:=by rw [Where.put_ne _ _ (by have:=hs.dom b p.1 p.2 hp;omega)];exact hp
 nw b hb hn:=by rw [Where.put_ne _ _ (by omega)];exact hn
 len:=by simp
 keep B' hB' hn:=putW_ne w o' fun e=>hn ⟨b,x,d,hb,hm,e ▸ hB⟩
 shp B' c e fr hc:=by
  by_cases h:B'=B
  ·subst h;rw [ho] at hc;simp only [Option.some.injEq] at hc;obtain ⟨c',rfl,h2⟩:=hshape c e fr hc;exact ⟨c',⟨fr,putW_same w _ (not_lt_heap ho)⟩,h2⟩
  ·exact ⟨c,⟨fr,by rw [putW_ne w o' h];exact hc⟩,rfl⟩
 up _ h:=h
 down _ h:= .inl h
 own B' _ h:=by
  obtain ⟨b',x',d2,h1,h2,h3⟩:=h
  rcases getElem?_app _ _ _ _ h1 with ⟨h4,h5⟩ | ⟨h4,_⟩
  ·simp at h4;rw [Where.put_ne _ _ (by omega)] at h3
   by_cases hbb:b'=b
   ·subst hbb;rw [List.getElem?_set_self h4] at h5;simp only [Option.some.injEq] at h5;subst h5;simp [mutOb] at h2
   ·rw [List.getElem?_set_ne (Ne.symm hbb)] at h5;exact ⟨b',x',d2,h5,h2,h3⟩
  ·simp at h4;subst h4;simp at h3;exact ⟨b,x,d,hb,hm,h3.1 ▸ hB⟩
theorem Sim.regrow (hs:Sim G A S L w) {b B d:Nat} {x y:Ob} {o o':Obj} (d':Nat) (hb:L[b]? =some x) (hm:mutOb x=true) (hB:S b=some (B,d)) (ho:w.heap[B]? =some o)
  (hshape:∀c e fr,o= .cells c e fr→∃c',o'= .cells c' e fr∧c'.size=c.size)
  (hob:ObRel A (S.put L.length (B,d')) (putW w B o') L.length y):
  Sim G A (S.put L.length (B,d')) (L.set b .gone++[y]) (putW w B o') where
 ob b' z hz:=by
  rcases getElem?_app _ _ _ _ hz with ⟨h4,h5⟩ | ⟨h4,h5⟩
  ·simp at h4
   by_cases hbb:b'=b
   ·subst hbb;rw [List.getElem?_set_self h4] at h5;simp only [Option.some.injEq] at h5;subst h5;trivial
   ·rw [List.getElem?_set_ne (Ne.symm hbb)] at h5;refine ObRel.ext hs (Ext.regrow hs (y:=y) d' hb hm hB ho hshape) (hs.ob b' z h5) fun hl B' d2 hB'=> ?_;exact putW_ne w o' fun e=>hs.inj b b' x z B d d2 (Ne.symm hbb) hb hm h5 hl hB (e ▸ hB')
  simp_all
 dis B' hA h:=hs.dis B' hA ((Ext.regrow hs (A:=A) (y:=y) d' hb hm hB ho hshape).own B' (hs.lt B' hA) h)
 lt B' hA:=by simpa using hs.lt B' hA
 inj b1 b2 x1 x2 B' d1 d2 hne h1 hm1 h2 hl h3 h4:=by
  have key:∀(bb:Nat) (z:Ob) (dd:Nat),(L.set b .gone++[y])[bb]? =some z→liveOb z=true→S.put L.length (B,d') bb=some (B',dd)→
    (bb=L.length∧B'=B)∨(bb≠L.length∧bb≠b∧L[bb]? =some z∧S bb=some (B',dd)):=by
   intro bb z dd hz hlz hS
   rcases getElem?_app _ _ _ _ hz with ⟨g4,g5⟩ | ⟨g4,g5⟩
   ·simp at g4
    by_cases hbb:bb=b
    ·subst hbb;rw [List.getElem?_set_self g4] at g5;simp only [Option.some.injEq] at g5;subst g5;simp [liveOb] at hlz
    ·rw [List.getElem?_set_ne (Ne.symm hbb)] at g5;rw [Where.put_ne _ _ (by omega)] at hS
     grind
   ·simp_all
  rcases key b1 x1 d1 h1 (mut_live hm1) h3 with ⟨e1,e2⟩ | ⟨e1,e2,e3,e4⟩<;>rcases key b2 x2 d2 h2 hl h4 with ⟨f1,f2⟩ | ⟨f1,f2,f3,f4⟩
  ·omega
  ·subst e2;exact hs.inj b b2 x x2 B' d d2 (Ne.symm f2) hb hm f3 hl hB f4
  ·subst f2;exact hs.inj b1 b x1 x B' d1 d e2 e3 hm1 hb (mut_live hm) e4 hB
  ·exact hs.inj b1 b2 x1 x2 B' d1 d2 hne e3 hm1 f3 hl e4 f4
 dom b' B' d2 h:=by
  by_cases hb':b'=L.length
  ·simp;omega
  ·rw [Where.put_ne _ _ hb'] at h;have:=hs.dom b' B' d2 h;simp;omega
 gl g vs hg:=by
  obtain ⟨h1,h2⟩:=hs.gl g vs hg;refine ⟨h1,fun i v hi=> ?_⟩;obtain ⟨h3,h4⟩:=h2 i v hi;refine ⟨?_,h4⟩;have hne:g≠B:=fun e=>hs.dis g h1 ⟨b,x,d,hb,hm,e ▸ hB⟩;unfold World.cell? at*;rw [putW_ne w o' hne];exact h3
theorem Sim.drop (hs:Sim G A S L w) (b:Nat):Sim G A S (L.set b .gone) w where
 ob b' z hz:=by
  by_cases hbb:b'=b
  ·subst hbb;rw [List.getElem?_set] at hz;simp at hz;obtain ⟨_,rfl⟩:=hz;trivial
  ·rw [List.getElem?_set_ne (Ne.symm hbb)] at hz;exact hs.ob b' z hz
 dis B hA h:=by
  obtain ⟨b',x',d2,h1,h2,h3⟩:=h
  by_cases hbb:b'=b
  ·subst hbb;rw [List.getElem?_set] at h1;simp at h1;obtain ⟨_,rfl⟩:=h1;simp [mutOb] at h2
  ·rw [List.getElem?_set_ne (Ne.symm hbb)] at h1;exact hs.dis B hA ⟨b',x',d2,h1,h2,h3⟩
 lt:=hs.lt
 inj b1 b2 x1 x2 B' d1 d2 hne h1 hm1 h2 hl h3 h4:=by
  have f:∀(bb:Nat) (z:Ob),(L.set b .gone)[bb]? =some z→liveOb z=true→L[bb]? =some z:=by
   intro bb z hz hlz
   by_cases hbb:bb=b
   ·subst hbb;rw [List.getElem?_set] at hz;simp at hz;obtain ⟨_,rfl⟩:=hz;simp [liveOb] at hlz
   ·grind
  exact hs.inj b1 b2 x1 x2 B' d1 d2 hne (f b1 x1 h1 (mut_live hm1)) hm1 (f b2 x2 h2 hl) hl h3 h4
 dom b' B' d2 h:=by simpa using hs.dom b' B' d2 h
 gl:=hs.gl
theorem Ext.drop (b:Nat):Ext A S L w A S (L.set b .gone) w where
 size:=Nat.le_refl _
 os:=rfl
 tape:=rfl
 output:=rfl
 wh _ _ h:=h
 nw _ _ h:=h
 len:=by simp
 keep _ _ _:=rfl
 shp _ c _ fr hc:=⟨c,⟨fr,hc⟩,rfl⟩
 up _ h:=h
 down _ h:= .inl h
 own B _ h:=by
  obtain ⟨b',x',d2,h1,h2,h3⟩:=h
  by_cases hbb:b'=b
  ·subst hbb;rw [List.getElem?_set] at h1;simp at h1;obtain ⟨_,rfl⟩:=h1;simp [mutOb] at h2
  ·rw [List.getElem?_set_ne (Ne.symm hbb)] at h1;exact ⟨b',x',d2,h1,h2,h3⟩
end
end Go.Sx
