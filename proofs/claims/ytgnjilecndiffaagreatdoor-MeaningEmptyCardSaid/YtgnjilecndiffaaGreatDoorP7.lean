/- A part of the proof of MeaningEmpty. -/
import Derived.Test.YtgnjilecndiffaaGreatDoorP6
set_option linter.all false
set_option maxRecDepth 1000000
set_option maxHeartbeats 0
namespace Go.Sx
structure Conf where
 P:Program
 T:Tab
 G:Globs
 func:FuncId→Option Func
 own:FuncId→Bool
 val:FuncId→List RV→Option RV
 ext:FuncId→List RV→List Ob→Option (RV×List Ob):=fun _ _ _=>none
abbrev CallR:=Cal→List RV→List Ob→Option (RV×List Ob)
noncomputable def runL (C:Conf) (call:CallR) (all:Array Oper) (l:List Oper):St→Option St:=
 List.rec (motive:=fun _=>St→Option St) (fun st=>some st) (fun o _ ih st=>match wantedR all st.regs o with
  | none=>none
  | some false=>ih ⟨putQ st.regs o.dst undefR,st.hp⟩
  | some true=>match goodO o with
   | false=>none
   | true=>match callOf o.op with
    | some (f,args)=>match calOf (evQ st.regs f) (args.map (evQ st.regs)) with
     | some (c,as)=>match call c as st.hp with
      | some (r,hp)=>ih ⟨putQ st.regs o.dst r,hp⟩
      | none=>none
     | none=>none
    | none=>match opQ o.op C.P C.T C.G (evQ st.regs) o st.hp with
     | some (r,hp)=>ih ⟨putQ st.regs o.dst r,hp⟩
     | none=>none) l
theorem runL_nil {C:Conf} {call:CallR} {all:Array Oper} {st:St}:runL C call all [] st=some st:=rfl
theorem runL_cons {C:Conf} {call:CallR} {all:Array Oper} {o:Oper} {rest:List Oper} {st:St}:runL C call all (o::rest) st=match wantedR all st.regs o with
  | none=>none
  | some false=>runL C call all rest ⟨putQ st.regs o.dst undefR,st.hp⟩
  | some true=>match goodO o with
   | false=>none
   | true=>match callOf o.op with
    | some (f,args)=>match calOf (evQ st.regs f) (args.map (evQ st.regs)) with
     | some (c,as)=>match call c as st.hp with
      | some (r,hp)=>runL C call all rest ⟨putQ st.regs o.dst r,hp⟩
      | none=>none
     | none=>none
    | none=>match opQ o.op C.P C.T C.G (evQ st.regs) o st.hp with
     | some (r,hp)=>runL C call all rest ⟨putQ st.regs o.dst r,hp⟩
     | none=>none:=rfl
def isFresh:Op→Bool
 | .alloc _=>true
 | .box _ _=>true
 | .buildSlice _ _ _=>true
 | _=>false
def isQuiet:Kind→Bool
 | .mute=>true
 | .read=>true
 | _=>false
def louO (T:Tab) (o:Oper):Bool:=match callOf o.op with
 | some _=>true
 | none=> !isFresh o.op && !isQuiet (kindOp T o.op)
def refsL:LV→List Nat
 | .ref b _=>[b]
 | .lsl b _ _ _=>[b]
 | .map b=>[b]
 | .fn _ caps=>caps.map (·.1)
 | .yld b=>[b]
 | .ifc _ b _=>[b]
 | _=>[]
def refsW:RW→List Nat
 | .one x=>refsL x
 | .agg xs=>xs.flatMap refsL
def refsR:RV→List Nat
 | .v x=>refsW x
 | .tup xs=>xs.flatMap refsW
def refsOb:Ob→List Nat
 | .cells cs _=>cs.flatMap refsL
 | .tc _ cs _=>cs.flatMap refsL
 | .map es=>es.flatMap fun e=>refsW e.2
 | .loop r=>r.regs.flatMap refsR
 | _=>[]
def reachN (h:List Ob):Nat→List Nat→List Nat
 | 0,acc=>acc
 | n+1,acc=>reachN h n (acc++acc.flatMap fun b=>match h[b]? with
  | some o=>refsOb o
  | none=>[])
def blind (h:List Ob) (R:List Nat):List Nat:=(List.range h.length).filter fun k=>match R.contains k with
 | true=>match h[k]? with
  | some o=> !liveOb o
  | none=>true
 | false=>true
def valOf (call:CallR) (f:FuncId) (args:List RV):Option RV:=match call (.fn f) args [] with
 | some (r,_)=>match persR r with
  | true=>some r
  | false=>none
 | none=>none
def refsC:Cal→List Nat
 | .yl b=>[b]
 | _=>[]
def ownE (h:List Ob) (M:List Nat):Option (RV×List Ob)→Option (RV×Eff)
 | some (r,L1)=>match Nat.ble h.length L1.length with
  | true=>some (r,.own h.length M L1 ((List.range L1.length).filter fun k=> !M.contains k))
  | false=>none
 | none=>none
def ownM (call:CallR) (c:Cal) (as:List RV) (h:List Ob):Option (RV×Eff):=
 ownE h (blind h (reachN h 3 (refsC c++as.flatMap refsR))) (call c as (msk (blind h (reachN h 3 (refsC c++as.flatMap refsR))) h))
def seesO (ρ:Operand→RV):Op→List Nat
 | .store _ a _=>refsR (ρ a)
 | op=>op.operands.toList.flatMap fun x=>refsR (ρ x)
def effM (C:Conf) (call:CallR) (sl:Option Nat) (o:Oper) (ρ:Operand→RV) (h:List Ob):Option (RV×Eff):=
 match callOf o.op with
 | some (f,args)=>match calOf (ρ f) (args.map ρ) with
  | some (.fn g,as)=>match C.own g,fzRs h as with
   | false,some (as',ts)=>match valOf call g as' with
    | some r=>some (r,if scalarR r then .non else .fz ts)
    | none=>ownM call (.fn g) as h
   | _,_=>ownM call (.fn g) as h
  | some (c,as)=>ownM call c as h
  | none=>none
 | none=>match sl with
  | some s=>match freshA C.T ρ o s with
   | some (r,ob)=>some (r,.fill s ob)
   | none=>none
  | none=>match isFresh o.op with
   | true=>none
   | false=>match isQuiet (kindOp C.T o.op) with
   | true=>match opQ o.op C.P C.T C.G ρ o h with
    | some (r,_)=>some (r,.non)
    | none=>none
   | false=>ownE h (blind h (seesO ρ o.op)) (opA C.P C.T C.G ρ o (msk (blind h (seesO ρ o.op)) h))
def preB:Eff→List Ob→Bool
 | .fill s _,hp=>match hp[s]? with
  | some .gone=>true
  | _=>false
 | .app b d _,hp=>Nat.beq hp.length d && Nat.blt b d
 | .sto b _,hp=>Nat.blt b hp.length
 | .rc _ b _,hp=>Nat.blt b hp.length
 | .own n _ _ _,hp=>Nat.beq hp.length n
 | _,_=>true
noncomputable def passM (C:Conf) (call:CallR) (ops:Array Oper) (sl:Nat→Option Nat) (M:Nat→List Nat):Nat→List Oper→St→Option (List (List Nat)×St)
 | _,[],st=>some ([],st)
 | i,o::l,st=>match wantedR ops st.regs o with
  | none=>none
  | some false=>match passM C call ops sl M (i+1) l ⟨putQ st.regs o.dst undefR,st.hp⟩ with
   | some (ws,st')=>some ([]::ws,st')
   | none=>none
  | some true=>match goodO o with
   | false=>none
   | true=>match effM C call (sl i) o (evQ st.regs) (msk (M i) st.hp) with
    | some (r,e)=>match preB e st.hp with
     | true=>match passM C call ops sl M (i+1) l ⟨putQ st.regs o.dst r,e.ap st.hp⟩ with
      | some (ws,st')=>some (e.wr::ws,st')
      | none=>none
     | false=>none
    | none=>none
def unordB (B:List Nat) (i j:Nat):Bool:=match Nat.beq i j with
 | true=>false
 | false=>match Nat.blt j i with
  | true=> !(B.getD i 0).testBit j
  | false=> !(B.getD j 0).testBit i
def maskM (n:Nat) (B:List Nat) (ws:List (List Nat)) (i:Nat):List Nat:=(List.range n).flatMap fun j=>match unordB B i j with
 | true=>ws.getD j []
 | false=>[]
def disj (a b:List Nat):Bool:=a.all fun x=> !b.contains x
def bitsL (l:List Nat):Nat:=l.foldl (fun s k=>s ||| 2^k) 0
structure Inf where
 u:Nat
 d:Nat
 lo:Bool
def infO (T:Tab) (ops:Array Oper) (o:Oper):Inf:=⟨bitsL (usesOp ops o),match o.dst with
 | some d=>2^d
 | none=>0,louO T o⟩
noncomputable def nthI (l:List Inf):Nat→Option Inf:=List.rec (motive:=fun _=>Nat→Option Inf) (fun _=>none) (fun x _ ih n=>Nat.rec (motive:=fun _=>Option Inf) (some x) (fun m _=>ih m) n) l
def pairI (a b:Inf):Bool:=Nat.beq (Nat.land a.u b.d) 0 && Nat.beq (Nat.land b.u a.d) 0 && Nat.beq (Nat.land a.d b.d) 0 && (!a.lo || !b.lo)
noncomputable def pairOk (is:List Inf) (i j:Nat):Bool:=
 match nthI is i,nthI is j with
 | some a,some b=>pairI a b
 | _,_=>false
noncomputable def statOk (T:Tab) (ops:Array Oper):Bool:=
 backOk ops && (List.range ops.size).all fun i=>(List.range i).all fun j=>((befs [] ops.toList).getD i 0).testBit j || pairOk (ops.toList.map (infO T ops)) i j
def disjOk (n:Nat) (B:List Nat) (ws:List (List Nat)):Bool:=
 (List.range n).all fun i=>(List.range i).all fun j=>(B.getD i 0).testBit j || disj (ws.getD i []) (ws.getD j [])
def freshIdx (ops:Array Oper):List Nat:=(List.range ops.size).filter fun i=>match ops[i]? with
 | some o=>isFresh o.op
 | none=>false
def subW:List (List Nat)→List (List Nat)→Bool
 | [],_=>true
 | a::as,bs=>(a.all fun x=>(bs.headD []).contains x) && subW as bs.tail
noncomputable def runD (C:Conf) (call:CallR) (ops:Array Oper) (st:St):Option St:=
 match statOk C.T ops with
 | false=>none
 | true=>match passM C call ops (slots (freshIdx ops) st.hp.length) (fun _=>[]) 0 ops.toList (padded (freshIdx ops) st) with
  | none=>none
  | some (ws,st1)=>match ws.all List.isEmpty with
   | true=>some st1
   | false=>match disjOk ops.size (befs [] ops.toList) ws with
    | false=>none
    | true=>match passM C call ops (slots (freshIdx ops) st.hp.length) (maskM ops.size (befs [] ops.toList) ws) 0 ops.toList (padded (freshIdx ops) st) with
     | none=>none
     | some (ws',st2)=>match subW ws' ws with
      | true=>some st2
      | false=>none
noncomputable def iterN (f:St→Option (Ex×St)) (n:Nat):St→Option (Ex×St):=
 Nat.rec (motive:=fun _=>St→Option (Ex×St)) (fun _=>none) (fun _ ih st=>match f st with
  | some (.normal,st')=>ih st'
  | r=>r) n
theorem iterN_zero {f:St→Option (Ex×St)} {st:St}:iterN f 0 st=none:=rfl
theorem iterN_succ {f:St→Option (Ex×St)} {n:Nat} {st:St}:iterN f (n+1) st=match f st with
  | some (.normal,st')=>iterN f n st'
  | r=>r:=rfl
def optSt:Option St→Option (Ex×St)
 | some st=>some (.normal,st)
 | none=>none
noncomputable def runC (C:Conf) (call:CallR) (k:Nat) (fn:FuncId) (rnd:Bool) (c:Code):St→Option (Ex×St):=
 Code.rec (motive:=fun _=>St→Option (Ex×St))
  (fun st=>some (.normal,st))
  (fun _ ops dr st=>match dr with
   | false=>optSt (runL C call ops ops.toList st)
   | true=>optSt (runD C call ops st))
  (fun _ _ a b st=>match a st with
   | some (.normal,st')=>b st'
   | r=>r)
  (fun c _ _ x y st=>match evQ st.regs c with
   | .v (.one (.p (.vl (.bool true))))=>x st
   | .v (.one (.p (.vl (.bool false))))=>y st
   | _=>none)
  (fun id _ c st=>match c st with
   | some (.exit i,st')=>if i=id then some (.normal,st') else some (.exit i,st')
   | r=>r)
  (fun _ c st=>iterN c k st)
  (fun f params assign body _ _ st=>match rnd,goodX f with
   | false,true=>match calOf (evQ st.regs f) [.v (.one (.yld st.hp.length))] with
    | some (.fn g,as)=>match call (.fn g) as (st.hp++[.loop {fn:=fn,regs:=st.regs,params:=params.toList,assign:=assign,body:=body,state:= .ready,pending:=none}]) with
     | some (_,hp)=>match hp[st.hp.length]? with
      | some (.loop r)=>match r.state with
       | .busy=>none
       | _=>match exOf r.pending with
        | some e=>some (e,⟨st.regs,hp.set st.hp.length .gone⟩)
        | none=>none
      | _=>none
     | none=>none
    | _=>none
   | _,_=>none)
  (fun id st=>some (.exit id,st))
  (fun _ _ _=>none)
  (fun _ st=>some (.normal,st))
  (fun _ _=>none)
  (fun st=>some (.ret,st))
  (fun _ _=>none) c
section
variable {C:Conf} {call:CallR} {k:Nat} {fn:FuncId} {rnd:Bool} {st:St}
theorem runC_skip:runC C call k fn rnd .skip st=some (.normal,st):=rfl
theorem runC_label {l:Nat}:runC C call k fn rnd (.label l) st=some (.normal,st):=rfl
theorem runC_ret:runC C call k fn rnd .ret st=some (.ret,st):=rfl
theorem runC_exit {i:Nat}:runC C call k fn rnd (.exit i) st=some (.exit i,st):=rfl
theorem runC_reg {i:Nat} {ops:Array Oper}:runC C call k fn rnd (.region i ops false) st=optSt (runL C call ops ops.toList st):=rfl
theorem runC_draw {i:Nat} {ops:Array Oper}:runC C call k fn rnd (.region i ops true) st=optSt (runD C call ops st):=rfl
theorem runC_seq {a b:Code}:runC C call k fn rnd (.seq a b) st=match runC C call k fn rnd a st with
  | some (.normal,st')=>runC C call k fn rnd b st'
  | r=>r:=rfl
theorem runC_cond {c:Operand} {x y:Code}:runC C call k fn rnd (.cond c x y) st=match evQ st.regs c with
  | .v (.one (.p (.vl (.bool true))))=>runC C call k fn rnd x st
  | .v (.one (.p (.vl (.bool false))))=>runC C call k fn rnd y st
  | _=>none:=rfl
theorem runC_block {id:Nat} {c:Code}:runC C call k fn rnd (.block id c) st=match runC C call k fn rnd c st with
  | some (.exit i,st')=>if i=id then some (.normal,st') else some (.exit i,st')
  | r=>r:=rfl
theorem runC_loop {c:Code}:runC C call k fn rnd (.loop c) st=iterN (runC C call k fn rnd c) k st:=rfl
theorem runC_range {f:Operand} {params:Array Tmp} {assign body:Code}:runC C call k fn rnd (.rangeFunc f params assign body) st=match rnd,goodX f with
  | false,true=>match calOf (evQ st.regs f) [.v (.one (.yld st.hp.length))] with
   | some (.fn g,as)=>match call (.fn g) as (st.hp++[.loop {fn:=fn,regs:=st.regs,params:=params.toList,assign:=assign,body:=body,state:= .ready,pending:=none}]) with
    | some (_,hp)=>match hp[st.hp.length]? with
     | some (.loop r)=>match r.state with
      | .busy=>none
      | _=>match exOf r.pending with
       | some e=>some (e,⟨st.regs,hp.set st.hp.length .gone⟩)
       | none=>none
     | _=>none
    | none=>none
   | _=>none
  | _,_=>none:=rfl
end
noncomputable def bodyR (C:Conf) (call:CallR) (k:Nat) (f:FuncId) (args:List RV) (hp:List Ob):Option (RV×List Ob):=
 match C.func f with
 | some fn=>match fn.body with
  | some c=>match runC C call k f false c ⟨regs0 fn args,hp⟩ with
   | some (.exit _,_)=>none
   | some (_,st)=>match resultsR C.T C.G fn st with
    | some r=>some (r,st.hp)
    | none=>none
   | none=>none
  | none=>none
 | none=>none
noncomputable def roundR (C:Conf) (call:CallR) (k:Nat) (b:Nat) (args:List RV) (hp:List Ob):Option (RV×List Ob):=
 match hp[b]? with
 | some (.loop r)=>match Nat.beq args.length r.params.length with
  | true=>match runC C call k r.fn true r.assign ⟨setParams r.regs r.params args,hp⟩ with
   | some (.normal,st1)=>match st1.hp[b]? with
    | some (.loop r1)=>match r1.state with
     | .ready=>match runC C call k r.fn true r.body ⟨st1.regs,st1.hp.set b (.loop {r1 with state:= .busy,pending:=r1.pending})⟩ with
      | some (e,st2)=>match st2.hp[b]? with
       | some (.loop r2)=>some (atR (.bool (isNormal e)),st2.hp.set b (.loop {r2 with state:=if isNormal e then .ready else .done,pending:=jumpOf e}))
       | _=>none
      | none=>none
     | _=>none
    | _=>none
   | _=>none
  | false=>none
 | _=>none
def byVal (ts:List Nat) (hp:List Ob) (r:RV):RV×List Ob:=(r,if scalarR r then hp else fzObs ts hp)
noncomputable def callN (C:Conf) (k:Nat) (n:Nat):CallR:=
 Nat.rec (motive:=fun _=>CallR) (fun _ _ _=>none) (fun _ ih c args hp=>match c with
  | .yl b=>roundR C ih k b args hp
  | .fn f=>match C.ext f args hp with
   | some x=>some x
   | none=>match C.own f with
   | true=>bodyR C ih k f args hp
   | false=>match fzRs hp args with
    | none=>bodyR C ih k f args hp
    | some (args',ts)=>match C.val f args' with
     | some r=>some (byVal ts hp r)
     | none=>match bodyR C ih k f args' [] with
      | some (r,hp')=>match fzR hp' r with
       | some (r',_)=>some (byVal ts hp r')
       | none=>bodyR C ih k f args hp
      | none=>none) n
theorem callN_zero {C:Conf} {k:Nat} {c:Cal} {args:List RV} {hp:List Ob}:callN C k 0 c args hp=none:=rfl
theorem callN_succ {C:Conf} {k n:Nat} {c:Cal} {args:List RV} {hp:List Ob}:callN C k (n+1) c args hp=match c with
  | .yl b=>roundR C (callN C k n) k b args hp
  | .fn f=>match C.ext f args hp with
   | some x=>some x
   | none=>match C.own f with
   | true=>bodyR C (callN C k n) k f args hp
   | false=>match fzRs hp args with
    | none=>bodyR C (callN C k n) k f args hp
    | some (args',ts)=>match C.val f args' with
     | some r=>some (byVal ts hp r)
     | none=>match bodyR C (callN C k n) k f args' [] with
      | some (r,hp')=>match fzR hp' r with
       | some (r',_)=>some (byVal ts hp r')
       | none=>bodyR C (callN C k n) k f args hp
      | none=>none:=rfl
end Go.Sx
namespace Go.Sx
section
variable {P:Program} {T:Tab} {G:Globs}
theorem DrawOk.mono {ops:Array Oper} {st:St} {Q Q':St→Prop} (h:DrawOk P G ops st Q) (hq:∀s,Q s→Q' s):DrawOk P G ops st Q':=by
 intro A S w t b k cs id hs hr;obtain ⟨st',t',A',S',w',q,rest⟩:=h A S w t b k cs id hs hr
 grind
theorem opK_mono {o:Oper} {st:St} {K K':St→Prop} (h:opK P T G (CalOk P G) o st K) (hk:∀s,K s→K' s):opK P T G (CalOk P G) o st K':=by
 unfold opK at*;split
 ·simp_all
 ·rename_i hg;simp only [hg] at h;split
  ·rename_i f args ats hop;simp only [hop] at h;split
   ·rename_i c as hc;simp only [hc] at h;exact CalOk.mono h fun r L hh=>hk _ hh
   simp_all
  grind
theorem wpL_mono {all:Array Oper}:∀{l:List Oper} {st:St} {Q Q':St→Prop},wpL P T G (CalOk P G) all l st Q→(∀s,Q s→Q' s)→wpL P T G (CalOk P G) all l st Q'
 | [],st,Q,Q',h,hq=>hq _ h
 | o::l,st,Q,Q',h,hq=>by
  unfold wpL at*;split
  ·rename_i hg;simp only [hg] at h;exact opK_mono h fun s hs=>wpL_mono hs hq
  ·rename_i g hg;simp only [hg] at h;split
   ·rename_i c hc;simp only [hc] at h;exact ⟨fun e=>opK_mono (h.1 e) fun s hs=>wpL_mono hs hq,fun e=>wpL_mono (h.2 e) hq⟩
   simp_all
theorem loopW_mono {F:St→(Ex→St→Prop)→Prop} (hF:∀st Q Q',F st Q→(∀e s,Q e s→Q' e s)→F st Q'):∀{n:Nat} {st:St} {Q Q':Ex→St→Prop},loopW F Q n st→(∀e s,Q e s→Q' e s)→loopW F Q' n st
 | 0,st,Q,Q',h,hq=>h
 | n+1,st,Q,Q',h,hq=>by
  refine hF _ _ _ h fun e s hs=> ?_;cases e with
  | normal=>exact loopW_mono hF hs hq
  | exit i=>exact hq _ _ hs
  | ret=>exact hq _ _ hs
theorem wpC_mono {fn:FuncId} {rnd:Bool}:∀(c:Code) {st:St} {Q Q':Ex→St→Prop},wpC P T G (CalOk P G) (DrawOk P G) fn rnd c st Q→(∀e s,Q e s→Q' e s)→wpC P T G (CalOk P G) (DrawOk P G) fn rnd c st Q':=by
 intro c
 induction c with
 | skip=>intro st Q Q' h hq;exact hq _ _ h
 | label l=>intro st Q Q' h hq;exact hq _ _ h
 | ret=>intro st Q Q' h hq;exact hq _ _ h
 | exit i=>intro st Q Q' h hq;exact hq _ _ h
 | region id ops dr=>
  intro st Q Q' h hq;cases dr with
  | false=>exact wpL_mono h fun s hs=>hq _ _ hs
  | true=>exact DrawOk.mono h fun s hs=>hq _ _ hs
 | seq a b iha ihb=>
  intro st Q Q' h hq;refine iha h fun e s hs=> ?_
  grind
 | cond x a b iha ihb=>
  intro st Q Q' h hq;unfold wpC at h ⊢
  grind
 | block id a iha=>
  intro st Q Q' h hq;refine iha h fun e s hs=> ?_
  grind
 | loop a iha=>
  intro st Q Q' h hq;obtain ⟨n,h⟩:=h;exact ⟨n,loopW_mono (F:=wpC P T G (CalOk P G) (DrawOk P G) fn rnd a) (fun st Q Q' h hq=>iha h hq) h hq⟩
 | rangeFunc f params assign body _ _=>
  intro st Q Q' h hq;unfold wpC at h ⊢
  refine ⟨h.1,h.2.1,?_⟩;have h:=h.2.2;split
  ·rename_i g as hc;simp only [hc] at h;refine CalOk.mono h fun r L hh=> ?_
   grind
  simp_all
 | _=>intro st Q Q' h hq;exact h
theorem opK_call {o:Oper} {st:St} {K:St→Prop} {f:Operand} {args:List Operand} {c:Cal} {as:List RV} (hg:goodO o=true) (hc:callOf o.op=some (f,args)) (hcal:calOf (evR st.regs f) (args.map (evR st.regs))=some (c,as))
  (h:CalOk P G c as st.hp fun r hp=>K ⟨putR st.regs o.dst r,hp⟩):opK P T G (CalOk P G) o st K:=by
 obtain ⟨dst,op,type,pos,after,guard⟩:=o;cases op with
 | call cl=>
  obtain ⟨callee,cargs,ats⟩:=cl;cases callee with
  | value f'=>
   simp only [callOf,Option.some.injEq,Prod.mk.injEq] at hc;obtain ⟨rfl,rfl⟩:=hc;unfold opK
   simp_all
  | _=>simp [callOf] at hc
 | _=>simp [callOf] at hc
theorem opK_plain {o:Oper} {st:St} {K:St→Prop} {r:RV} {hp:List Ob} (hg:goodO o=true) (hc:callOf o.op=none) (h:opA P T G (evR st.regs) o st.hp=some (r,hp)) (hK:K ⟨putR st.regs o.dst r,hp⟩):opK P T G (CalOk P G) o st K:=by
 unfold opK;simp only [hg];split
 ·rename_i f args ats hop;rw [hop] at hc;simp [callOf] at hc
 simp_all
theorem wpL_step {all:Array Oper} {o:Oper} {l:List Oper} {st:St} {Q:St→Prop} {c:Bool} (hw:wantedR all st.regs o=some c)
  (h1:c=true→opK P T G (CalOk P G) o st fun st'=>wpL P T G (CalOk P G) all l st' Q) (h2:c=false→wpL P T G (CalOk P G) all l ⟨putR st.regs o.dst undefR,st.hp⟩ Q):wpL P T G (CalOk P G) all (o::l) st Q:=by
 unfold wantedR at hw;unfold wpL
 grind
def CallOk (P:Program) (G:Globs) (call:CallR):Prop:=∀c as hp r hp',call c as hp=some (r,hp')→CalOk P G c as hp fun r' L'=>r'=r∧L'=hp'
theorem runL_sound {C:Conf} {call:CallR} (hcall:CallOk C.P C.G call) {all:Array Oper}:∀(l:List Oper) (st st':St),runL C call all l st=some st'→wpL C.P C.T C.G (CalOk C.P C.G) all l st fun s=>s=st'
 | [],st,st',h=>by rw [runL_nil] at h;simp at h;exact h
 | o::l,st,st',h=>by
  rw [runL_cons] at h;simp only [evQ_eq,putQ_eq,opQ_eq] at h;split at h
  ·simp at h
  ·rename_i hw;exact wpL_step hw (by simp) fun _=>runL_sound hcall l _ _ h
  ·rename_i hw;refine wpL_step hw (fun _=> ?_) (by simp);split at h
   ·simp at h
   ·rename_i hg;split at h
    ·rename_i f args hc;split at h
     ·rename_i c as hcal;split at h
      ·rename_i r hp hr;refine opK_call hg hc hcal (CalOk.mono (hcall _ _ _ _ _ hr) ?_);rintro r' L' ⟨rfl,rfl⟩;exact runL_sound hcall l _ _ h
      ·simp at h
     ·simp at h
    ·rename_i hc;split at h
     ·rename_i r hp hr;exact opK_plain hg hc hr (runL_sound hcall l _ _ h)
     ·simp at h
def callV (call:CallR):ValR:=⟨fun g as r=>valOf call g as=some r,fun c as h r L1=>call c as h=some (r,L1)⟩
theorem fzL_pers {L:List Ob} {x:LV} (h:persL x=true) (n:Nat):∃p,fzL L n x=some (p,[])∧x= .p p:=by
 cases x<;>simp [persL] at h
 rename_i p;exact ⟨p,by cases n<;>rfl,rfl⟩
theorem fzLs_pers {L:List Ob}:∀{xs:List LV},xs.all persL=true→∃ps:List PV,mapOpt (fzL L 12) xs=some (ps.map fun p=>(p,[]))∧xs=ps.map .p
 | [],_=>⟨[],rfl,rfl⟩
 | x::xs,h=>by
  simp only [List.all_cons,Bool.and_eq_true] at h;obtain ⟨p,h1,rfl⟩:=fzL_pers (L:=L) h.1 12;obtain ⟨ps,h2,rfl⟩:=fzLs_pers (L:=L) h.2;exact ⟨p::ps,by simp only [mapOpt,h1,h2];rfl,rfl⟩
theorem fzW_of_pers {L:List Ob} {x:RW} (h:persW x=true):∃ts,fzW L x=some (x,ts):=by
 cases x with
 | one x=>
  obtain ⟨p,h1,rfl⟩:=fzL_pers (L:=L) h 12;exact ⟨[],by rfl⟩
 | agg xs=>
  obtain ⟨ps,h1,rfl⟩:=fzLs_pers (L:=L) (xs:=xs) h;refine ⟨(ps.map fun p=>(p,([]:List Nat))).flatMap (·.2),?_⟩;simp only [fzW,fzLs,h1]
  simp_all
theorem fzWs_of_pers {L:List Ob}:∀{xs:List RW},xs.all persW=true→∃ys:List (RW×List Nat),mapOpt (fzW L) xs=some ys∧ys.map (·.1)=xs
 | [],_=>⟨[],rfl,rfl⟩
 | x::xs,h=>by
  simp only [List.all_cons,Bool.and_eq_true] at h;obtain ⟨ts,h1⟩:=fzW_of_pers (L:=L) h.1;obtain ⟨ys,h2,h3⟩:=fzWs_of_pers (L:=L) h.2;exact ⟨(x,ts)::ys,by simp only [mapOpt,h1,h2],by simp [h3]⟩
theorem fzR_of_pers {L:List Ob} {x:RV} (h:persR x=true):∃ts,fzR L x=some (x,ts):=by
 cases x with
 | v x=>
  obtain ⟨ts,h1⟩:=fzW_of_pers (L:=L) (x:=x) h;exact ⟨ts,by simp only [fzR,h1]⟩
 | tup xs=>
  obtain ⟨ys,h1,h2⟩:=fzWs_of_pers (L:=L) (xs:=xs) h;exact ⟨ys.flatMap (·.2),by simp only [fzR,h1,h2]⟩
theorem callV_ok {call:CallR} (hcall:CallOk P G call):(callV call).Ok P G where
 v g as r h:=by
  simp only [callV,valOf] at h;split at h
  ·rename_i r0 hp' hr;split at h
   ·rename_i hp;simp at h;subst h;refine CalOk.mono (hcall _ _ _ _ _ hr) ?_;rintro r' L' ⟨rfl,rfl⟩;obtain ⟨ts,hf⟩:=fzR_of_pers (L:=L') hp
    simp_all
   ·simp at h
  ·simp at h
 o c as h r L1 hc:=hcall _ _ _ _ _ hc
theorem blind_lt {h:List Ob} {R:List Nat}:∀b∈blind h R,b<h.length:=by
 intro b hb;unfold blind at hb
 simp_all
theorem blind_live {h:List Ob} {R:List Nat}:∀(b:Nat) o,b∉blind h R→h[b]? =some o→liveOb o=true:=by
 intro b o hb ho;cases hl:liveOb o with
 | true=>rfl
 | false=>
  exfalso;apply hb;unfold blind
  grind
def Eff.fine:Eff→Prop
 | .own n M L1 W=>(∀k∈M,k<n)∧n≤L1.length∧∀k,k<L1.length→k∉M→k∈W
 | _=>True
theorem preB_ok {e:Eff} {hp:List Ob} (hf:e.fine) (h:preB e hp=true):e.pre hp:=by
 cases e with
 | non=>trivial
 | fz ts=>trivial
 | fill s ob=>
  simp only [preB] at h;split at h
  ·rename_i hs;exact hs
  ·simp at h
 | app b d c=>simp [preB,Nat.blt_eq] at h;exact h
 | sto b ob=>simp [preB,Nat.blt_eq] at h;exact h
 | rc ts b ob=>simp [preB,Nat.blt_eq] at h;exact h
 | own n M L1 W=>simp [preB] at h;exact ⟨h,hf⟩
theorem ownE_ok {h:List Ob} {R:List Nat} {x:Option (RV×List Ob)} {r:RV} {e:Eff} (hx:ownE h (blind h R) x=some (r,e)):∃L1 W,x=some (r,L1)∧e= .own h.length (blind h R) L1 W∧e.fine:=by
 unfold ownE at hx;split at hx
 ·rename_i r' L1;split at hx
  ·rename_i hle;simp only [Option.some.injEq,Prod.mk.injEq] at hx;obtain ⟨rfl,rfl⟩:=hx;refine ⟨L1,_,rfl,rfl,blind_lt,by simpa using hle,fun k hk hm=> ?_⟩
   simp_all
  ·simp at hx
 ·simp at hx
theorem effM_ok {C:Conf} {call:CallR} {sl:Option Nat} {o:Oper} {ρ:Operand→RV} {h:List Ob} {r:RV} {e:Eff} (hx:effM C call sl o ρ h=some (r,e)):
  DoM C.P C.T C.G (callV call) sl o ρ h r e∧e.fine∧(e.loud=true→louO C.T o=true):=by
 unfold effM at hx;simp only [opQ_eq] at hx;unfold DoM;have own:∀{c:Cal} {as:List RV} {f:Operand} {args:List Operand},calOf (ρ f) (args.map ρ)=some (c,as)→ownM call c as h=some (r,e)→
   ((∃g as as' ts,calOf (ρ f) (args.map ρ)=some (.fn g,as)∧fzRs h as=some (as',ts)∧(callV call).v g as' r∧e=if scalarR r then .non else .fz ts)∨
   (∃c as M2 L1 W,calOf (ρ f) (args.map ρ)=some (c,as)∧(callV call).o c as (msk M2 h) r L1∧(∀(b:Nat) o,b∉M2→h[b]? =some o→liveOb o=true)∧e= .own h.length M2 L1 W))∧e.fine:=by
  intro c as f args hc ho;obtain ⟨L1,W,k1,k2,k3⟩:=ownE_ok ho;exact ⟨.inr ⟨c,as,_,L1,W,hc,k1,blind_live,k2⟩,k3⟩
 split at hx
 ·rename_i f args hcal;have hl:louO C.T o=true:=by unfold louO;simp [hcal]
  simp only [hcal];rw [← and_assoc];refine ⟨?_,fun _=>hl⟩;split at hx
  ·rename_i g as hc;split at hx
   ·rename_i as' ts hown hfz;split at hx
    ·rename_i r' hv;simp only [Option.some.injEq,Prod.mk.injEq] at hx;obtain ⟨rfl,rfl⟩:=hx;refine ⟨.inl ⟨g,as,as',ts,hc,hfz,hv,rfl⟩,?_⟩;split<;>trivial
    grind
   grind
  all_goals grind
 ·rename_i hcal;simp only [hcal];split at hx
  ·rename_i s;split at hx
   ·rename_i r' ob hf;simp only [Option.some.injEq,Prod.mk.injEq] at hx;obtain ⟨rfl,rfl⟩:=hx;exact ⟨⟨ob,hf,rfl⟩,trivial,by simp [Eff.loud]⟩
   ·simp at hx
  ·split at hx
   ·simp at hx
   ·rename_i hfr;split at hx
    ·rename_i hq;split at hx
     ·rename_i r' h' ho;simp only [Option.some.injEq,Prod.mk.injEq] at hx;obtain ⟨rfl,rfl⟩:=hx;refine ⟨.inl ⟨rfl,fun hp2 hu=> ?_⟩,trivial,by simp [Eff.loud]⟩;cases hk:kindOp C.T o.op with
      | mute=>exact (mute_inv hk ho).2 hp2
      | read=>exact (read_inv hk ho).2 hp2 hu
      | _=>rw [hk] at hq;simp [isQuiet] at hq
     ·simp at hx
    ·rename_i hq;obtain ⟨L1,W,k1,k2,k3⟩:=ownE_ok hx;exact ⟨.inr ⟨_,L1,W,k1,blind_live,k2⟩,k3,fun _=>by unfold louO;simp_all⟩
theorem passM_ok {C:Conf} {call:CallR} {ops:Array Oper} {sl:Nat→Option Nat} {M wr:Nat→List Nat} {lou:Nat→Bool} (hlou:∀i o,ops[i]? =some o→louO C.T o=true→lou i=true):
  ∀(l:List Oper) (i:Nat) (st st':St) (ws:List (List Nat)),(∀(k:Nat) o,l[k]? =some o→ops[i+k]? =some o)→passM C call ops sl M i l st=some (ws,st')→(∀k,∀b∈ws.getD k [],b∈wr (i+k))→
  RunM C.P C.T C.G (callV call) ops ⟨sl,M,wr,lou⟩ (List.range' i l.length) st st'
 | [],i,st,st',ws,hl,h,hw=>by
  simp only [passM,Option.some.injEq,Prod.mk.injEq] at h;exact h.2.symm
 | o::l,i,st,st',ws,hl,h,hw=>by
  have ho:ops[i]? =some o:=hl 0 o rfl;have hl':∀(k:Nat) o',l[k]? =some o'→ops[i+1+k]? =some o':=fun k o' hk=>by
   have:=hl (k+1) o' (by simpa using hk)
   grind
  simp only [passM,evQ_eq,putQ_eq] at h;rw [List.length_cons,List.range'_succ];split at h
  ·simp at h
  ·rename_i hwt;split at h
   ·rename_i ws' st2 hp;simp only [Option.some.injEq,Prod.mk.injEq] at h;obtain ⟨rfl,rfl⟩:=h;refine ⟨_,⟨o,undefR,.non,ho,.inl ⟨hwt,rfl,rfl⟩,trivial,by simp [Eff.wr],by simp [Eff.loud],rfl⟩,?_⟩;refine passM_ok hlou l (i+1) _ _ ws' hl' hp fun k b hb=> ?_;have:=hw (k+1) b (by simpa using hb)
    grind
   ·simp at h
  ·rename_i hwt;split at h
   ·simp at h
   ·rename_i hg;split at h
    ·rename_i r e he;split at h
     ·rename_i hpre;split at h
      ·rename_i ws' st2 hp;simp only [Option.some.injEq,Prod.mk.injEq] at h;obtain ⟨rfl,rfl⟩:=h;obtain ⟨k1,k2,k3⟩:=effM_ok he;refine ⟨_,⟨o,r,e,ho,.inr ⟨hwt,hg,k1⟩,preB_ok k2 hpre,fun b hb=> ?_,fun hl=>hlou i o ho (k3 hl),rfl⟩,?_⟩
       ·have:=hw 0 b (by simpa using hb);omega
       ·refine passM_ok hlou l (i+1) _ _ ws' hl' hp fun k b hb=> ?_;have:=hw (k+1) b (by simpa using hb)
        grind
      ·simp at h
     ·simp at h
    ·simp at h
end
end Go.Sx
namespace Go.Sx
section
variable {C:Conf} {call:CallR} {ops:Array Oper}
def louF (T:Tab) (ops:Array Oper):Nat→Bool:=fun i=>match ops[i]? with
 | some o=>louO T o
 | none=>true
theorem louF_spec {T:Tab}:∀i o,ops[i]? =some o→louO T o=true→louF T ops i=true:=by
 intro i o ho hl;simp [louF,ho,hl]
theorem nthI_eq:∀(l:List Inf) (i:Nat),nthI l i=l[i]?
 | [],i=>by simp [nthI]
 | x::l,0=>rfl
 | x::l,i+1=>by
  show nthI l i=_;rw [nthI_eq l i];simp
theorem bitsL_mem {l:List Nat} {k:Nat} (h:k∈l):(bitsL l).testBit k=true:=by
 have key:∀(l:List Nat) (s:Nat),(s.testBit k=true∨k∈l)→(l.foldl (fun s k=>s ||| 2^k) s).testBit k=true:=by
  intro l
  induction l with
  | nil=>simp_all
  | cons x l ih=>
   grind
 exact key l 0 (.inr h)
theorem land_zero {a b k:Nat} (h:Nat.beq (Nat.land a b) 0=true) (ha:a.testBit k=true) (hb:b.testBit k=true):False:=by
 have e:=Nat.eq_of_beq_eq_true h;have:(a &&& b).testBit k=true:=by rw [Nat.testBit_and,ha,hb];rfl
 simp_all
theorem pairI_spec {T:Tab} {oi oj:Oper} (h:pairI (infO T ops oi) (infO T ops oj)=true):((∀d,oi.dst=some d→d∉usesOp ops oj)∧(∀d,oj.dst=some d→d∉usesOp ops oi)∧(∀d,oi.dst=some d→oj.dst≠some d))∧(louO T oi=false∨louO T oj=false):=by
 unfold pairI at h;rw [Bool.and_eq_true,Bool.and_eq_true,Bool.and_eq_true] at h;obtain ⟨⟨⟨h1,h2⟩,h3⟩,h4⟩:=h;have two:∀d,(2^d).testBit d=true:=fun d=>by simp_all
 refine ⟨⟨fun d hd hm=> ?_,fun d hd hm=> ?_,fun d hd he=> ?_⟩,?_⟩
 ·simp only [infO,hd] at h2;exact land_zero h2 (bitsL_mem hm) (two d)
 ·simp only [infO,hd] at h1;exact land_zero h1 (bitsL_mem hm) (two d)
 ·simp only [infO,hd,he] at h3
  simp_all
 ·simpa [infO,Bool.or_eq_true] using h4
theorem disj_spec {a b:List Nat} (h:disj a b=true):∀x∈a,x∉b:=by
 intro x hx hb;unfold disj at h
 simp_all
theorem statOk_spec {T:Tab} (h:statOk T ops=true):backOk ops=true∧∀i j,j<i→i<ops.size→((befs [] ops.toList).getD i 0).testBit j=true∨pairOk (ops.toList.map (infO T ops)) i j=true:=by
 unfold statOk at h
 simp_all
theorem disjOk_spec {B:List Nat} {ws:List (List Nat)} (h:disjOk ops.size B ws=true) {i j:Nat} (hji:j<i) (hi:i<ops.size):(B.getD i 0).testBit j=true∨disj (ws.getD i []) (ws.getD j [])=true:=by
 unfold disjOk at h
 simp_all
theorem mask_mem {n:Nat} {B:List Nat} {ws:List (List Nat)} {i j b:Nat} (hj:j<n) (hu:unordB B i j=true) (hb:b∈ws.getD j []):b∈maskM n B ws i:=by
 unfold maskM
 grind
theorem Ind.of_pair {T:Tab} {sl:Nat→Option Nat} {M wr:Nat→List Nat} {i j:Nat} (h:pairOk (ops.toList.map (infO T ops)) i j=true) (hM:(∀b∈wr j,b∈M i)∧(∀b∈wr i,b∈M j)) (hd:∀b∈wr i,b∉wr j):
  Ind ops ⟨sl,M,wr,louF T ops⟩ i j:=by
 unfold pairOk at h;rw [nthI_eq,nthI_eq] at h;split at h
 ·rename_i a b ha hb;rw [List.getElem?_map] at ha hb;cases hi:ops.toList[i]? with
  | none=>simp_all
  | some oi=>
   cases hj:ops.toList[j]? with
   | none=>simp_all
   | some oj=>
    rw [hi] at ha;rw [hj] at hb;simp only [Option.map_some,Option.some.injEq] at ha hb;subst ha;subst hb;obtain ⟨h1,h2⟩:=pairI_spec h;have hi':ops[i]? =some oi:=by simpa using hi
    have hj':ops[j]? =some oj:=by simpa using hj
    refine ⟨fun oi' oj' h4 h5=> ?_,?_,hM,hd⟩
    ·simp_all
    ·simp only [louF,hi',hj'];exact h2
 ·simp at h
theorem subW_spec:∀{as bs:List (List Nat)},subW as bs=true→∀k,∀b∈as.getD k [],b∈bs.getD k []
 | [],bs,_,k,b,hb=>by simp at hb
 | a::as,bs,h,k,b,hb=>by
  simp only [subW,Bool.and_eq_true] at h;cases k with
  | zero=>
   have:=List.all_eq_true.1 h.1 b (by simpa using hb);have hm:b∈bs.headD []:=by simpa using this
   cases bs with
   | nil=>simp at hm
   | cons x xs=>simpa using hm
  | succ k=>
   have:=subW_spec h.2 k b (by simpa using hb)
   simp_all
theorem ops_get:∀(k:Nat) o,ops.toList[k]? =some o→ops[0+k]? =some o:=by
 simp_all
theorem runD_sound [TOk C.P C.T] (hwf:WFP C.T) (hmix:C.P.follows .mixedOrders=true) (hcall:CallOk C.P C.G call) {st st':St} (h:runD C call ops st=some st'):DrawOk C.P C.G ops st fun s=>s=st':=by
 unfold runD at h;split at h
 ·simp at h
 ·rename_i hstat;obtain ⟨hback,hpairs⟩:=statOk_spec hstat;split at h
  ·simp at h
  ·rename_i ws st1 hp1;have hrange:List.range' 0 ops.toList.length=List.range ops.size:=by
    rw [List.range_eq_range'];simp
   split at h
   ·rename_i hemp;simp at h;subst h;have hws:∀k,ws.getD k []=[]:=by
     intro k;rw [List.getD_eq_getElem?_getD];cases hk:ws[k]? with
     | none=>rfl
     | some x=>
      have:=List.all_eq_true.1 hemp x (List.mem_of_getElem? hk)
      simp_all
    have hrun:=passM_ok (wr:=fun _=>[]) (lou:=louF C.T ops) louF_spec ops.toList 0 _ _ ws ops_get hp1 (fun k b hb=>by simp_all);rw [hrange] at hrun;refine DrawOk.of_plan hwf (callV_ok hcall) (freshIdx ops) _ rfl hback (fun i j hji hi=> ?_) hmix hrun rfl
    rcases hpairs i j hji hi with hb | hb
    ·exact .inl hb
    ·exact .inr (Ind.of_pair hb ⟨by simp,by simp⟩ (by simp))
   ·split at h
    ·simp at h
    ·rename_i hdis;split at h
     ·simp at h
     ·rename_i ws' st2 hp2;split at h
      ·rename_i hsub;simp at h;subst h;have hrun:=passM_ok (wr:=fun k=>ws.getD k []) (lou:=louF C.T ops) louF_spec ops.toList 0 _ _ ws' ops_get hp2 (fun k b hb=>by have:=subW_spec hsub k b hb;simp_all);rw [hrange] at hrun;refine DrawOk.of_plan hwf (callV_ok hcall) (freshIdx ops) _ rfl hback (fun i j hji hi=> ?_) hmix hrun rfl
       by_cases hbit:((befs [] ops.toList).getD i 0).testBit j=true
       ·exact .inl hbit
       ·rcases hpairs i j hji hi with hb | hb
        ·exact .inl hb
        ·have hne:Nat.beq i j=false:=by
          cases hq:Nat.beq i j with
          | false=>rfl
          | true=>simp_all
         have hne':Nat.beq j i=false:=by
          cases hq:Nat.beq j i with
          | false=>rfl
          | true=>simp_all
         have u1:unordB (befs [] ops.toList) i j=true:=by
          have:Nat.blt j i=true:=by simpa [Nat.blt_eq] using hji
          simp only [unordB,hne,this]
          simpa using hbit
         have u2:unordB (befs [] ops.toList) j i=true:=by
          have:Nat.blt i j=false:=by
           cases hq:Nat.blt i j with
           | false=>rfl
           | true=>rw [Nat.blt_eq] at hq;omega
          simp only [unordB,hne',this]
          simpa using hbit
         refine .inr (Ind.of_pair hb ⟨fun b hb=>mask_mem (by omega) u1 hb,fun b hb=>mask_mem hi u2 hb⟩ ?_)
         rcases disjOk_spec hdis hji hi with hd | hd
         ·simp_all
         ·exact disj_spec hd
      ·simp at h
end
end Go.Sx
namespace Go.Sx
structure Conf.Ok (C:Conf):Prop where
 tok:TOk C.P C.T
 wf:WFP C.T
 mix:C.P.follows .mixedOrders=true
 func:∀f fn,C.func f=some fn→C.P.funcs[f]? =some fn∧fn.name≠ "runtime.NumGoroutine"
 val:∀f args r,C.val f args=some r→ValC C.P C.G f args (·=r)
 ext:∀f args hp r hp',C.ext f args hp=some (r,hp')→CalOk C.P C.G (.fn f) args hp fun r' L'=>r'=r∧L'=hp'
section
variable {C:Conf} {call:CallR} {k:Nat}
theorem iterN_sound {F:St→(Ex→St→Prop)→Prop} (hF:∀st Q Q',F st Q→(∀e s,Q e s→Q' e s)→F st Q') {f:St→Option (Ex×St)} (hf:∀st e st',f st=some (e,st')→F st fun e' s=>e'=e∧s=st'):
  ∀(n:Nat) (st st':St) (e:Ex),iterN f n st=some (e,st')→loopW F (fun e' s=>e'=e∧s=st') n st
 | 0,st,st',e,h=>by rw [iterN_zero] at h;simp at h
 | n+1,st,st',e,h=>by
  rw [iterN_succ] at h;split at h
  ·rename_i st1 h1;refine hF _ _ _ (hf _ _ _ h1) ?_;rintro e' s ⟨rfl,rfl⟩;exact iterN_sound hF hf n _ _ _ h
  ·rename_i r hne;cases hr:f st with
   | none=>simp_all
   | some p=>
    obtain ⟨e1,s1⟩:=p;rw [hr] at h;simp only [Option.some.injEq,Prod.mk.injEq] at h;obtain ⟨rfl,rfl⟩:=h;refine hF _ _ _ (hf _ _ _ hr) ?_;rintro e' s ⟨rfl,rfl⟩;cases e' with
    | normal=>simp_all
    | exit i=>simp_all
    | ret=>simp_all
theorem runC_sound (hC:C.Ok) (hcall:CallOk C.P C.G call) {fn:FuncId} {rnd:Bool}:∀(c:Code) (st st':St) (e:Ex),runC C call k fn rnd c st=some (e,st')→
  wpC C.P C.T C.G (CalOk C.P C.G) (DrawOk C.P C.G) fn rnd c st fun e' s=>e'=e∧s=st':=by
 have:=hC.tok;intro c
 induction c with
 | skip=>intro st st' e h;rw [runC_skip] at h;simp at h;obtain ⟨rfl,rfl⟩:=h;exact ⟨rfl,rfl⟩
 | label l=>intro st st' e h;rw [runC_label] at h;simp at h;obtain ⟨rfl,rfl⟩:=h;exact ⟨rfl,rfl⟩
 | ret=>intro st st' e h;rw [runC_ret] at h;simp at h;obtain ⟨rfl,rfl⟩:=h;exact ⟨rfl,rfl⟩
 | exit i=>intro st st' e h;rw [runC_exit] at h;simp at h;obtain ⟨rfl,rfl⟩:=h;exact ⟨rfl,rfl⟩
 | region id ops dr=>
  intro st st' e h;cases dr with
  | false=>
   rw [runC_reg] at h;simp only [optSt] at h;split at h
   ·rename_i s hs;simp only [Option.some.injEq,Prod.mk.injEq] at h;obtain ⟨rfl,rfl⟩:=h;exact wpL_mono (runL_sound hcall _ _ _ hs) fun s hs=>⟨rfl,hs⟩
   ·simp at h
  | true=>
   rw [runC_draw] at h;simp only [optSt] at h;split at h
   ·rename_i s hs;simp only [Option.some.injEq,Prod.mk.injEq] at h;obtain ⟨rfl,rfl⟩:=h;exact DrawOk.mono (runD_sound hC.wf hC.mix hcall hs) fun s hs=>⟨rfl,hs⟩
   ·simp at h
 | seq a b iha ihb=>
  intro st st' e h;rw [runC_seq] at h;split at h
  ·rename_i st1 h1;refine wpC_mono a (iha _ _ _ h1) ?_
   simp_all
  ·rename_i r hne;refine wpC_mono a (iha _ _ _ h) ?_;rintro e' s ⟨rfl,rfl⟩;cases e' with
   | normal=>simp_all
   | exit i=>simp_all
   | ret=>simp_all
 | cond x a b iha ihb=>
  intro st st' e h;rw [runC_cond] at h;simp only [evQ_eq] at h;simp only [wpC]
  grind
 | block id a iha=>
  intro st st' e h;rw [runC_block] at h;split at h
  ·rename_i i s1 h1;refine wpC_mono a (iha _ _ _ h1) ?_
   grind
  ·rename_i r hne;refine wpC_mono a (iha _ _ _ h) ?_;rintro e' s ⟨rfl,rfl⟩;cases e' with
   | normal=>simp_all
   | exit i=>simp_all
   | ret=>simp_all
 | loop a iha=>
  intro st st' e h;rw [runC_loop] at h;exact ⟨k,iterN_sound (F:=wpC C.P C.T C.G (CalOk C.P C.G) (DrawOk C.P C.G) fn rnd a) (fun st Q Q' h hq=>wpC_mono a h hq) (fun st e st' h=>iha _ _ _ h) _ _ _ _ h⟩
 | rangeFunc f params assign body _ _=>
  intro st st' e h;rw [runC_range] at h;simp only [evQ_eq] at h;split at h
  ·rename_i hgood _ _;simp only [wpC];refine ⟨trivial,hgood,?_⟩;split at h
   ·rename_i g as hc;simp only [hc];split at h
    ·rename_i r hp hr;refine CalOk.mono (hcall _ _ _ _ _ hr) ?_
     grind
    ·simp at h
   ·simp at h
  ·simp at h
 | _=>intro st st' e h;exact absurd h (by simp [runC])
theorem bodyR_sound (hC:C.Ok) (hcall:CallOk C.P C.G call) {f:FuncId} {args:List RV} {hp:List Ob} {r:RV} {hp':List Ob} (h:bodyR C call k f args hp=some (r,hp')):CalOk C.P C.G (.fn f) args hp fun r' L'=>r'=r∧L'=hp':=by
 have:=hC.tok;unfold bodyR at h;split at h
 ·rename_i fn hf;obtain ⟨hf1,hf2⟩:=hC.func f fn hf;split at h
  ·rename_i c hb;have key:∀e st,runC C call k f false c ⟨regs0 fn args,hp⟩=some (e,st)→(∀i,e≠.exit i)→resultsR C.T C.G fn st=some r→st.hp=hp'→CalOk C.P C.G (.fn f) args hp fun r' L'=>r'=r∧L'=hp':=by
    intro e st hr hne hres hhp;refine CalOk.of_body hC.wf hf1 hb hf2 (wpC_mono c (runC_sound hC hcall c _ _ _ hr) ?_);rintro e' s ⟨rfl,rfl⟩;cases e' with
    | exit i=>simp_all
    | normal=>simp_all
    | ret=>simp_all
   grind
  ·simp at h
 ·simp at h
theorem roundR_sound (hC:C.Ok) (hcall:CallOk C.P C.G call) {b:Nat} {args:List RV} {hp:List Ob} {r:RV} {hp':List Ob} (h:roundR C call k b args hp=some (r,hp')):CalOk C.P C.G (.yl b) args hp fun r' L'=>r'=r∧L'=hp':=by
 have:=hC.tok;unfold roundR at h;split at h
 ·rename_i lr hl;split at h
  ·rename_i hlen;split at h
   ·rename_i st1 h1;split at h
    ·rename_i r1 hl1;split at h
     ·rename_i hready;split at h
      ·rename_i e st2 h2;split at h
       ·rename_i r2 hl2;simp only [Option.some.injEq,Prod.mk.injEq] at h;obtain ⟨rfl,rfl⟩:=h;refine CalOk.of_round hC.wf hl (by simp_all) (wpC_mono _ (runC_sound hC hcall _ _ _ _ h1) ?_);rintro e' s ⟨rfl,rfl⟩;refine ⟨r1,hl1,hready,wpC_mono _ (runC_sound hC hcall _ _ _ _ h2) ?_⟩
        simp_all
       ·simp at h
      ·simp at h
     ·simp at h
    ·simp at h
   ·simp at h
  ·simp at h
 ·simp at h
theorem callN_sound (hC:C.Ok):∀n,CallOk C.P C.G (callN C k n)
 | 0=>by intro c as hp r hp' h;rw [callN_zero] at h;simp at h
 | n+1=>by
  intro c as hp r hp' h;have ih:=callN_sound hC n;rw [callN_succ] at h;split at h
  ·exact roundR_sound hC ih h
  ·rename_i f;split at h
   ·rename_i x hx;simp only [Option.some.injEq] at h;subst h;exact hC.ext f as hp r hp' hx
   split at h
   ·exact bodyR_sound hC ih h
   ·split at h
    ·exact bodyR_sound hC ih h
    ·rename_i as' ts hz;split at h
     ·rename_i r0 hv;simp only [byVal,Option.some.injEq,Prod.mk.injEq] at h;obtain ⟨rfl,rfl⟩:=h;refine CalOk.of_val hz (hC.val _ _ _ hv) ?_
      simp_all
     ·split at h
      ·rename_i r0 hp0 hb;split at h
       ·rename_i r1 ts1 hf;simp only [byVal,Option.some.injEq,Prod.mk.injEq] at h;obtain ⟨rfl,rfl⟩:=h;refine CalOk.of_val hz (Q:=(·=r1)) (CalOk.mono (bodyR_sound hC ih hb) ?_) ?_
        all_goals simp_all
       ·exact bodyR_sound hC ih h
      ·simp at h
theorem ValC.of_run (hC:C.Ok) {n:Nat} {f:FuncId} {args:List RV} {r:RV} (h:valOf (callN C k n) f args=some r):ValC C.P C.G f args (·=r):=
 (callV_ok (callN_sound hC n)).v f args r h
end
end Go.Sx
namespace Go.Sx
inductive Tree (α:Type) where
 | lf
 | nd (l:Tree α) (k:Nat) (v:α) (r:Tree α)
noncomputable def Tree.get {α:Type} (t:Tree α) (n:Nat):Option α:=
 Tree.rec (motive:=fun _=>Option α) none (fun _ k v _ l r=>match Nat.beq n k with
  | true=>some v
  | false=>match Nat.ble n k with
   | true=>l
   | false=>r) t
def Tree.allB {α:Type} (p:Nat→α→Bool):Tree α→Bool
 | .lf=>true
 | .nd l k v r=>p k v && l.allB p && r.allB p
theorem Tree.get_nd {α:Type} {l r:Tree α} {k n:Nat} {v:α}:(Tree.nd l k v r).get n=match Nat.beq n k with
  | true=>some v
  | false=>match Nat.ble n k with
   | true=>l.get n
   | false=>r.get n:=rfl
theorem Tree.allB_get {α:Type} {p:Nat→α→Bool}:∀{t:Tree α},t.allB p=true→∀{n:Nat} {v:α},t.get n=some v→p n v=true
 | .lf,_,n,v,h=>by simp [Tree.get] at h
 | .nd l k x r,ha,n,v,h=>by
  simp only [Tree.allB,Bool.and_eq_true] at ha;rw [Tree.get_nd] at h;split at h
  ·simp_all
  ·split at h
   ·exact Tree.allB_get ha.1.2 h
   ·exact Tree.allB_get ha.2 h
def Tree.All {α:Type} (p:Nat→α→Prop):Tree α→Prop
 | .lf=>True
 | .nd l k v r=>l.All p∧p k v∧r.All p
theorem Tree.All.get {α:Type} {p:Nat→α→Prop}:∀{t:Tree α},t.All p→∀{n:Nat} {v:α},t.get n=some v→p n v
 | .lf,_,n,v,h=>by simp [Tree.get] at h
 | .nd l k x r,ha,n,v,h=>by
  obtain ⟨h1,h2,h3⟩:=ha;rw [Tree.get_nd] at h;split at h
  ·simp_all
  ·split at h
   ·exact Tree.All.get h1 h
   ·exact Tree.All.get h3 h
def eqK:IntKind→IntKind→Bool
 | .i8,.i8=>true
 | .i16,.i16=>true
 | .i32,.i32=>true
 | .i64,.i64=>true
 | .u8,.u8=>true
 | .u16,.u16=>true
 | .u32,.u32=>true
 | .u64,.u64=>true
 | _,_=>false
theorem eqK_ok:∀{a b:IntKind},eqK a b=true→a=b:=by
 intro a b h;cases a<;>cases b<;>simp_all [eqK]
def eqZ:Int→Int→Bool
 | .ofNat a,.ofNat b=>Nat.beq a b
 | .negSucc a,.negSucc b=>Nat.beq a b
 | _,_=>false
theorem eqZ_ok:∀{a b:Int},eqZ a b=true→a=b:=by
 intro a b h;cases a<;>cases b<;>simp [eqZ] at h
 all_goals simp_all
def eqU:List UInt8→List UInt8→Bool
 | [],[]=>true
 | a::as,b::bs=>match Nat.beq a.toNat b.toNat with
  | true=>eqU as bs
  | false=>false
 | _,_=>false
theorem eqU_ok:∀{a b:List UInt8},eqU a b=true→a=b
 | [],[],_=>rfl
 | a::as,b::bs,h=>by
  simp only [eqU] at h;split at h
  ·rename_i hn;have h1:a=b:=UInt8.toNat_inj.1 (Nat.eq_of_beq_eq_true hn);rw [h1,eqU_ok h]
  ·simp at h
 | [],_::_,h=>by simp [eqU] at h
 | _::_,[],h=>by simp [eqU] at h
def eqV:Value→Value→Bool
 | .bool a,.bool b=>match a,b with
  | true,true=>true
  | false,false=>true
  | _,_=>false
 | .int k a,.int k' b=>eqK k k' && eqZ a b
 | .string a,.string b=>eqU a.data.toList b.data.toList
 | .slice none 0 0,.slice none 0 0=>true
 | .nilFunc,.nilFunc=>true
 | .nilIface,.nilIface=>true
 | .map none,.map none=>true
 | .pointer none,.pointer none=>true
 | .func (.func f) ⟨[]⟩ ⟨[]⟩,.func (.func g) ⟨[]⟩ ⟨[]⟩=>Nat.beq f g
 | _,_=>false
theorem eqV_ok {a b:Value} (h:eqV a b=true):a=b:=by
 unfold eqV at h;split at h
 ·grind
 ·rw [Bool.and_eq_true] at h;rw [eqK_ok h.1,eqZ_ok h.2]
 ·rename_i x y;have:=eqU_ok h;obtain ⟨⟨x⟩⟩:=x
  simp_all
 all_goals simp_all
mutual
def eqP:PV→PV→Bool
 | .vl a,.vl b=>eqV a b
 | .sl n cs,.sl m ds=>match Nat.beq n m with
  | true=>eqPs cs ds
  | false=>false
 | _,_=>false
def eqPs:List PV→List PV→Bool
 | [],[]=>true
 | a::as,b::bs=>match eqP a b with
  | true=>eqPs as bs
  | false=>false
 | _,_=>false
end
mutual
theorem eqP_ok:∀{a b:PV},eqP a b=true→a=b
 | .vl a,.vl b,h=>by simp only [eqP] at h;rw [eqV_ok h]
 | .sl n cs,.sl m ds,h=>by
  simp only [eqP] at h;split at h
  ·rename_i hn;rw [Nat.eq_of_beq_eq_true hn,eqPs_ok h]
  ·simp at h
 | .vl _,.sl _ _,h=>by simp [eqP] at h
 | .sl _ _,.vl _,h=>by simp [eqP] at h
theorem eqPs_ok:∀{a b:List PV},eqPs a b=true→a=b
 | [],[],_=>rfl
 | a::as,b::bs,h=>by
  simp only [eqPs] at h;split at h
  ·rename_i hn;rw [eqP_ok hn,eqPs_ok h]
  ·simp at h
 | [],_::_,h=>by simp [eqPs] at h
 | _::_,[],h=>by simp [eqPs] at h
end
def eqL:LV→LV→Bool
 | .p a,.p b=>eqP a b
 | _,_=>false
theorem eqL_ok {a b:LV} (h:eqL a b=true):a=b:=by
 unfold eqL at h;split at h
 ·rw [eqP_ok h]
 ·simp at h
def eqLs:List LV→List LV→Bool
 | [],[]=>true
 | a::as,b::bs=>match eqL a b with
  | true=>eqLs as bs
  | false=>false
 | _,_=>false
theorem eqLs_ok:∀{a b:List LV},eqLs a b=true→a=b
 | [],[],_=>rfl
 | a::as,b::bs,h=>by
  simp only [eqLs] at h;split at h
  ·rename_i hn;rw [eqL_ok hn,eqLs_ok h]
  ·simp at h
 | [],_::_,h=>by simp [eqLs] at h
 | _::_,[],h=>by simp [eqLs] at h
def eqW:RW→RW→Bool
 | .one a,.one b=>eqL a b
 | .agg a,.agg b=>eqLs a b
 | _,_=>false
theorem eqW_ok {a b:RW} (h:eqW a b=true):a=b:=by
 unfold eqW at h;split at h
 ·rw [eqL_ok h]
 ·rw [eqLs_ok h]
 ·simp at h
def eqWs:List RW→List RW→Bool
 | [],[]=>true
 | a::as,b::bs=>match eqW a b with
  | true=>eqWs as bs
  | false=>false
 | _,_=>false
theorem eqWs_ok:∀{a b:List RW},eqWs a b=true→a=b
 | [],[],_=>rfl
 | a::as,b::bs,h=>by
  simp only [eqWs] at h;split at h
  ·rename_i hn;rw [eqW_ok hn,eqWs_ok h]
  ·simp at h
 | [],_::_,h=>by simp [eqWs] at h
 | _::_,[],h=>by simp [eqWs] at h
def eqR:RV→RV→Bool
 | .v a,.v b=>eqW a b
 | .tup a,.tup b=>eqWs a b
 | _,_=>false
theorem eqR_ok {a b:RV} (h:eqR a b=true):a=b:=by
 unfold eqR at h;split at h
 ·rw [eqW_ok h]
 ·rw [eqWs_ok h]
 ·simp at h
def eqRs:List RV→List RV→Bool
 | [],[]=>true
 | a::as,b::bs=>match eqR a b with
  | true=>eqRs as bs
  | false=>false
 | _,_=>false
theorem eqRs_ok:∀{a b:List RV},eqRs a b=true→a=b
 | [],[],_=>rfl
 | a::as,b::bs,h=>by
  simp only [eqRs] at h;split at h
  ·rename_i hn;rw [eqR_ok hn,eqRs_ok h]
  ·simp at h
 | [],_::_,h=>by simp [eqRs] at h
 | _::_,[],h=>by simp [eqRs] at h
structure Ent where
 i:Nat
 args:List RV
 r:RV
def findE (bound:Nat) (args:List RV):List Ent→Option RV
 | []=>none
 | e::l=>match Nat.blt e.i bound with
  | true=>match eqRs e.args args with
   | true=>some e.r
   | false=>findE bound args l
  | false=>findE bound args l
theorem findE_ok {bound:Nat} {args:List RV}:∀{l:List Ent} {r:RV},findE bound args l=some r→∃e∈l,e.i<bound∧e.args=args∧e.r=r
 | [],r,h=>by simp [findE] at h
 | e::l,r,h=>by
  simp only [findE] at h;have next:findE bound args l=some r→∃e'∈e::l,e'.i<bound∧e'.args=args∧e'.r=r:=by
   intro h';obtain ⟨e',h1,h2⟩:=findE_ok h';exact ⟨e',List.mem_cons_of_mem _ h1,h2⟩
  split at h
  ·rename_i hb;split at h
   ·rename_i he;simp at h;exact ⟨e,by simp,by simp_all,eqRs_ok he,h⟩
   ·exact next h
  ·exact next h
noncomputable def tabVal (t:Tree (List Ent)) (bound:Nat) (prim:FuncId→List RV→Option RV) (f:FuncId) (args:List RV):Option RV:=match t.get f with
 | some l=>match findE bound args l with
  | some r=>some r
  | none=>prim f args
 | none=>prim f args
noncomputable def chkE (C:Conf) (k n lo hi:Nat) (f:FuncId) (e:Ent):Bool:=match Nat.ble lo e.i with
 | false=>true
 | true=>match Nat.blt e.i hi with
  | false=>true
  | true=>match valOf (callN C k n) f e.args with
   | some r=>eqR r e.r
   | none=>false
noncomputable def chkT (C:Conf) (k n lo hi:Nat) (t:Tree (List Ent)):Bool:=t.allB fun f l=>l.all (chkE C k n lo hi f)
def EntOk (P:Program) (G:Globs) (t:Tree (List Ent)) (b:Nat):Prop:=∀f l,t.get f=some l→∀e∈l,e.i<b→ValC P G f e.args (·=e.r)
structure Conf.Base (C:Conf) (prim:FuncId→List RV→Option RV):Prop where
 tok:TOk C.P C.T
 wf:WFP C.T
 mix:C.P.follows .mixedOrders=true
 func:∀f fn,C.func f=some fn→C.P.funcs[f]? =some fn∧fn.name≠ "runtime.NumGoroutine"
 prim:∀f args r,prim f args=some r→ValC C.P C.G f args (·=r)
 ext:∀f args hp r hp',C.ext f args hp=some (r,hp')→CalOk C.P C.G (.fn f) args hp fun r' L'=>r'=r∧L'=hp':=by intro _ _ _ _ _ h;cases h
theorem Conf.Base.ok {C:Conf} {prim:FuncId→List RV→Option RV} (h:C.Base prim) {t:Tree (List Ent)} {b:Nat} (ht:EntOk C.P C.G t b) (hv:C.val=tabVal t b prim):C.Ok where
 tok:=h.tok
 wf:=h.wf
 mix:=h.mix
 func:=h.func
 ext:=h.ext
 val f args r hr:=by
  rw [hv] at hr;unfold tabVal at hr;split at hr
  ·rename_i l hl;split at hr
   ·rename_i r' hf;simp at hr;subst hr;obtain ⟨e,h1,h2,rfl,rfl⟩:=findE_ok hf;exact ht f l hl e h1 h2
   ·exact h.prim f args r hr
  ·exact h.prim f args r hr
theorem EntOk.zero {P:Program} {G:Globs} {t:Tree (List Ent)}:EntOk P G t 0:=fun _ _ _ _ _ h=>absurd h (Nat.not_lt_zero _)
theorem EntOk.stage {C:Conf} {prim:FuncId→List RV→Option RV} (h:C.Base prim) {t:Tree (List Ent)} {lo hi k n:Nat} (ht:EntOk C.P C.G t lo) (hv:C.val=tabVal t lo prim) (hc:chkT C k n lo hi t=true):EntOk C.P C.G t hi:=by
 have hC:=h.ok ht hv;intro f l hl e he hlt
 rcases Nat.lt_or_ge e.i lo with h1 | h1
 ·exact ht f l hl e he h1
 ·have h2:=Tree.allB_get hc hl;have h3:=List.all_eq_true.1 h2 e he;unfold chkE at h3;have e1:Nat.ble lo e.i=true:=by simpa using h1
  have e2:Nat.blt e.i hi=true:=by simpa [Nat.blt_eq] using hlt
  simp only [e1,e2] at h3;split at h3
  ·rename_i r hr;have:=eqR_ok h3;subst this;exact ValC.of_run hC hr
  ·simp at h3
end Go.Sx
namespace Go.Sx
structure ExtW (n:Nat) (A:Nat→Prop) (S:Where) (L:List Ob) (w:World) (A':Nat→Prop) (S':Where) (L':List Ob) (w':World):Prop where
 size:w.heap.size≤w'.heap.size
 os:w'.os=w.os
 tape:w'.tape=w.tape
 output:w'.output=w.output
 wh:∀b p,b<n→S b=some p→S' b=some p
 nw:∀b,b<n→S b=none→S' b=none
 len:n≤L'.length
 keep:∀B,B<w.heap.size→¬Owned S L B→w'.heap[B]? =w.heap[B]?
 shp:∀(B:Nat) (c:Array Value) (e:TypeId) (fr:Nat×Nat),w.heap[B]? =some (Obj.cells c e fr)→∃c':Array Value,(∃fr',w'.heap[B]? =some (Obj.cells c' e fr'))∧c'.size=c.size
 up:∀B,A B→A' B
 down:∀B,A' B→A B∨w.heap.size≤B∨Owned S L B
 own:∀B,B<w.heap.size→Owned S' L' B→Owned S L B
section
variable {P:Program} {T:Tab} [TOk P T] {G:Globs} {A A' A'':Nat→Prop} {S S' S'':Where} {L L' L'':List Ob} {w w' w'':World} {n:Nat}
theorem Ext.weak (h:Ext A S L w A' S' L' w') (hn:n≤L.length):ExtW n A S L w A' S' L' w':=
 ⟨h.size,h.os,h.tape,h.output,fun b p _=>h.wh b p,fun b hb=>h.nw b (Nat.lt_of_lt_of_le hb hn),Nat.le_trans hn h.len,h.keep,h.shp,h.up,h.down,h.own⟩
theorem ExtW.strong (hs:Sim G A S L w) (h:ExtW L.length A S L w A' S' L' w'):Ext A S L w A' S' L' w':=
 ⟨h.size,h.os,h.tape,h.output,fun b p hb=>h.wh b p (hs.dom b p.1 p.2 hb) hb,fun b hb=>h.nw b hb,h.len,h.keep,h.shp,h.up,h.down,h.own⟩
theorem ExtW.trans (h:ExtW n A S L w A' S' L' w') (k:ExtW n A' S' L' w' A'' S'' L'' w''):ExtW n A S L w A'' S'' L'' w'' where
 size:=Nat.le_trans h.size k.size
 os:=k.os.trans h.os
 tape:=k.tape.trans h.tape
 output:=k.output.trans h.output
 wh b p hb hp:=k.wh b p hb (h.wh b p hb hp)
 nw b hb hn:=k.nw b hb (h.nw b hb hn)
 len:=k.len
 keep B hB hn:=(k.keep B (Nat.lt_of_lt_of_le hB h.size) (fun ho=>hn (h.own B hB ho))).trans (h.keep B hB hn)
 shp B c e fr hc:=by
  obtain ⟨c1,⟨fr1,h1⟩,e1⟩:=h.shp B c e fr hc;obtain ⟨c2,h2,e2⟩:=k.shp B c1 e fr1 h1
  grind
 up B hB:=k.up B (h.up B hB)
 down B hB:=by
  rcases k.down B hB with h1 | h1 | h1
  ·exact h.down B h1
  ·exact .inr (.inl (Nat.le_trans h.size h1))
  ·rcases Nat.lt_or_ge B w.heap.size with hlt | hge
   ·exact .inr (.inr (h.own B hlt h1))
   omega
 own B hB ho:=h.own B hB (k.own B (Nat.lt_of_lt_of_le hB h.size) ho)
theorem Marks.extW {base:Bs} {ds:List Deferred} (h:Marks A S L w base ds) (hx:ExtW n A S L w A' S' L' w'):Marks A' S' L' w' base ds:=by
 obtain ⟨ms,h0,hp,h⟩:=h;refine ⟨ms,h0,hp,fun d hd=> ?_⟩;obtain ⟨D,e,h1,h2,h3,h4⟩:=h d hd;have hlt:=not_lt_heap h2;refine ⟨D,e,h1,by rw [hx.keep D hlt h3];exact h2,fun ho=>h3 (hx.own D hlt ho),fun hA=> ?_⟩
 rcases hx.down D hA with h | h | h
 all_goals grind
variable {fn:FuncId} {rnd:Bool}
omit [TOk P T] in
omit [TOk P T] in
omit [TOk P T] in
omit [TOk P T] in
def AbsP (G:Globs) (n:Nat) (st:St) (F:St→Prop):Prop:=
 ∀A S w t,Sim G A S st.hp w→RelRs A S w st.regs t→n≤st.hp.length→∃st' S',F st'∧n≤st'.hp.length∧Sim G A S' st'.hp w∧RelRs A S' w st'.regs t∧(∀b,b<n→S' b=S b)∧∀B,Owned S' st'.hp B→Owned S st.hp B
omit [TOk P T] in
theorem AbsP.extW {st st':St} (hlen:n≤st'.hp.length) (h1:∀b,b<n→S' b=S b) (h2:∀B,Owned S' st'.hp B→Owned S st.hp B):ExtW n A S st.hp w A S' st'.hp w where
 size:=Nat.le_refl _
 os:=rfl
 tape:=rfl
 output:=rfl
 wh b p hb hp:=by simp_all
 nw b hb hp:=by simp_all
 len:=hlen
 keep _ _ _:=rfl
 shp _ c _ fr h:=⟨c,⟨fr,h⟩,rfl⟩
 up _ h:=h
 down _ h:= .inl h
 own B _ ho:=h2 B ho
omit [TOk P T] in
omit [TOk P T] in
end
end Go.Sx
