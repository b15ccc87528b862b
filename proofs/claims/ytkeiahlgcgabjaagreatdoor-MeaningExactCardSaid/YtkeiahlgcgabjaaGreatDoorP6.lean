/- Part of MeaningExact. -/
import Derived.Test.YtkeiahlgcgabjaaGreatDoorP5
set_option linter.all false
set_option maxRecDepth 1000000
set_option maxHeartbeats 0
namespace Go.Sx
structure bO where
 P:lB
 T:aq
 G:az
 func:FuncId->Option Func
 own:FuncId->Bool
 val:FuncId->eG->Option RV
 ext:FuncId->eG->ag->Option (RV×ag):=fun _ _ _=>none
abbrev dp:=dw->eG->ag->Option (RV×ag)
noncomputable def kk(C:bO)(call:dp)(s:Array Oper)(l:List Oper):St->Option St:=
 List.rec (motive:=fun _=>St->Option St) (fun st=>some st) (fun o _ d st=>match bD s st.regs o with
  |none=>none
  |some false=>d ⟨jn st.regs o.dst bl,st.hp⟩
  |some true=>match cR o with
   |false=>none
   |true=>match bR o.op with
    |some (f,args)=>match cL (gR st.regs f) (args.map (gR st.regs)) with
     |some (c,M)=>match call c M st.hp with
      |some (r,hp)=>d ⟨jn st.regs o.dst r,hp⟩
      |none=>none
     |none=>none
    |none=>match hE o.op C.P C.T C.G (gR st.regs) o st.hp with
     |some (r,hp)=>d ⟨jn st.regs o.dst r,hp⟩
     |none=>none) l
def Ht{C:bO}{call:dp}{r:Array Oper}{st:St}:kk C call r [] st=some st:=rfl
def Gz{C:bO}{call:dp}{s:Array Oper}{o:Oper}{m:List Oper}{st:St}:kk C call s (o::m) st=match bD s st.regs o with
  |none=>none
  |some false=>kk C call s m ⟨jn st.regs o.dst bl,st.hp⟩
  |some true=>match cR o with
   |false=>none
   |true=>match bR o.op with
    |some (f,args)=>match cL (gR st.regs f) (args.map (gR st.regs)) with
     |some (c,M)=>match call c M st.hp with
      |some (r,hp)=>kk C call s m ⟨jn st.regs o.dst r,hp⟩
      |none=>none
     |none=>none
    |none=>match hE o.op C.P C.T C.G (gR st.regs) o st.hp with
     |some (r,hp)=>kk C call s m ⟨jn st.regs o.dst r,hp⟩
     |none=>none:=rfl
def uI:Op->Bool
 | .alloc _=>true
 | .box _ _=>true
 | .buildSlice _ _ _=>true
 |_=>false
def di:Kind->Bool
 | .mute=>true
 | .read=>true
 |_=>false
def fw(T:aq)(o:Oper):Bool:=match bR o.op with
 |some _=>true
 |none=> !uI o.op && !di (cq T o.op)
def r4:LV->ak
 | .ref b _=>[b]
 | .ad b _ _ _=>[b]
 | .map b=>[b]
 | .fn _ M=>M.map (·.1)
 | .aI b=>[b]
 | .gQ _ b _=>[b]
 |_=>[]
def vI:RW->ak
 | .one x=>r4 x
 | .agg xs=>xs.flatMap r4
def oT:RV->ak
 | .v x=>vI x
 | .ab xs=>xs.flatMap vI
def Kg:Ob->ak
 | .cells cs _=>cs.flatMap r4
 | .tc _ cs _=>cs.flatMap r4
 | .map es=>es.flatMap fun e=>vI e.2
 | .loop r=>r.regs.flatMap oT
 |_=>[]
def u6(h:ag):Nat->ak->ak
 | 0,acc=>acc
 |n+1,acc=>u6 h n (acc++acc.flatMap fun b=>match h[b]? with
  |some o=>Kg o
  |none=>[])
def blind(h:ag)(R:ak):ak:=(List.range h.length).filter fun k=>match R.contains k with
 |true=>match h[k]? with
  |some o=> !bT o
  |none=>true
 |false=>true
def h_(call:dp)(f:FuncId)(args:eG):Option RV:=match call (.fn f) args []with
 |some (r,_)=>match eE r with
  |true=>some r
  |false=>none
 |none=>none
def Cw:dw->ak
 | .yl b=>[b]
 |_=>[]
def sx(h:ag)(M:ak):Option (RV×ag)->Option (RV×aF)
 |some (r,L)=>match Nat.ble h.length L.length with
  |true=>some (r,.own h.length M L ((List.range L.length).filter fun k=> !M.contains k))
  |false=>none
 |none=>none
def sy(call:dp)(c:dw)(M:eG)(h:ag):Option (RV×aF):=
 sx h (blind h (u6 h 3 (Cw c++M.flatMap oT))) (call c M (aL (blind h (u6 h 3 (Cw c++M.flatMap oT))) h))
def Cx(ρ:Operand->RV):Op->ak
 | .store _ a _=>oT (ρ a)
 |op=>op.operands.toList.flatMap fun x=>oT (ρ x)
def sz(C:bO)(call:dp)(v:Option Nat)(o:Oper)(ρ:Operand->RV)(h:ag):Option (RV×aF):=
 match bR o.op with
 |some (f,args)=>match cL (ρ f) (args.map ρ) with
  |some (.fn g,M)=>match C.own g,ep h M with
   |false,some (d,ts)=>match h_ call g d with
    |some r=>some (r,if ei r then .eA else .fz ts)
    |none=>sy call (.fn g) M h
   |_,_=>sy call (.fn g) M h
  |some (c,M)=>sy call c M h
  |none=>none
 |none=>match v with
  |some s=>match gm C.T ρ o s with
   |some (r,ob)=>some (r,.fill s ob)
   |none=>none
  |none=>match uI o.op with
   |true=>none
   |false=>match di (cq C.T o.op) with
   |true=>match hE o.op C.P C.T C.G ρ o h with
    |some (r,_)=>some (r,.eA)
    |none=>none
   |false=>sx h (blind h (Cx ρ o.op)) (aJ C.P C.T C.G ρ o (aL (blind h (Cx ρ o.op)) h))
def preB:aF->ag->Bool
 | .fill s _,hp=>match hp[s]? with
  |some .gone=>true
  |_=>false
 | .app b d _,hp=>Nat.beq hp.length d && Nat.blt b d
 | .hr b _,hp=>Nat.blt b hp.length
 | .rc _ b _,hp=>Nat.blt b hp.length
 | .own n _ _ _,hp=>Nat.beq hp.length n
 |_,_=>true
noncomputable def li(C:bO)(call:dp)(ops:Array Oper)(v:Nat->Option Nat)(M:Nat->ak):Nat->List Oper->St->Option (List (ak)×St)
 |_,[],st=>some ([],st)
 |i,o::l,st=>match bD ops st.regs o with
  |none=>none
  |some false=>match li C call ops v M (i+1) l ⟨jn st.regs o.dst bl,st.hp⟩ with
   |some (ws,st')=>some ([]::ws,st')
   |none=>none
  |some true=>match cR o with
   |false=>none
   |true=>match sz C call (v i) o (gR st.regs) (aL (M i) st.hp) with
    |some (r,e)=>match preB e st.hp with
     |true=>match li C call ops v M (i+1) l ⟨jn st.regs o.dst r,e.ap st.hp⟩ with
      |some (ws,st')=>some (e.wr::ws,st')
      |none=>none
     |false=>none
    |none=>none
def hU(B:ak)(i j:Nat):Bool:=match Nat.beq i j with
 |true=>false
 |false=>match Nat.blt j i with
  |true=> !(B.getD i 0).testBit j
  |false=> !(B.getD j 0).testBit i
def r5(n:Nat)(B:ak)(y:List (ak))(i:Nat):ak:=(List.range n).flatMap fun j=>match hU B i j with
 |true=>y.getD j []
 |false=>[]
def sA(a b:ak):Bool:=a.all fun x=> !b.contains x
def Cy(l:ak):Nat:=l.foldl (fun s k=>s ||| 2^k) 0
structure kA where
 u:Nat
 d:Nat
 lo:Bool
def jo(T:aq)(ops:Array Oper)(o:Oper):kA:=⟨Cy (e5 ops o),match o.dst with
 |some d=>2^d
 |none=>0,fw T o⟩
noncomputable def pg(l:List kA):Nat->Option kA:=List.rec (motive:=fun _=>Nat->Option kA) (fun _=>none) (fun x _ d n=>Nat.rec (motive:=fun _=>Option kA) (some x) (fun m _=>d m) n) l
def vJ(a b:kA):Bool:=Nat.beq (Nat.land a.u b.d) 0 && Nat.beq (Nat.land b.u a.d) 0 && Nat.beq (Nat.land a.d b.d) 0 && (!a.lo || !b.lo)
noncomputable def rE(is:List kA)(i j:Nat):Bool:=
 match pg is i,pg is j with
 |some a,some b=>vJ a b
 |_,_=>false
noncomputable def ow(T:aq)(ops:Array Oper):Bool:=
 i9 ops && (List.range ops.size).all fun i=>(List.range i).all fun j=>((ec [] ops.toList).getD i 0).testBit j || rE (ops.toList.map (jo T ops)) i j
def ox(n:Nat)(B:ak)(y:List (ak)):Bool:=
 (List.range n).all fun i=>(List.range i).all fun j=>(B.getD i 0).testBit j || sA (y.getD i []) (y.getD j [])
def hM(ops:Array Oper):ak:=(List.range ops.size).filter fun i=>match ops[i]? with
 |some o=>uI o.op
 |none=>false
def sB:List (ak)->List (ak)->Bool
 | [],_=>true
 |a::M,b=>(a.all fun x=>(b.headD []).contains x) && sB M b.tail
noncomputable def sC(C:bO)(call:dp)(ops:Array Oper)(st:St):Option St:=
 match ow C.T ops with
 |false=>none
 |true=>match li C call ops (h8 (hM ops) st.hp.length) (fun _=>[]) 0 ops.toList (gn (hM ops) st) with
  |none=>none
  |some (ws,b6)=>match ws.all List.isEmpty with
   |true=>some b6
   |false=>match ox ops.size (ec [] ops.toList) ws with
    |false=>none
    |true=>match li C call ops (h8 (hM ops) st.hp.length) (r5 ops.size (ec [] ops.toList) ws) 0 ops.toList (gn (hM ops) st) with
     |none=>none
     |some (n,bM)=>match sB n ws with
      |true=>some bM
      |false=>none
noncomputable def mL(f:St->Option (Ex×St))(n:Nat):St->Option (Ex×St):=
 Nat.rec (motive:=fun _=>St->Option (Ex×St)) (fun _=>none) (fun _ d st=>match f st with
  |some (.normal,st')=>d st'
  |r=>r) n
def FP{f:St->Option (Ex×St)}{st:St}:mL f 0 st=none:=rfl
def FQ{f:St->Option (Ex×St)}{n:Nat}{st:St}:mL f (n+1) st=match f st with
  |some (.normal,st')=>mL f n st'
  |r=>r:=rfl
def mM:Option St->Option (Ex×St)
 |some st=>some (.normal,st)
 |none=>none
noncomputable def dq(C:bO)(call:dp)(k:Nat)(fn:FuncId)(rnd:Bool)(c:Code):St->Option (Ex×St):=
 Code.rec (motive:=fun _=>St->Option (Ex×St))
  (fun st=>some (.normal,st))
  (fun _ ops m st=>match m with
   |false=>mM (kk C call ops ops.toList st)
   |true=>mM (sC C call ops st))
  (fun _ _ a b st=>match a st with
   |some (.normal,st')=>b st'
   |r=>r)
  (fun c _ _ x y st=>match gR st.regs c with
   | .v (.one (.p (.vl (.bool true))))=>x st
   | .v (.one (.p (.vl (.bool false))))=>y st
   |_=>none)
  (fun h _ c st=>match c st with
   |some (.exit i,st')=>if i=h then some (.normal,st') else some (.exit i,st')
   |r=>r)
  (fun _ c st=>mL c k st)
  (fun f params assign body _ _ st=>match rnd,eY f with
   |false,true=>match cL (gR st.regs f) [.v (.one (.aI st.hp.length))]with
    |some (.fn g,M)=>match call (.fn g) M (st.hp++[.loop {fn:=fn,regs:=st.regs,params:=params.toList,assign:=assign,body:=body,state:= .ready,pending:=none}]) with
     |some (_,hp)=>match hp[st.hp.length]? with
      |some (.loop r)=>match r.state with
       | .busy=>none
       |_=>match ki r.pending with
        |some e=>some (e,⟨st.regs,hp.set st.hp.length .gone⟩)
        |none=>none
      |_=>none
     |none=>none
    |_=>none
   |_,_=>none)
  (fun h st=>some (.exit h,st))
  (fun _ _ _=>none)
  (fun _ st=>some (.normal,st))
  (fun _ _=>none)
  (fun st=>some (.ret,st))
  (fun _ _=>none) c
section
variable {C:bO} {call:dp} {k:Nat} {fn:FuncId} {rnd:Bool} {st:St}
def GA:dq C call k fn rnd .skip st=some (.normal,st):=rfl
def FR{l:Nat}:dq C call k fn rnd (.label l) st=some (.normal,st):=rfl
def Hu:dq C call k fn rnd .ret st=some (.ret,st):=rfl
def GB{i:Nat}:dq C call k fn rnd (.exit i) st=some (.exit i,st):=rfl
def Hv{i:Nat}{ops:Array Oper}:dq C call k fn rnd (.region i ops false) st=mM (kk C call ops ops.toList st):=rfl
def GC{i:Nat}{ops:Array Oper}:dq C call k fn rnd (.region i ops true) st=mM (sC C call ops st):=rfl
def zG{a b:Code}:dq C call k fn rnd (.seq a b) st=match dq C call k fn rnd a st with
  |some (.normal,st')=>dq C call k fn rnd b st'
  |r=>r:=rfl
def GD{c:Operand}{x y:Code}:dq C call k fn rnd (.cond c x y) st=match gR st.regs c with
  | .v (.one (.p (.vl (.bool true))))=>dq C call k fn rnd x st
  | .v (.one (.p (.vl (.bool false))))=>dq C call k fn rnd y st
  |_=>none:=rfl
def FS{e:Nat}{c:Code}:dq C call k fn rnd (.block e c) st=match dq C call k fn rnd c st with
  |some (.exit i,st')=>if i=e then some (.normal,st') else some (.exit i,st')
  |r=>r:=rfl
def GE{c:Code}:dq C call k fn rnd (.loop c) st=mL (dq C call k fn rnd c) k st:=rfl
def FT{f:Operand}{params:Array Tmp}{assign body:Code}:dq C call k fn rnd (.rangeFunc f params assign body) st=match rnd,eY f with
  |false,true=>match cL (gR st.regs f) [.v (.one (.aI st.hp.length))]with
   |some (.fn g,M)=>match call (.fn g) M (st.hp++[.loop {fn:=fn,regs:=st.regs,params:=params.toList,assign:=assign,body:=body,state:= .ready,pending:=none}]) with
    |some (_,hp)=>match hp[st.hp.length]? with
     |some (.loop r)=>match r.state with
      | .busy=>none
      |_=>match ki r.pending with
       |some e=>some (e,⟨st.regs,hp.set st.hp.length .gone⟩)
       |none=>none
     |_=>none
    |none=>none
   |_=>none
  |_,_=>none:=rfl
end
noncomputable def ia(C:bO)(call:dp)(k:Nat)(f:FuncId)(args:eG)(hp:ag):Option (RV×ag):=
 match C.func f with
 |some fn=>match fn.body with
  |some c=>match dq C call k f false c ⟨dm fn args,hp⟩ with
   |some (.exit _,_)=>none
   |some (_,st)=>match bQ C.T C.G fn st with
    |some r=>some (r,st.hp)
    |none=>none
   |none=>none
  |none=>none
 |none=>none
noncomputable def rF(C:bO)(call:dp)(k b:Nat)(args:eG)(hp:ag):Option (RV×ag):=
 match hp[b]? with
 |some (.loop r)=>match Nat.beq args.length r.params.length with
  |true=>match dq C call k r.fn true r.assign ⟨gZ r.regs r.params args,hp⟩ with
   |some (.normal,b6)=>match b6.hp[b]? with
    |some (.loop s)=>match s.state with
     | .ready=>match dq C call k r.fn true r.body ⟨b6.regs,b6.hp.set b (.loop {s with state:= .busy,pending:=s.pending})⟩ with
      |some (e,bM)=>match bM.hp[b]? with
       |some (.loop t)=>some (atR (.bool (g1 e)),bM.hp.set b (.loop {t with state:=if g1 e then .ready else .done,pending:=gk e}))
       |_=>none
      |none=>none
     |_=>none
    |_=>none
   |_=>none
  |false=>none
 |_=>none
def mN(Z:ak)(hp:ag)(r:RV):RV×ag:=(r,if ei r then hp else bv Z hp)
noncomputable def d8(C:bO)(k n:Nat):dp:=
 Nat.rec (motive:=fun _=>dp) (fun _ _ _=>none) (fun _ d c args hp=>match c with
  | .yl b=>rF C d k b args hp
  | .fn f=>match C.ext f args hp with
   |some x=>some x
   |none=>match C.own f with
   |true=>ia C d k f args hp
   |false=>match ep hp args with
    |none=>ia C d k f args hp
    |some (S,ts)=>match C.val f S with
     |some r=>some (mN ts hp r)
     |none=>match ia C d k f S []with
      |some (r,R)=>match bg R r with
       |some (y,_)=>some (mN ts hp y)
       |none=>ia C d k f args hp
      |none=>none) n
def FU{C:bO}{k:Nat}{c:dw}{args:eG}{hp:ag}:d8 C k 0 c args hp=none:=rfl
def FV{C:bO}{k n:Nat}{c:dw}{args:eG}{hp:ag}:d8 C k (n+1) c args hp=match c with
  | .yl b=>rF C (d8 C k n) k b args hp
  | .fn f=>match C.ext f args hp with
   |some x=>some x
   |none=>match C.own f with
   |true=>ia C (d8 C k n) k f args hp
   |false=>match ep hp args with
    |none=>ia C (d8 C k n) k f args hp
    |some (S,ts)=>match C.val f S with
     |some r=>some (mN ts hp r)
     |none=>match ia C (d8 C k n) k f S []with
      |some (r,R)=>match bg R r with
       |some (y,_)=>some (mN ts hp y)
       |none=>ia C (d8 C k n) k f args hp
      |none=>none:=rfl
section
variable {P:lB} {T:aq} {G:az}
def cW.mono{ops:Array Oper}{st:St}{Q T:St->Prop}(h:cW P G ops st Q)(M:∀s,Q s->T s):cW P G ops st T:=by intro A S w t b k cs e B C;obtain⟨st',U,O,S',w',q,m⟩:=h A S w t b k cs e B C;grind
def zH{o:Oper}{st:St}{K U:St->Prop}(h:eQ P T G (am P G) o st K)(C:∀s,K s->U s):eQ P T G (am P G) o st U:=by unfold eQ at*;split;{exact kg};rename_i x;simp only[x]at h;split;{rename_i f args b V;simp only[V]at h;split;{rename_i c M hc;simp only[hc]at h;exact am.mono h fun r L p=>C _ p};exact kg};grind
def n'{r:Array Oper}:∀{l:List Oper}{st:St}{Q U:St->Prop},fB P T G (am P G) r l st Q->(∀s,Q s->U s)->fB P T G (am P G) r l st U
 | [],st,Q,U,h,M=>M _ h
 |o::l,st,Q,U,h,M=>by
  unfold fB at*;split
  ·rename_i x;simp only[x]at h;exact zH h fun s A=>n' A M
  rename_i g x;simp only[x]at h;split
  ·rename_i c hc;simp only[hc]at h;exact⟨fun e=>zH (h.1 e) fun s A=>n' A M,fun e=>n' (h.2 e) M⟩
  simp_all
def xQ{F:St->(Ex->St->Prop)->Prop}(L:∀st Q T,F st Q->(∀e s,Q e s->T e s)->F st T):∀{n:Nat}{st:St}{Q T:Ex->St->Prop},mJ F Q n st->(∀e s,Q e s->T e s)->mJ F T n st
 | 0,st,Q,T,h,M=>h
 |n+1,st,Q,T,h,M=>by
  refine L _ _ _ h fun e s A=> ?_;cases e with
  |normal=>exact xQ L A M
  |exit i=>exact M _ _ A
  |ret=>exact M _ _ A
def fL{fn:FuncId}{j:Bool}:∀(c:Code){st:St}{Q U:Ex->St->Prop},dQ P T G (am P G) (cW P G) fn j c st Q->(∀e s,Q e s->U e s)->dQ P T G (am P G) (cW P G) fn j c st U:=by intro c;induction c with| skip=>intro st Q U h M;exact M _ _ h|label l=>intro st Q U h M;exact M _ _ h|ret=>intro st Q U h M;exact M _ _ h|exit i=>intro st Q U h M;exact M _ _ h|region id ops m=>(intro st Q U h M;cases m with| false=>(exact n' h fun s A=>M _ _ A)|true=>(exact cW.mono h fun s A=>M _ _ A))|seq a b y k=>(intro st Q U h M;refine y h fun e s A=> ?_;grind)|cond x a b y k=>intro st Q U h M;unfold dQ at h |-;grind|block id a y=>(intro st Q U h M;refine y h fun e s A=> ?_;grind)|loop a y=>intro st Q U h M;obtain⟨n,h⟩:=h;exact⟨n,xQ (F:=dQ P T G (am P G) (cW P G) fn j a) (fun st Q U h M=>y h M) h M⟩|rangeFunc f params assign body _ _=>intro st Q U h M;unfold dQ at h |-;refine⟨h.1,h.2.1,?_⟩;have h:=h.2.2;split;{rename_i g N hc;simp only[hc]at h;refine am.mono h fun r L o=> ?_;grind};exact kg|_=>intro st Q U h M;exact h
def uj{o:Oper}{st:St}{K:St->Prop}{f:Operand}{args:List Operand}{c:dw}{M:eG}(x:cR o=true)(d:bR o.op=some (f,args))(m:cL (aQ st.regs f) (args.map (aQ st.regs))=some (c,M))(h:am P G c M st.hp fun r hp=>K ⟨aT st.regs o.dst r,hp⟩):eQ P T G (am P G) o st K:=by obtain⟨dst,op,type,pos,after,guard⟩:=o;cases op with| call cl=>(obtain⟨callee,e,b⟩:=cl;cases callee with| value s=>simp only[bR,pB,q0]at d;obtain⟨rfl,rfl⟩:=d;unfold eQ;exact kg|_=>simp[bR]at d)|_=>simp[bR]at d
def nS{o:Oper}{st:St}{K:St->Prop}{r:RV}{hp:ag}(x:cR o=true)(c:bR o.op=none)(h:aJ P T G (aQ st.regs) o st.hp=some (r,hp))(W:K ⟨aT st.regs o.dst r,hp⟩):eQ P T G (am P G) o st K:=by unfold eQ;simp only[x];split;{rename_i f args b U;rw[U]at c;simp[bR]at c};exact kg
def zI{r:Array Oper}{o:Oper}{l:List Oper}{st:St}{Q:St->Prop}{c:Bool}(t:bD r st.regs o=some c)(h:c=true->eQ P T G (am P G) o st fun st'=>fB P T G (am P G) r l st' Q)(i:c=false->fB P T G (am P G) r l ⟨aT st.regs o.dst bl,st.hp⟩ Q):fB P T G (am P G) r (o::l) st Q:=by unfold bD at t;unfold fB;grind
def hY(P:lB)(G:az)(k:dp):Prop:=∀c M hp r R,k c M hp=some (r,R)->am P G c M hp fun y n=>y=r/\n=R
def qh{C:bO}{k:dp}(m:hY C.P C.G k){t:Array Oper}:∀(l:List Oper)(st st':St),kk C k t l st=some st'->fB C.P C.T C.G (am C.P C.G) t l st fun s=>s=st'
 | [],st,st',h=>by rw[Ht]at h;simp at h;exact h
 |o::l,st,st',h=>by
  rw[Gz]at h;simp only[rD,AC,hQ]at h;split at h
  ·simp at h
  ·rename_i hw;exact zI hw s_ fun _=>qh m l _ _ h
  rename_i hw;refine zI hw (fun _=> ?_) s_;split at h
  ·simp at h
  rename_i x;split at h
  ·rename_i f args hc;split at h
   ·rename_i c M n;split at h
    ·rename_i r hp D;refine uj x hc n (am.mono (m _ _ _ _ _ D) ?_);rintro y p ⟨rfl,rfl⟩;exact qh m l _ _ h
    simp at h
   simp at h
  rename_i hc;split at h
  ·rename_i r hp D;exact nS x hc D (qh m l _ _ h)
  simp at h
def gp(k:dp):ft:=⟨fun g M r=>h_ k g M=some r,fun c M h r L=>k c M h=some (r,L)⟩
def zJ{L:ag}{x:LV}(h:cj x=true)(n:Nat):∃p,b2 L n x=some (p,[])/\x= .p p:=by cases x<;>simp[cj]at h;rename_i p;exact⟨p,by cases n<;>rfl,rfl⟩
def yq{L:ag}:∀{xs:lW},xs.all cj=true->∃y:rK,ba (b2 L 12) xs=some (y.map fun p=>(p,[]))/\xs=y.map .p
 | [],_=>⟨[],rfl,rfl⟩
 |x::xs,h=>by
  simp only[YQ,Cz]at h;obtain⟨p,i,rfl⟩:=zJ (L:=L) h.1 12;obtain⟨y,j,rfl⟩:=yq (L:=L) h.2;exact⟨p::y,by simp only[ba,i,j];rfl,rfl⟩
def xp{L:ag}{x:RW}(h:h7 x=true):∃Z,dy L x=some (x,Z):=by cases x with| one x=>obtain⟨p,i,rfl⟩:=zJ (L:=L) h 12;exact⟨[],by rfl⟩|agg xs=>obtain⟨y,i,rfl⟩:=yq (L:=L) (xs:=xs) h;refine⟨(y.map fun p=>(p,([]:ak))).flatMap (·.2),?_⟩;simp only[dy,kj,i];exact kg
def xh{L:ag}:∀{xs:List RW},xs.all h7=true->∃w:List (RW×ak),ba (dy L) xs=some w/\w.map (·.1)=xs
 | [],_=>⟨[],rfl,rfl⟩
 |x::xs,h=>by
  simp only[YQ,Cz]at h;obtain⟨Z,i⟩:=xp (L:=L) h.1;obtain⟨w,j,k⟩:=xh (L:=L) h.2;exact⟨(x,Z)::w,by simp only[ba,i,j],by simp[k]⟩
def Fs{L:ag}{x:RV}(h:eE x=true):∃Z,bg L x=some (x,Z):=by cases x with| v x=>obtain⟨Z,i⟩:=xp (L:=L) (x:=x) h;exact⟨Z,by simp only[bg,i]⟩|ab xs=>obtain⟨w,i,j⟩:=xh (L:=L) (xs:=xs) h;exact⟨w.flatMap (·.2),by simp only[bg,i,j]⟩
def uk{k:dp}(l:hY P G k):(gp k).Ok P G where
 v g M r h:=by
  simp only[gp,h_]at h;split at h
  ·rename_i s R C;split at h
   ·rename_i hp;simp at h;subst h;refine am.mono (l _ _ _ _ _ C) ?_;rintro y n ⟨rfl,rfl⟩;obtain⟨Z,T⟩:=Fs (L:=n) hp;exact kg
   simp at h
  simp at h
 o c M h r N hc:=l _ _ _ _ _ hc
def Hw{h:ag}{R:ak}:∀b∈blind h R,b<h.length:=by intro b O;unfold blind at O;exact kg
def xR{h:ag}{R:ak}:∀(b:Nat) o,b∉blind h R->h[b]? =some o->bT o=true:=by intro b o O z;cases hl:bT o with| true=>rfl|false=>exfalso;apply O;unfold blind;grind
def aF.im:aF->Prop
 | .own n M L W=>(∀k∈M,k<n)/\n<=L.length/\∀k,k<L.length->k∉M->k∈W
 |_=>True
def AD{e:aF}{hp:ag}(T:e.im)(h:preB e hp=true):e.pre hp:=by cases e with| eA=>trivial|fz ts=>trivial|fill s ob=>simp only[preB]at h;split at h;{rename_i A;exact A};simp at h|app b d c=>simp[preB,Ya]at h;exact h|hr b ob=>simp[preB,Ya]at h;exact h|rc ts b ob=>simp[preB,Ya]at h;exact h|own n M L W=>simp[preB]at h;exact⟨h,T⟩
def AE{h:ag}{R:ak}{x:Option (RV×ag)}{r:RV}{e:aF}(M:sx h (blind h R) x=some (r,e)):∃L W,x=some (r,L)/\e= .own h.length (blind h R) L W/\e.im:=by unfold sx at M;split at M;{rename_i y L;split at M;{rename_i hle;simp only[pB,q0]at M;obtain⟨rfl,rfl⟩:=M;refine⟨L,_,rfl,rfl,Hw,by simpa using hle,fun k C T=> ?_⟩;exact kg};simp at M};simp at M
def AF{C:bO}{k:dp}{w:Option Nat}{o:Oper}{ρ:Operand->RV}{h:(List Ob)}{r:RV}{e:aF}(M:sz C k w o ρ h=some (r,e)): er C.P C.T C.G (gp k) w o ρ h r e/\e.im/\(e.cu=true->fw C.T o=true):=by
 unfold sz at M;simp only[hQ]at M;unfold er;have own:∀{c:dw}{N:(List RV)}{f:Operand}{args:List Operand},cL (ρ f) (args.map ρ)=some (c,N)->sy k c N h=some (r,e)->
   ((∃g N d Z,cL (ρ f) (args.map ρ)=some (.fn g,N)/\ep h N=some (d,Z)/\(gp k).v g d r/\e=if ei r then .eA else .fz Z)\/
   (∃c N O L W,cL (ρ f) (args.map ρ)=some (c,N)/\(gp k).o c N (aL O h) r L/\(∀(b:Nat) o,b∉O->h[b]? =some o->bT o=true)/\e= .own h.length O L W))/\e.im:=by
  intro c N f args d z;obtain⟨L,W,l,m,n⟩:=AE z;exact⟨.inr ⟨c,N,_,L,W,d,l,xR,m⟩,n⟩
 split at M;{(rename_i f args p;have hl:fw C.T o=true:=by unfold fw;simp[p]);simp only[p];rw[<- and_assoc];refine⟨?_,fun _=>hl⟩;split at M;{rename_i g N d;split at M;{rename_i i Z J X;split at M;{rename_i y Q;simp only[Option.some.injEq,Prod.mk.injEq]at M;obtain⟨rfl,rfl⟩:=M;refine⟨.inl ⟨g,N,i,Z,d,X,Q,rfl⟩,?_⟩;split<;>trivial};grind};grind};all_goals grind};rename_i p;simp only[p];split at M;{rename_i s;split at M;{rename_i y ob U;simp only[pB,q0]at M;obtain⟨rfl,rfl⟩:=M;exact⟨⟨ob,U,rfl⟩,trivial,by simp[aF.cu]⟩};simp at M};split at M;{simp at M};rename_i Z;split at M;{rename_i Q;split at M;{rename_i y V z;simp only[pB,q0]at M;obtain⟨rfl,rfl⟩:=M;refine⟨.inl ⟨rfl,fun a i=> ?_⟩,trivial,by simp[aF.cu]⟩;cases D:cq C.T o.op with| mute=>exact(n8 D z).2 a|read=>exact(n9 D z).2 a i|_=>rw[D]at Q;simp[di]at Q};simp at M};rename_i Q;obtain⟨L,W,l,m,n⟩:=AE M;exact⟨.inr ⟨_,L,W,l,xR,m⟩,n,fun _=>by unfold fw;simp_all⟩
def qH{C:bO}{m:dp}{ops:Array Oper}{v:Nat->Option Nat}{M wr:Nat->ak}{lou:Nat->Bool}(t:∀i o,ops[i]? =some o->fw C.T o=true->lou i=true):
  ∀(l:List Oper)(i:Nat)(st st':St)(ws:List (ak)),(∀(k:Nat) o,l[k]? =some o->ops[i+k]? =some o)->li C m ops v M i l st=some (ws,st')->(∀k,∀b∈ws.getD k [],b∈wr (i+k))->
  g' C.P C.T C.G (gp m) ops ⟨v,M,wr,lou⟩ (List.range' i l.length) st st'
 | [],i,st,st',ws,x,h,hw=>by
  simp only[li,pB,q0]at h;exact h.2.symm
 |o::l,i,st,st',ws,x,h,hw=>by
  have z:ops[i]? =some o:=x 0 o rfl;have s:∀(k:Nat) y,l[k]? =some y->ops[i+1+k]? =some y:=fun k y D=>by
   have:=x (k+1) y (by simpa using D)
   grind
  simp only[li,rD,AC]at h;rw[VP,aeO];split at h
  ·simp at h
  ·rename_i E;split at h
   ·rename_i n bM hp;simp only[pB,q0]at h;obtain⟨rfl,rfl⟩:=h;refine⟨_,⟨o,bl,.eA,z,.inl ⟨E,rfl,rfl⟩,trivial,by simp[aF.wr],by simp[aF.cu],rfl⟩,?_⟩;refine qH t l (i+1) _ _ n s hp fun k b O=> ?_;have:=hw (k+1) b alL
    grind
   simp at h
  rename_i E;split at h
  ·simp at h
  rename_i A;split at h
  ·rename_i r e he;split at h
   ·rename_i F;split at h
    ·rename_i n bM hp;simp only[pB,q0]at h;obtain⟨rfl,rfl⟩:=h;obtain⟨p,q,u⟩:=AF he;refine⟨_,⟨o,r,e,z,.inr ⟨E,A,p⟩,AD q F,fun b O=> ?_,fun x=>t i o z (u x),rfl⟩,?_⟩
     ·have:=hw 0 b alL;omega
     refine qH t l (i+1) _ _ n s hp fun k b O=> ?_;have:=hw (k+1) b alL
     grind
    simp at h
   simp at h
  simp at h
end
section
variable {C:bO} {call:dp} {ops:Array Oper}
def lD(T:aq)(ops:Array Oper):Nat->Bool:=fun i=>match ops[i]? with
 |some o=>fw T o
 |none=>true
def tU{T:aq}:∀i o,ops[i]? =some o->fw T o=true->lD T ops i=true:=by intro i o z x;simp[lD,z,x]
def uK:∀(l:List kA)(i:Nat),pg l i=l[i]?
 | [],i=>by simp[pg]
 |x::l,0=>rfl
 |x::l,i+1=>by
  show pg l i=_;rw[uK l i];simp
def yr{l:ak}{k:Nat}(h:k∈l):(Cy l).testBit k=true:=by(have key:∀(l:ak)(s:Nat),(s.testBit k=true\/k∈l)->(l.foldl (fun s k=>s ||| 2^k) s).testBit k=true:=by intro l;induction l with| nil=>simp_all| cons x l d=>grind);exact key l 0 (.inr h)
def yt{a b k:Nat}(h:Nat.beq (Nat.land a b) 0=true)(s:a.testBit k=true)(O:b.testBit k=true):False:=by(have e:=Wv h;have:(a &&& b).testBit k=true:=by rw[ZK,s,O];rfl);exact kg
def FW{T:aq}{t X:Oper}(h:vJ (jo T ops t) (jo T ops X)=true):((∀d,t.dst=some d->d∉e5 ops X)/\(∀d,X.dst=some d->d∉e5 ops t)/\(∀d,t.dst=some d->X.dst≠some d))/\(fw T t=false\/fw T X=false):=by(unfold vJ at h;rw[Cz,Cz,Cz]at h;obtain⟨⟨⟨i,j⟩,k⟩,l⟩:=h;have two:∀d,(2^d).testBit d=true:=fun d=>by simp_all);refine⟨⟨fun d U V=> ?_,fun d U V=> ?_,fun d U W=> ?_⟩,?_⟩;{simp only[jo,U]at j;exact yt j (yr V) (two d)};{simp only[jo,U]at i;exact yt i (yr V) (two d)};{simp only[jo,U,W]at k;exact kg};simpa[jo,Wq] using l
def yx{a b:ak}(h:sA a b=true):∀x∈a,x∉b:=by intro x M O;unfold sA at h;exact kg
def xq{T:aq}(h:ow T ops=true):i9 ops=true/\∀i j,j<i->i<ops.size->((ec [] ops.toList).getD i 0).testBit j=true\/rE (ops.toList.map (jo T ops)) i j=true:=by unfold ow at h;exact kg
def xr{B:ak}{y:List (ak)}(h:ox ops.size B y=true){i j:Nat}(p:j<i)(z:i<ops.size):(B.getD i 0).testBit j=true\/sA (y.getD i []) (y.getD j [])=true:=by unfold ox at h;exact kg
def qS{n:Nat}{B:ak}{y:List (ak)}{i j b:Nat}(s:j<n)(h:hU B i j=true)(O:b∈y.getD j []):b∈r5 n B y i:=by unfold r5;grind
def ix.uL{T:aq}{v:Nat->Option Nat}{M o:Nat->ak}{i j:Nat}(h:rE (ops.toList.map (jo T ops)) i j=true)(n:(∀b∈o j,b∈M i)/\(∀b∈o i,b∈M j))(U:∀b∈o i,b∉o j): ix ops ⟨v,M,o,lD T ops⟩ i j:=by unfold rE at h;rw[uK,uK]at h;split at h;{rename_i a b s hb;rw[VJ]at s hb;cases hi:ops.toList[i]? with| none=>simp_all| some oi=>(cases t:ops.toList[j]? with| none=>simp_all| some X=>(rw[hi]at s;rw[t]at hb;simp only[acF,pB]at s hb;subst s;subst hb;obtain⟨k,l⟩:=FW h;have N:ops[i]? =some oi:=by simpa using hi);(have c:ops[j]? =some X:=by simpa using t);refine⟨fun A z m p=> ?_,?_,n,U⟩;{exact kg};simp only[lD,N,c];exact l)};simp at h
def yy:∀{M c:List (ak)},sB M c=true->∀k,∀b∈M.getD k [],b∈c.getD k []
 | [],c,_,k,b,hb=>by simp at hb
 |a::M,c,h,k,b,hb=>by
  simp only[sB,Cz]at h;cases k with
  |zero=>
   have:=LA.1 h.1 b (by simpa using hb);have hm:b∈c.headD []:=by simpa using this
   cases c with
   |nil=>simp at hm
   |cons x xs=>simpa using hm
  |succ k=>
   have:=yy h.2 k b (by simpa using hb)
   simp_all
def AG:∀(k:Nat) o,ops.toList[k]? =some o->ops[0+k]? =some o:=by exact kg
def FY[aG C.P C.T](l:bf C.T)(y:C.P.follows .mixedOrders=true)(m:hY C.P C.G call){st st':St}(h:sC C call ops st=some st'):cW C.P C.G ops st fun s=>s=st':=by unfold sC at h;split at h;{simp at h};rename_i S;obtain⟨g,a⟩:=xq S;split at h;{simp at h};(rename_i ws b6 c;have U:List.range' 0 ops.toList.length=List.range ops.size:=by rw[List.range_eq_range'];simp);split at h;{(rename_i n;simp at h;subst h;have L:∀k,ws.getD k []=[]:=by intro k;rw[VS];cases D:ws[k]? with| none=>rfl|some x=>have:=LA.1 n x (WI D);exact kg);have w:=qH (wr:=fun _=>[]) (lou:=lD C.T ops) tU ops.toList 0 _ _ ws AG c (fun k b O=>by simp_all);rw[U]at w;refine cW.uH l (uk m) (hM ops) _ rfl g (fun i j p z=> ?_) y w rfl;(rcases a i j p z with O|O);{exact .inl O};exact .inr (ix.uL O ⟨s_,s_⟩ s_)};split at h;{simp at h};rename_i e;split at h;{simp at h};rename_i n bM d;split at h;{rename_i t;simp at h;subst h;have w:=qH (wr:=fun k=>ws.getD k []) (lou:=lD C.T ops) tU ops.toList 0 _ _ n AG d (fun k b O=>by have:=yy t k b O;simp_all);rw[U]at w;refine cW.uH l (uk m) (hM ops) _ rfl g (fun i j p z=> ?_) y w rfl;by_cases f:((ec [] ops.toList).getD i 0).testBit j=true;{exact .inl f};(rcases a i j p z with O|O);{exact .inl O};(have H:Nat.beq i j=false:=by exact au7);(have o:Nat.beq j i=false:=by exact au8);(have u:hU (ec [] ops.toList) i j=true:=by(have:Nat.blt j i=true:=by simpa[Ya] using p);simp only[hU,H,this];simpa using f);(have v:hU (ec [] ops.toList) j i=true:=by(have:Nat.blt i j=false:=by exact atS);simp only[hU,o,this];simpa using f);exact asQ};simp at h
end
structure bO.Ok(C:bO):Prop where
 tok:aG C.P C.T
 wf:bf C.T
 mix:C.P.follows .mixedOrders=true
 func:∀f fn,C.func f=some fn->C.P.funcs[f]? =some fn/\fn.name≠ "runtime.NumGoroutine"
 val:∀f args r,C.val f args=some r->aR C.P C.G f args (·=r)
 ext:∀f args hp r R,C.ext f args hp=some (r,R)->am C.P C.G (.fn f) args hp fun y n=>y=r/\n=R
section
variable {C:bO} {call:dp} {k:Nat}
def xt{F:St->(Ex->St->Prop)->Prop}(L:∀st Q T,F st Q->(∀e s,Q e s->T e s)->F st T){f:St->Option (Ex×St)}(T:∀st e st',f st=some (e,st')->F st fun k s=>k=e/\s=st'):
  ∀(n:Nat)(st st':St)(e:Ex),mL f n st=some (e,st')->mJ F (fun k s=>k=e/\s=st') n st
 | 0,st,st',e,h=>by rw[FP]at h;simp at h
 |n+1,st,st',e,h=>by
  rw[FQ]at h;split at h
  ·rename_i b6 h1;refine L _ _ _ (T _ _ _ h1) ?_;rintro k s ⟨rfl,rfl⟩;exact xt L T n _ _ _ h
  rename_i r G;cases C:f st with
  |none=>simp_all
  |some p=>
   obtain⟨g,t⟩:=p;rw[C]at h;simp only[pB,q0]at h;obtain⟨rfl,rfl⟩:=h;refine L _ _ _ (T _ _ _ C) ?_;rintro k s ⟨rfl,rfl⟩;cases k with
   |normal=>simp_all
   |exit i=>simp_all
   |ret=>simp_all
def iP(A:C.Ok)(m:hY C.P C.G call){fn:FuncId}{rnd:Bool}:∀(c:Code)(st st':St)(e:Ex),dq C call k fn rnd c st=some (e,st')-> dQ C.P C.T C.G (am C.P C.G) (cW C.P C.G) fn rnd c st fun n s=>n=e/\s=st':=by have:=A.tok;intro c;induction c with| skip=>intro st st' e h;rw[GA]at h;simp at h;obtain⟨rfl,rfl⟩:=h;exact⟨rfl,rfl⟩|label l=>intro st st' e h;rw[FR]at h;simp at h;obtain⟨rfl,rfl⟩:=h;exact⟨rfl,rfl⟩|ret=>intro st st' e h;rw[Hu]at h;simp at h;obtain⟨rfl,rfl⟩:=h;exact⟨rfl,rfl⟩|exit i=>intro st st' e h;rw[GB]at h;simp at h;obtain⟨rfl,rfl⟩:=h;exact⟨rfl,rfl⟩|region id ops o=>(intro st st' e h;cases o with| false=>rw[Hv]at h;simp only[mM]at h;split at h;{rename_i s B;simp only[pB,q0]at h;obtain⟨rfl,rfl⟩:=h;exact n' (qh m _ _ _ B) fun s B=>⟨rfl,B⟩};simp at h|true=>rw[GC]at h;simp only[mM]at h;split at h;{rename_i s B;simp only[pB,q0]at h;obtain⟨rfl,rfl⟩:=h;exact cW.mono (FY A.wf A.mix m B) fun s B=>⟨rfl,B⟩};simp at h)|seq a b y p=>intro st st' e h;rw[zG]at h;split at h;{rename_i b6 h1;refine fL a (y _ _ _ h1) ?_;exact kg};exact asb|cond x a b y p=>intro st st' e h;rw[GD]at h;simp only[rD]at h;simp only[dQ];grind|block id a y=>intro st st' e h;rw[FS]at h;split at h;{rename_i i s1 h1;refine fL a (y _ _ _ h1) ?_;grind};exact asb|loop a y=>intro st st' e h;rw[GE]at h;exact⟨k,xt (F:=dQ C.P C.T C.G (am C.P C.G) (cW C.P C.G) fn rnd a) (fun st Q U h M=>fL a h M) (fun st e st' h=>y _ _ _ h) _ _ _ _ h⟩|rangeFunc f params assign body _ _=>intro st st' e h;rw[FT]at h;simp only[rD]at h;split at h;{rename_i d _ _;simp only[dQ];refine⟨trivial,d,?_⟩;split at h;{rename_i g M hc;simp only[hc];split at h;{rename_i r hp D;refine am.mono (m _ _ _ _ _ D) ?_;grind};simp at h};simp at h};simp at h|_=>intro st st' e h;exact absurd h (by simp[dq])
def qd(A:C.Ok)(l:hY C.P C.G call){f:FuncId}{args:eG}{hp:ag}{r:RV}{R:ag}(h:ia C call k f args hp=some (r,R)):am C.P C.G (.fn f) args hp fun y n=>y=r/\n=R:=by have:=A.tok;unfold ia at h;split at h;{rename_i fn U;obtain⟨Z,Y⟩:=A.func f fn U;split at h;{(rename_i c hb;have key:∀e st,dq C call k f false c ⟨dm fn args,hp⟩=some (e,st)->(∀i,e≠.exit i)->bQ C.T C.G fn st=some r->st.hp=R->am C.P C.G (.fn f) args hp fun y n=>y=r/\n=R:=by intro e st D H V b;refine am.It A.wf Z hb Y (fL c (iP A l c _ _ _ D) ?_);rintro m s ⟨rfl,rfl⟩;cases m with| exit i=>simp_all| normal=>simp_all| ret=>simp_all);grind};simp at h};simp at h
def Fd(A:C.Ok)(l:hY C.P C.G call){b:Nat}{args:eG}{hp:ag}{r:RV}{R:ag}(h:rF C call k b args hp=some (r,R)):am C.P C.G (.yl b) args hp fun y n=>y=r/\n=R:=by have:=A.tok;unfold rF at h;split at h;{rename_i q hl;split at h;{rename_i hlen;split at h;{rename_i b6 h1;split at h;{rename_i t x;split at h;{rename_i Y;split at h;{rename_i e bM h2;split at h;{rename_i u z;simp only[pB,q0]at h;obtain⟨rfl,rfl⟩:=h;refine am.zB A.wf hl kg (fL _ (iP A l _ _ _ _ h1) ?_);rintro m s ⟨rfl,rfl⟩;refine⟨t,x,Y,fL _ (iP A l _ _ _ _ h2) ?_⟩;exact kg};simp at h};simp at h};simp at h};simp at h};simp at h};simp at h};simp at h
def iK(A:C.Ok):∀n,hY C.P C.G (d8 C k n)
 | 0=>by intro c M hp r R h;rw[FU]at h;simp at h
 |n+1=>by
  intro c M hp r R h;have d:=iK A n;rw[FV]at h;split at h
  ·exact Fd A d h
  rename_i f;split at h
  ·rename_i x hx;simp only[pB]at h;subst h;exact A.ext f M hp r R hx
  split at h
  ·exact qd A d h
  split at h
  ·exact qd A d h
  rename_i e ts hz;split at h
  ·rename_i s S;simp only[mN,pB,q0]at h;obtain⟨rfl,rfl⟩:=h;refine am.mr hz (A.val _ _ _ S) ?_
   simp_all
  split at h
  ·rename_i s a hb;split at h
   ·rename_i t Z T;simp only[mN,pB,q0]at h;obtain⟨rfl,rfl⟩:=h;refine am.mr hz (Q:=(·=t)) (am.mono (qd A d hb) ?_) ?_
    all_goals simp_all
   exact qd A d h
  simp at h
def aR.g6(A:C.Ok){n:Nat}{f:FuncId}{args:eG}{r:RV}(h:h_ (d8 C k n) f args=some r):aR C.P C.G f args (·=r):=
 (uk (iK A n)).v f args r h
end
inductive Tree(α:Type) where
 |lf
 |nd (l:Tree α) (k:Nat) (v:α) (r:Tree α)
noncomputable def Tree.get{α:Type}(t:Tree α)(n:Nat):Option α:=
 Tree.rec (motive:=fun _=>Option α) none (fun _ k v _ l r=>match Nat.beq n k with
  |true=>some v
  |false=>match Nat.ble n k with
   |true=>l
   |false=>r) t
def Tree.lE{α:Type}(p:Nat->α->Bool):Tree α->Bool
 | .lf=>true
 | .nd l k v r=>p k v && l.lE p && r.lE p
def Tree.Bg{α:Type}{l r:Tree α}{k n:Nat}{v:α}:(Tree.nd l k v r).get n=match Nat.beq n k with
  |true=>some v
  |false=>match Nat.ble n k with
   |true=>l.get n
   |false=>r.get n:=rfl
def Tree.oa{α:Type}{p:Nat->α->Bool}:∀{t:Tree α},t.lE p=true->∀{n:Nat}{v:α},t.get n=some v->p n v=true
 | .lf,_,n,v,h=>by simp[Tree.get]at h
 | .nd l k x r,s,n,v,h=>by
  simp only[Tree.lE,Cz]at s;rw[Tree.Bg]at h;split at h
  ·simp_all
  split at h
  ·exact Tree.oa s.1.2 h
  exact Tree.oa s.2 h
def Tree.iy{α:Type}(p:Nat->α->Prop):Tree α->Prop
 | .lf=>True
 | .nd l k v r=>l.iy p/\p k v/\r.iy p
def Tree.iy.get{α:Type}{p:Nat->α->Prop}:∀{t:Tree α},t.iy p->∀{n:Nat}{v:α},t.get n=some v->p n v
 | .lf,_,n,v,h=>by simp[Tree.get]at h
 | .nd l k x r,s,n,v,h=>by
  obtain⟨i,j,m⟩:=s;rw[Tree.Bg]at h;split at h
  ·simp_all
  split at h
  ·exact Tree.iy.get i h
  exact Tree.iy.get m h
def wR:IntKind->IntKind->Bool
 | .i8,.i8=>true
 | .i16,.i16=>true
 | .i32,.i32=>true
 | .i64,.i64=>true
 | .u8,.u8=>true
 | .u16,.u16=>true
 | .u32,.u32=>true
 | .u64,.u64=>true
 |_,_=>false
def Kh:∀{a b:IntKind},wR a b=true->a=b:=by intro a b h;cases a<;>cases b<;>simp_all[wR]
def wS:Int->Int->Bool
 | .ofNat a,.ofNat b=>Nat.beq a b
 | .negSucc a,.negSucc b=>Nat.beq a b
 |_,_=>false
def Ki:∀{a b:Int},wS a b=true->a=b:=by intro a b h;cases a<;>cases b<;>simp[wS]at h;all_goals simp_all
def np:List UInt8->List UInt8->Bool
 | [],[]=>true
 |a::M,b::c=>match Nat.beq a.toNat b.toNat with
  |true=>np M c
  |false=>false
 |_,_=>false
def Bh:∀{a b:List UInt8},np a b=true->a=b
 | [],[],_=>rfl
 |a::M,b::c,h=>by
  simp only[np]at h;split at h
  ·rename_i hn;have h1:a=b:=aeY.1 (Wv hn);rw[h1,Bh h]
  simp at h
 | [],_::_,h=>by simp[np]at h
 |_::_,[],h=>by simp[np]at h
def wT:Value->Value->Bool
 | .bool a,.bool b=>match a,b with
  |true,true=>true
  |false,false=>true
  |_,_=>false
 | .int k a,.int G b=>wR k G && wS a b
 | .string a,.string b=>np a.data.toList b.data.toList
 | .slice none 0 0,.slice none 0 0=>true
 | .nilFunc,.nilFunc=>true
 | .nilIface,.nilIface=>true
 | .map none,.map none=>true
 | .pointer none,.pointer none=>true
 | .func (.func f) ⟨[]⟩ ⟨[]⟩,.func (.func g) ⟨[]⟩ ⟨[]⟩=>Nat.beq f g
 |_,_=>false
def Kj{a b:Value}(h:wT a b=true):a=b:=by unfold wT at h;split at h;{grind};{rw[Bool.and_eq_true]at h;rw[Kh h.1,Ki h.2]};{rename_i x y;have:=Bh h;obtain⟨⟨x⟩⟩:=x;simp_all};all_goals simp_all
mutual
def lO:PV->PV->Bool
 | .vl a,.vl b=>wT a b
 | .sl n cs,.sl m ds=>match Nat.beq n m with
  |true=>m5 cs ds
  |false=>false
 |_,_=>false
def m5:rK->rK->Bool
 | [],[]=>true
 |a::M,b::c=>match lO a b with
  |true=>m5 M c
  |false=>false
 |_,_=>false
end
mutual
def Bi:∀{a b:PV},lO a b=true->a=b
 | .vl a,.vl b,h=>by simp only[lO]at h;rw[Kj h]
 | .sl n cs,.sl m ds,h=>by
  simp only[lO]at h;split at h
  ·rename_i hn;rw[Wv hn,AH h]
  simp at h
 | .vl _,.sl _ _,h=>by simp[lO]at h
 | .sl _ _,.vl _,h=>by simp[lO]at h
def AH:∀{a b:rK},m5 a b=true->a=b
 | [],[],_=>rfl
 |a::M,b::c,h=>by
  simp only[m5]at h;split at h
  ·rename_i hn;rw[Bi hn,AH h]
  simp at h
 | [],_::_,h=>by simp[m5]at h
 |_::_,[],h=>by simp[m5]at h
end
def sQ:LV->LV->Bool
 | .p a,.p b=>lO a b
 |_,_=>false
def Bj{a b:LV}(h:sQ a b=true):a=b:=by unfold sQ at h;split at h;{rw[Bi h]};simp at h
def m6:lW->lW->Bool
 | [],[]=>true
 |a::M,b::c=>match sQ a b with
  |true=>m6 M c
  |false=>false
 |_,_=>false
def AJ:∀{a b:lW},m6 a b=true->a=b
 | [],[],_=>rfl
 |a::M,b::c,h=>by
  simp only[m6]at h;split at h
  ·rename_i hn;rw[Bj hn,AJ h]
  simp at h
 | [],_::_,h=>by simp[m6]at h
 |_::_,[],h=>by simp[m6]at h
def sR:RW->RW->Bool
 | .one a,.one b=>sQ a b
 | .agg a,.agg b=>m6 a b
 |_,_=>false
def Bk{a b:RW}(h:sR a b=true):a=b:=by unfold sR at h;split at h;{rw[Bj h]};{rw[AJ h]};simp at h
def m7:List RW->List RW->Bool
 | [],[]=>true
 |a::M,b::c=>match sR a b with
  |true=>m7 M c
  |false=>false
 |_,_=>false
def AK:∀{a b:List RW},m7 a b=true->a=b
 | [],[],_=>rfl
 |a::M,b::c,h=>by
  simp only[m7]at h;split at h
  ·rename_i hn;rw[Bk hn,AK h]
  simp at h
 | [],_::_,h=>by simp[m7]at h
 |_::_,[],h=>by simp[m7]at h
def sS:RV->RV->Bool
 | .v a,.v b=>sR a b
 | .ab a,.ab b=>m7 a b
 |_,_=>false
def Bl{a b:RV}(h:sS a b=true):a=b:=by unfold sS at h;split at h;{rw[Bk h]};{rw[AK h]};simp at h
def m8:eG->eG->Bool
 | [],[]=>true
 |a::M,b::c=>match sS a b with
  |true=>m8 M c
  |false=>false
 |_,_=>false
def AL:∀{a b:eG},m8 a b=true->a=b
 | [],[],_=>rfl
 |a::M,b::c,h=>by
  simp only[m8]at h;split at h
  ·rename_i hn;rw[Bl hn,AL h]
  simp at h
 | [],_::_,h=>by simp[m8]at h
 |_::_,[],h=>by simp[m8]at h
structure iz where
 i:Nat
 args:eG
 r:RV
def lj(g:Nat)(args:eG):List iz->Option RV
 | []=>none
 |e::l=>match Nat.blt e.i g with
  |true=>match m8 e.args args with
   |true=>some e.r
   |false=>lj g args l
  |false=>lj g args l
def zK{g:Nat}{args:eG}:∀{l:List iz}{r:RV},lj g args l=some r->∃e∈l,e.i<g/\e.args=args/\e.r=r
 | [],r,h=>by simp[lj]at h
 |e::l,r,h=>by
  simp only[lj]at h;have next:lj g args l=some r->∃k∈e::l,k.i<g/\k.args=args/\k.r=r:=by
   intro V;obtain⟨k,j,m⟩:=zK V;exact⟨k,Xr _ j,m⟩
  split at h
  ·rename_i hb;split at h
   ·rename_i he;simp at h;exact⟨e,s_,by simp_all,AL he,h⟩
   exact next h
  exact next h
noncomputable def k9(t:Tree (List iz))(g:Nat)(n:FuncId->eG->Option RV)(f:FuncId)(args:eG):Option RV:=match t.get f with
 |some l=>match lj g args l with
  |some r=>some r
  |none=>n f args
 |none=>n f args
noncomputable def DO(C:bO)(k n L y:Nat)(f:FuncId)(e:iz):Bool:=match Nat.ble L e.i with
 |false=>true
 |true=>match Nat.blt e.i y with
  |false=>true
  |true=>match h_ (d8 C k n) f e.args with
   |some r=>sS r e.r
   |none=>false
noncomputable def ed(C:bO)(k n L y:Nat)(t:Tree (List iz)):Bool:=t.lE fun f l=>l.all (DO C k n L y f)
def cJ(P:lB)(G:az)(t:Tree (List iz))(b:Nat):Prop:=∀f l,t.get f=some l->∀e∈l,e.i<b->aR P G f e.args (·=e.r)
structure bO.gK(C:bO)(prim:FuncId->eG->Option RV):Prop where
 tok:aG C.P C.T
 wf:bf C.T
 mix:C.P.follows .mixedOrders=true
 func:∀f fn,C.func f=some fn->C.P.funcs[f]? =some fn/\fn.name≠ "runtime.NumGoroutine"
 prim:∀f args r,prim f args=some r->aR C.P C.G f args (·=r)
 ext:∀f args hp r R,C.ext f args hp=some (r,R)->am C.P C.G (.fn f) args hp fun y n=>y=r/\n=R:=by intro _ _ _ _ _ h;cases h
def bO.gK.ok{C:bO}{prim:FuncId->eG->Option RV}(h:C.gK prim){t:Tree (List iz)}{b:Nat}(D:cJ C.P C.G t b)(Q:C.val=k9 t b prim):C.Ok where
 tok:=h.tok
 wf:=h.wf
 mix:=h.mix
 func:=h.func
 ext:=h.ext
 val f args r E:=by
  rw[Q]at E;unfold k9 at E;split at E
  ·rename_i l hl;split at E
   ·rename_i y T;simp at E;subst E;obtain⟨e,i,j,rfl,rfl⟩:=zK T;exact D f l hl e i j
   exact h.prim f args r E
  exact h.prim f args r E
def cJ.zero{P:lB}{G:az}{t:Tree (List iz)}:cJ P G t 0:=fun _ _ _ _ _ h=>absurd h (Nat.not_lt_zero _)
def cJ.el{C:bO}{o:FuncId->eG->Option RV}(h:C.gK o){t:Tree (List iz)}{L y k n:Nat}(D:cJ C.P C.G t L)(Q:C.val=k9 t L o)(c:ed C k n L y t=true):cJ C.P C.G t y:=by have hC:=h.ok D Q;intro f l x e V K;(rcases VI e.i L with h1|h1);{exact D f l x e V h1};(have h2:=Tree.oa c x;have h3:=LA.1 h2 e V;unfold DO at h3;have g:Nat.ble L e.i=true:=by simpa using h1);(have j:Nat.blt e.i y=true:=by simpa[Ya] using K);simp only[g,j]at h3;split at h3;{rename_i r E;have:=Bl h3;subst this;exact aR.g6 hC E};simp at h3
structure fx(n:Nat)(A:Nat->Prop)(S:ay)(L:ag)(w:World)(A':Nat->Prop)(S':ay)(L':ag)(w':World):Prop where
 size:w.heap.size<=w'.heap.size
 os:w'.os=w.os
 tape:w'.tape=w.tape
 output:w'.output=w.output
 wh:∀b p,b<n->S b=some p->S' b=some p
 nw:∀b,b<n->S b=none->S' b=none
 len:n<=L'.length
 aK:∀B,B<w.heap.size->¬ch S L B->w'.heap[B]? =w.heap[B]?
 da:∀(B:Nat)(c:Array Value)(e:lA)(fr:Nat×Nat),w.heap[B]? =some (Obj.cells c e fr)->∃f:Array Value,(∃h,w'.heap[B]? =some (Obj.cells f e h))/\f.size=c.size
 up:∀B,A B->A' B
 down:∀B,A' B->A B\/w.heap.size<=B\/ch S L B
 own:∀B,B<w.heap.size->ch S' L' B->ch S L B
section
variable {P:lB} {T:aq} [aG P T] {G:az} {A A' A'':Nat->Prop} {S S' S'':ay} {L L' L'':ag} {w w' w'':World} {n:Nat}
def Ext.m9(h:Ext A S L w A' S' L' w')(x:n<=L.length):fx n A S L w A' S' L' w':=
 ⟨h.size,h.os,h.tape,h.output,fun b p _=>h.wh b p,fun b O=>h.nw b (W0 O x),Wu x h.len,h.aK,h.da,h.up,h.down,h.own⟩
def fx.k8(B:al G A S L w)(h:fx L.length A S L w A' S' L' w'):Ext A S L w A' S' L' w':=
 ⟨h.size,h.os,h.tape,h.output,fun b p O=>h.wh b p (B.cz b p.1 p.2 O) O,fun b O=>h.nw b O,h.len,h.aK,h.da,h.up,h.down,h.own⟩
def fx.trans(h:fx n A S L w A' S' L' w')(k:fx n A' S' L' w' A'' S'' L'' w''):fx n A S L w A'' S'' L'' w'' where
 size:=Wu h.size k.size
 os:=k.os.trans h.os
 tape:=k.tape.trans h.tape
 output:=k.output.trans h.output
 wh b p hb hp:=k.wh b p hb (h.wh b p hb hp)
 nw b hb hn:=k.nw b hb (h.nw b hb hn)
 len:=k.len
 aK B hB hn:=(k.aK B ahB (fun z=>hn (h.own B hB z))).trans (h.aK B hB hn)
 da B c e fr hc:=by
  obtain⟨d,⟨f,i⟩,g⟩:=h.da B c e fr hc;obtain⟨j,l,m⟩:=k.da B d e f i
  grind
 up B hB:=k.up B (h.up B hB)
 down B hB:=by
  rcases k.down B hB with i|i|i
  ·exact h.down B i
  ·exact .inr (.inl (Wu h.size i))
  rcases VI B w.heap.size with K|X
  ·exact .inr (.inr (h.own B K i))
  omega
 own B hB z:=h.own B hB (k.own B ahB z)
def Marks.ph{base:Bs}{B:List Deferred}(h:Marks A S L w base B)(M:fx n A S L w A' S' L' w'):Marks A' S' L' w' base B:=by obtain⟨N,i,hp,h⟩:=h;refine⟨N,i,hp,fun d T=> ?_⟩;obtain⟨D,e,j,k,l,m⟩:=h d T;have K:=dg k;refine⟨D,e,j,by rw[M.aK D K l];exact k,fun z=>l (M.own D K z),fun I=> ?_⟩;(rcases M.down D I with h|h|h);all_goals grind
def jf(P:lB)(G:az)(n:Nat)(base:Bs)(b:Frame)(k:pA)(cs:BY)(m:Machine)(A:Nat->Prop)(S:ay)(L:ag)(w:World)(Q:Ex->St->Prop):Prop:=
 ∃e st' U A' S' w' B,Q e st'/\gF P m b k cs e B U w'/\bL A' S' w' st'.regs U/\al G A' S' st'.hp w'/\fx n A S L w A' S' st'.hp w'/\Marks A' S' st'.hp w' base B
def mO(P:lB)(G:az)(n:Nat)(fn:FuncId)(rnd:Bool)(c:Code)(st:St)(Q:Ex->St->Prop):Prop:=
 ∀{A:Nat->Prop}{S:ay}{w:World}{t:Array Value}{b:Frame}{k:pA}{cs:BY}{base:Bs},n<=st.hp.length->al G A S st.hp w->bL A S w st.regs t->b.fn=fn->b.roundOf.isSome=rnd->
  Marks A S st.hp w base b.defers->base.n<=w.heap.size->jf P G n base b k cs (lone (Fr b t (.code c::k)) cs w) A S st.hp w Q
def jf.of_steps{base:Bs}{b:Frame}{k:pA}{cs:BY}{m i:Machine}{Q:Ex->St->Prop}(h:Steps P m i)(g:jf P G n base b k cs i A S L w Q):jf P G n base b k cs m A S L w Q:=by obtain⟨e,st',U,A',S',w',B,j,l,o⟩:=g;exact⟨e,st',U,A',S',w',B,j,gF.of_steps h l,o⟩
def jf.then{base:Bs}{b:Frame}{k k':pA}{cs:BY}{m:Machine}{Q T:Ex->St->Prop}(h:jf P G n base b k' cs m A S L w Q)(C:∀i,exitTo i k'=exitTo i k)(x:∀(f:Frame) st t A' S' w',Q .normal st->f.fn=b.fn->f.roundOf=b.roundOf->bL A' S' w' st.regs t->al G A' S' st.hp w'->fx n A S L w A' S' st.hp w'->Marks A' S' st.hp w' base f.defers->(∀B,{f with defers:=B}={b with defers:=B})-> jf P G n base f k cs (lone (Fr f t k') cs w') A' S' st.hp w' T)(V:∀i st,Q (.exit i) st->T (.exit i) st)(M:∀st,Q .ret st->T .ret st):jf P G n base b k cs m A S L w T:=by obtain⟨e,st,t,A',S',w',B,N,y,D,E,O,U⟩:=h;cases e with| normal=>(obtain⟨f,R,u,F,W,z,H,Z,I,J,K,X,Y⟩:=x {b with defers:=B} st t A' S' w' N rfl rfl D E O U (fun _=>rfl);refine⟨f,R,u,F,W,z,H,Z,?_,J,K,O.trans X,Y⟩;have a:gF P (lone (Fr {b with defers:=B} t k') cs w') b k cs f H u z:=by cases f<;>exact I);exact gF.of_steps y a|exit i=>obtain⟨l,j,o⟩:=y;exact⟨.exit i,st,t,A',S',w',B,V i st N,⟨l,j.trans (C i),o⟩,D,E,O,U⟩|ret=>obtain⟨l,o⟩:=y;exact⟨.ret,st,t,A',S',w',B,M st N,⟨l,o⟩,D,E,O,U⟩
variable {fn:FuncId} {rnd:Bool}
omit [aG P T] in
def mO.mono{c:Code}{st:St}{Q U:Ex->St->Prop}(h:mO P G n fn rnd c st Q)(M:∀e s,Q e s->U e s):mO P G n fn rnd c st U:=by intro A S w t b k cs base x B C V d W O;obtain⟨e,st',X,A',S',w',D,i,j⟩:=h (k:=k) (cs:=cs) x B C V d W O;exact⟨e,st',X,A',S',w',D,M _ _ i,j⟩
omit [aG P T] in
omit [aG P T] in
omit [aG P T] in
def mO.block{f:Nat}{c:Code}{st:St}{Q:Ex->St->Prop} (h:mO P G n fn rnd c st fun e s=>match e with
  | .normal=>Q .normal s
  | .exit i=>if i=f then Q .normal s else Q (.exit i) s
  | .ret=>Q .ret s):mO P G n fn rnd (.block f c) st Q:=by intro A S w t b k cs base x B C T d U O;refine jf.of_steps (Steps.cG uf) ?_;obtain⟨e,st',V,A',S',w',D,M,y,H,W,N,u⟩:=h (k:= .inBlock f::k) (cs:=cs) x B C T d U O;cases e with| normal=>exact⟨.normal,st',V,A',S',w',D,M,Yg y (Steps.cG tF),H,W,N,u⟩|exit i=>obtain⟨l,j,m⟩:=y;simp only[exitTo]at j;simp only at M;by_cases hi:i=f;{subst hi;simp at j M;exact⟨.normal,st',V,A',S',w',D,M,Yg m (Steps.cG (uB j)),H,W,N,u⟩};(have I:(f==i)=false:=by simp;exact fun e=>hi e.symm);simp only[I,Vp,w4]at j;simp only[hi,w4]at M;exact⟨.exit i,st',V,A',S',w',D,M,⟨l,j,m⟩,H,W,N,u⟩|ret=>exact⟨.ret,st',V,A',S',w',D,M,y,H,W,N,u⟩
def lF(G:az)(n:Nat)(st:St)(F:St->Prop):Prop:=
 ∀A S w t,al G A S st.hp w->bL A S w st.regs t->n<=st.hp.length->∃st' S',F st'/\n<=st'.hp.length/\al G A S' st'.hp w/\bL A S' w st'.regs t/\(∀b,b<n->S' b=S b)/\∀B,ch S' st'.hp B->ch S st.hp B
omit [aG P T] in
def lF.ph{st st':St}(v:n<=st'.hp.length)(i:∀b,b<n->S' b=S b)(j:∀B,ch S' st'.hp B->ch S st.hp B):fx n A S st.hp w A S' st'.hp w where
 size:=vA _
 os:=rfl
 tape:=rfl
 output:=rfl
 wh b p hb hp:=by simp_all
 nw b hb hp:=by simp_all
 len:=v
 aK _ _ _:=rfl
 da _ c _ fr h:=⟨c,⟨fr,h⟩,rfl⟩
 up _ h:=h
 down _ h:= .inl h
 own B _ z:=j B z
omit [aG P T] in
omit [aG P T] in
end
def posOf(n:Nat)(J:ak)(b:Nat):Option Nat:=match Nat.blt b n with
 |true=>some b
 |false=>(place J b).map (n+·)
def Bm(π:Nat->Option Nat)(c:Nat×Nat):Option (Nat×Nat):=match π c.1 with
 |some b=>some (b,c.2)
 |none=>none
def e'(π:Nat->Option Nat):LV->Option LV
 | .p x=>some (.p x)
 | .aX cs o=>some (.aX cs o)
 | .ref b o=>match π b with
  |some b=>some (.ref b o)
  |none=>none
 | .ad b o n z=>match π b with
  |some b=>some (.ad b o n z)
  |none=>none
 | .map b=>match π b with
  |some b=>some (.map b)
  |none=>none
 | .aI b=>match π b with
  |some b=>some (.aI b)
  |none=>none
 | .gQ t b o=>match π b with
  |some b=>some (.gQ t b o)
  |none=>none
 | .fn f M=>match ba (Bm π) M with
  |some l=>some (.fn f l)
  |none=>none
def m'(π:Nat->Option Nat):RW->Option RW
 | .one x=>match e' π x with
  |some y=>some (.one y)
  |none=>none
 | .agg xs=>match ba (e' π) xs with
  |some w=>some (.agg w)
  |none=>none
def hj(π:Nat->Option Nat):RV->Option RV
 | .v x=>match m' π x with
  |some y=>some (.v y)
  |none=>none
 | .ab xs=>match ba (m' π) xs with
  |some w=>some (.ab w)
  |none=>none
def oy(π:Nat->Option Nat)(e:Value×RW):Option (Value×RW):=match m' π e.2 with
 |some y=>some (e.1,y)
 |none=>none
def e9(π:Nat->Option Nat):Ob->Option Ob
 | .cells cs fz=>match ba (e' π) cs with
  |some l=>some (.cells l fz)
  |none=>none
 | .map es=>match ba (oy π) es with
  |some l=>some (.map l)
  |none=>none
 | .iter s p=>some (.iter s p)
 | .gone=>some .gone
 | .loop r=>match ba (hj π) r.regs with
  |some l=>some (.loop {r with regs:=l})
  |none=>none
 | .tc t cs f=>match ba (e' π) cs with
  |some l=>some (.tc t l f)
  |none=>none
def gG(π:Nat->Option Nat)(hp:ag)(b:Nat):Option Ob:=match hp[b]? with
 |some o=>e9 π o
 |none=>none
def gL(n:Nat)(J:ak)(hp:ag):Option (ag):=ba (gG (posOf n J) hp) (List.range n++J)
def fS(π:Nat->Option Nat)(J:Nat->RV):Nat->List Bool->eG->Option (eG)
 |_,_,[]=>some []
 |i,true::l,r::rs=>match hj π r,fS π J (i+1) l rs with
  |some y,some w=>some (y::w)
  |_,_=>none
 |i,false::l,r::rs=>match fS π J (i+1) l rs with
  |some w=>some (J i::w)
  |none=>none
 |i,[],r::rs=>match fS π J (i+1) [] rs with
  |some w=>some (J i::w)
  |none=>none
def oz(n:Nat)(J:ak):Bool:=J.all (fun b=>Nat.ble n b) && decide J.Nodup
def yz:∀{M:ak}{i k:Nat},place M i=some k->M[k]? =some i
 | [],i,k,h=>by simp[place]at h
 |a::M,i,k,h=>by
  simp only[place]at h;split at h
  ·grind
  simp only[CG]at h;obtain⟨G,V,rfl⟩:=h
  simpa using yz V
def hH{α β:Type}{f:α->Option β}:∀{l:List α}{r:List β},ba f l=some r->r.length=l.length/\∀(i:Nat) y,r[i]? =some y->∃x,l[i]? =some x/\f x=some y
 | [],r,h=>by simp[ba]at h;simp_all
 |x::l,r,h=>by
  simp only[ba]at h;split at h
  ·rename_i y w h1 h2;simp at h;subst h;obtain⟨k,m⟩:=hH h2
   grind
  simp at h
section
variable {G:az} {A:Nat->Prop} {S S':ay} {w:World} {π:Nat->Option Nat}
def qX(J:∀b g,π b=some g->S' g=S b){x k:LV}{v:Value}(h:e' π x=some k)(C:Rel A S w x v):Rel A S' w k v:=by cases x with| p x=>simp[e']at h;subst h;exact C|aX cs o=>simp[e']at h;subst h;exact C|ref b o=>exact afV|ad b o n z=>simp only[e']at h;split at h;{rename_i g hb;simp at h;subst h;obtain⟨B,d,q,y,j,m⟩:=C;exact⟨B,d,q,y,(J _ _ hb).trans j,m⟩};simp at h|map b=>exact afV|aI b=>exact afV|gQ t b o=>exact afV|fn f M=>simp only[e']at h;split at h;{rename_i l hl;simp at h;subst h;obtain⟨y,rfl,j,m⟩:=C;obtain⟨r,s⟩:=hH hl;refine⟨y,rfl,j.trans r.symm,fun i b o D=> ?_⟩;obtain⟨⟨c,u⟩,E,F⟩:=s i _ D;unfold Bm at F;grind};simp at h
def GF(J:∀b f,π b=some f->S' f=S b){xs z:lW}{vs:List Value}(h:ba (e' π) xs=some z)(C:bh A S w xs vs):bh A S' w z vs:=by obtain⟨k,l⟩:=hH h;refine⟨C.1.trans k.symm,fun i y hy=> ?_⟩;obtain⟨x,j,m⟩:=l i y hy;obtain⟨v,n,o⟩:=C.2 i x j;exact⟨v,n,qX J m o⟩
def ul(J:∀b f,π b=some f->S' f=S b){x y:RW}{v:Value}(h:m' π x=some y)(C:bZ A S w x v):bZ A S' w y v:=by cases x with| one x=>simp only[m']at h;split at h;{rename_i l hy;simp at h;subst h;exact qX J hy C};simp at h|agg xs=>simp only[m']at h;split at h;{rename_i z hy;simp at h;subst h;obtain⟨vs,rfl,B⟩:=C;exact⟨vs,rfl,GF J hy B⟩};simp at h
def um(J:∀b f,π b=some f->S' f=S b){x y:RV}{v:Value}(h:hj π x=some y)(C:aD A S w x v):aD A S' w y v:=by cases x with| v x=>simp only[hj]at h;split at h;{rename_i l hy;simp at h;subst h;exact ul J hy C};simp at h|ab xs=>simp only[hj]at h;split at h;{rename_i z hy;simp at h;subst h;obtain⟨k,l⟩:=hH hy;obtain⟨vs,rfl,B,c⟩:=C;refine⟨vs,rfl,B.trans k.symm,fun i y D=> ?_⟩;obtain⟨x,j,m⟩:=l i y D;obtain⟨u,n,o⟩:=c i x j;exact⟨u,n,ul J m o⟩};simp at h
def CA{x:RW}{v:Value}(h:bZ A S w x v):∃y,bZ A S' w y v:=by cases x with| one x=>exact⟨.one (.p (.vl v)),bG.vl v (Rel.single h)⟩|agg xs=>(obtain⟨vs,rfl,z,c⟩:=h;refine⟨.agg (vs.toList.map fun u=> .p (.vl u)),vs,rfl,s_,fun i x B=> ?_⟩;rw[VJ]at B;cases hu:vs.toList[i]? with| none=>simp_all| some u=>(rw[hu]at B;simp at B;subst B;refine⟨u,rfl,bG.vl u ?_⟩;have K:i<xs.length:=by rw[<- z];exact(se.1 hu).1);obtain⟨l,j,k⟩:=c i xs[i] (v9 K);rw[hu]at j;simp at j;subst j;exact Rel.single k)
def P4{x:RV}{v:Value}(h:aD A S w x v):∃y,aD A S' w y v:=by cases x with| v x=>obtain⟨y,hy⟩:=CA (S':=S') h;exact⟨.v y,hy⟩|ab xs=>((obtain⟨vs,rfl,z,c⟩:=h;have hex:∀i:Nat,∃y:RW,∀x,xs[i]? =some x->∃u,vs[i]? =some u/\bZ A S' w y u:=by intro i;cases hx:xs[i]? with| none=>exact⟨.agg [],s_⟩|some x=>obtain⟨u,j,k⟩:=c i x hx;obtain⟨y,hy⟩:=CA (S':=S') k;exact⟨y,fun l _=>⟨u,j,hy⟩⟩);let f:Nat->RW:=fun i=>Classical.choose (hex i);refine⟨.ab ((List.range xs.length).map f),vs,rfl,by simp[z],fun i x B=> ?_⟩;grind)
def un{J:Nat->RV}:∀{rs w:eG}{i:Nat}{f:List Bool},fS π J i f rs=some w->w.length=rs.length/\∀(k:Nat) y,w[k]? =some y->∃r,rs[k]? =some r/\(hj π r=some y\/y=J (i+k))
 | [],w,i,f,h=>by
  have:w=[]:=by cases f<;>(simp[fS]at h;exact h)
  simp_all
 |r::rs,w,i,f,h=>by
  have dead:∀{l},(match fS π J (i+1) l rs with
    |some w=>some (J i::w)
    |none=>none)=some w->w.length=(r::rs).length/\∀(k:Nat) y,w[k]? =some y->∃s,(r::rs)[k]? =some s/\(hj π s=some y\/y=J (i+k)):=by
   intro l h;split at h
   ·rename_i v h2;simp at h;subst h;obtain⟨m,n⟩:=un h2
    grind
   simp at h
  match f with
  | []=>simp only[fS]at h;exact dead h
  |false::l=>simp only[fS]at h;exact dead h
  |true::l=>
   simp only[fS]at h;split at h
   ·rename_i t v h1 h2;simp at h;subst h;obtain⟨m,n⟩:=un h2
    grind
   simp at h
def tV{o y:Ob}(h:e9 π o=some y):bS y=bS o/\bT y=bT o:=by cases o<;>simp only[e9]at h;{exact agr};{exact agr};{exact kg};{exact agr};{exact kg};exact agr
def GH(J:∀b g,π b=some g->S' g=S b){b g:Nat}{o z:Ob}(O:S' g=S b)(h:e9 π o=some z)(C:dx A S w b o):dx A S' w g z:=by cases o with| cells cs fz=>simp only[e9]at h;split at h;{rename_i l hl;simp at h;subst h;obtain⟨B,d,c,e,fr,j,m,n,q,u,E⟩:=C;obtain⟨F,G⟩:=hH hl;refine⟨B,d,c,e,fr,O.trans j,m,w_,q,u,fun i x H=> ?_⟩;exact atK};simp at h|map es=>simp only[e9]at h;split at h;{rename_i l hl;simp at h;subst h;obtain⟨B,d,u,m,j,n,q,E⟩:=C;obtain⟨F,G⟩:=hH hl;refine⟨B,d,u,m,O.trans j,n,q.trans F.symm,fun i k x H=> ?_⟩;obtain⟨⟨I,K⟩,L,M⟩:=G i _ H;unfold oy at M;split at M;{rename_i y hy;simp at M;obtain⟨rfl,rfl⟩:=M;obtain⟨e,N,P,Q⟩:=E i _ _ L;exact⟨e,N,P,ul J hy Q⟩};simp at M};simp at h|iter s p=>simp[e9]at h;subst h;obtain⟨B,j,m⟩:=C;exact⟨B,O.trans j,m⟩|gone=>simp[e9]at h;subst h;trivial|loop r=>simp only[e9]at h;split at h;{rename_i l hl;simp at h;subst h;obtain⟨B,d,tmps,D,j,m,n⟩:=C;obtain⟨q,u⟩:=hH hl;refine⟨B,d,tmps,D,O.trans j,m,n.1.trans q.symm,fun i x E=> ?_⟩;obtain⟨F,G,H⟩:=u i x E;obtain⟨v,I,K⟩:=n.2 i F G;exact⟨v,I,um J H K⟩};simp at h|tc t cs f=>simp only[e9]at h;split at h;{rename_i l hl;simp at h;subst h;obtain⟨B,c,fr,j,m,n,q,u,E⟩:=C;obtain⟨F,G⟩:=hH hl;refine⟨B,c,fr,O.trans j,m,w_,by simp_all,w_,fun i x H=> ?_⟩;exact atK};simp at h
def lF.EB{n:Nat}{regs:eG}{hp R:ag}{f:(Nat->RV)->eG}(K:ak)(g:List Bool)(C:oz n K=true)(p:gL n K hp=some R)(T:∀J,fS (posOf n K) J 0 g regs=some (f J)):lF G n ⟨regs,hp⟩ fun st'=>∃J,st'=⟨f J,R⟩:=by
 intro A S w t D E x;simp only at D E x;unfold oz at C;rw[Cz,XO]at C;obtain⟨X,q⟩:=C;have X:∀b∈K,n<=b:=fun b O=>by simp_all
 let S':ay:=fun b=>if b<n then S b else match K[b - n]? with| some c=>S c|none=>none
 have L:∀b j,posOf n K b=some j->S' j=S b:=by intro b j h;unfold posOf at h;split at h;{rename_i O;rw[Ya]at O;grind};simp only[CG]at h;obtain⟨k,l,rfl⟩:=h;simp[S',yz l,Nat.not_lt.2 (aeN n k)]
 obtain⟨s,U⟩:=hH p;have hlen:R.length=n+K.length:=by rw[s];simp
 have M:∀{j:Nat}{y:Ob},R[j]? =some y->∃b o,(List.range n++K)[j]? =some b/\hp[b]? =some o/\e9 (posOf n K) o=some y/\S' j=S b:=by intro j y h;obtain⟨b,l,m⟩:=U j y h;unfold gG at m;split at m;{grind};simp at m
 have Y:(List.range n++K).Nodup:=by rw[ah6];refine⟨aif,q,fun a u b O=> ?_⟩;have:=ZJ.1 u;have:=X b O;omega
 have N:∀B,ch S' R B->ch S hp B:=by rintro B ⟨j,y,d,l,m,z⟩;obtain⟨b,o,F,H,I,P⟩:=M l;exact⟨b,o,d,H,by rw[<- (tV I).1];exact m,by simp_all⟩
 let J:Nat->RV:=fun i=>match Classical.propDecidable (∃Q,aD A S' w Q (t.getD i undef)) with| .isTrue h=>Classical.choose h| .isFalse _=>bl
 have hJ:∀i,(∃Q,aD A S' w Q (t.getD i undef))->aD A S' w (J i) (t.getD i undef):=by
  intro i h
  show aD A S' w (match Classical.propDecidable (∃Q,aD A S' w Q (t.getD i undef)) with
   | .isTrue h=>Classical.choose h
   | .isFalse _=>bl) _
  split;{rename_i V _;exact Classical.choose_spec V};rename_i V _;exact absurd h V
 refine⟨⟨f J,R⟩,S',⟨J,rfl⟩,by simp_all,?_,?_,fun b O=>by simp[S',O],N⟩;{refine⟨fun j y h=> ?_,fun B Q W=>D.ca B Q (N B W),D.lt,fun e Z ap aw B d a0 a1 l m z a2 a_ be=> ?_,fun b B d h=> ?_,D.gl⟩;{obtain⟨b,o,F,H,I,P⟩:=M h;exact GH L P I (D.ob b o H)};{obtain⟨bo,br,F,H,I,P⟩:=M l;obtain⟨bU,b1,b3,cb,cc,cd⟩:=M z;refine D.inj bo bU br b1 B d a0 ?_ H (by rw[<- (tV I).1];exact m) cb (by rw[<- (tV cc).2];exact a2) kg kg;rintro rfl;exact a1 ((List.getElem?_inj (se.1 F).1 Y).1 (F.trans b3.symm))};grind};obtain⟨Q,W⟩:=un (T J);refine⟨E.1.trans Q.symm,fun i Z e=> ?_⟩;obtain⟨r,F,H⟩:=W i Z e;obtain⟨v,ap,aw⟩:=E.2 i r F;refine⟨v,ap,?_⟩;rcases H with H|H
 {exact um L H aw};have a0:t.getD i undef=v:=by simp[ap]
 rw[H,X_,<- a0];exact hJ i (by rw[a0];exact P4 aw)
end
def nq(fn:FuncId):FuncId:=fn%1000000
def cK(fn:FuncId):Bool:=Nat.ble 1000000 fn
def mt{fn:FuncId}(h:cK fn=false):nq fn=fn:=by(unfold cK at h;have:¬1000000<=fn:=by rw[<- Nat.ble_eq];simp[h]);exact Nat.mod_eq_of_lt (Nat.lt_of_not_le this)
def pI:Ex->Int
 | .normal=>0
 | .ret=>1
 | .exit id=>(id:Int)+2
def io(fn:FuncId)(e:Ex)(st:St):St:=match cK fn with
 |false=>st
 |true=>⟨st.regs.set 0 (.v (.one (.p (.vl (.int .i64 (pI e)))))),st.hp⟩
def mP(l:Bool):Ex->pA->Prop
 | .normal,a=>a=[]
 | .ret,a=>∃k,a= .code .ret::k
 | .exit id,a=>l=true/\∃k,a= .code (.exit id)::k/\exitTo id k=none
def Sb(k:Bool)(F:Frame):Frame:=match k with
 |false=>{F with mode:= .returning}
 |true=>F
def iZ{fn:FuncId}{e:Ex}{st:St}(h:cK fn=false):io fn e st=st:=by unfold io;rw[h]
def AM{fn:FuncId}{e:Ex}{st:St}:(io fn e st).hp=st.hp:=by unfold io;cases cK fn<;>rfl
def Fin(P:lB)(G:az)(n:Nat)(fn:FuncId)(todo:pA)(st:St)(Q:St->Prop):Prop:=
 ∀⦃A:Nat->Prop⦄ ⦃S:ay⦄ ⦃w:World⦄ ⦃t:Array Value⦄ ⦃b:Frame⦄ ⦃cs:List Frame⦄ ⦃base:Bs⦄,n<=st.hp.length->al G A S st.hp w->bL A S w st.regs t->b.fn=nq fn->b.roundOf.isSome=cK fn->
  Marks A S st.hp w base b.defers->base.n<=w.heap.size->
  ∃st' U O S' w' B a e,(Q (io fn e st')/\(cK fn=true->mP true e a))/\Steps P (lone (Fr b t todo) cs w) (lone (Sb (cK fn) (Fr {b with defers:=B} U a)) cs w')/\bL O S' w' st'.regs U/\al G O S' st'.hp w'/\fx n A S st.hp w O S' st'.hp w'/\Marks O S' st'.hp w' base B
section
variable {P:lB} {T:aq} {G:az} {n:Nat} {fn:FuncId} {k:pA} {st:St} {Q:St->Prop}
def Fin.step{todo a:pA}(B:∀(b:Frame)(t:Array Value)(cs:BY)(w:World),step P (lone (Fr b t todo) cs w)= .next (lone (Fr b t a) cs w))(h:Fin P G n fn a st Q):Fin P G n fn todo st Q:=by intro A S w t b cs base x C D T d U O;obtain⟨st',V,R,S',w',E,c,e,i,j,k⟩:=h (b:=b) (cs:=cs) x C D T d U O;exact⟨st',V,R,S',w',E,c,e,i,.head (B b t cs w) j,k⟩
def mP.steps{b:Frame}{t:Array Value}{todo:pA}{cs:BY}{w:World}{e:Ex}{l:Bool}(R:l=false)(d:b.roundOf=none)(V:mP l e todo):Steps P (lone (Fr b t todo) cs w) (lone {Fr b t todo with mode:= .returning} cs w):=by cases e with| normal=>cases V;exact Steps.cG (Bc d)|ret=>obtain⟨k,rfl⟩:=V;exact Steps.cG (rB d)|exit id=>simp_all[mP]
def Fin.stop{todo:pA}{e:Ex}(V:mP (cK fn) e todo)(h:Q (io fn e st)):Fin P G n fn todo st Q:=by intro A S w t b cs base x B C T d U O;refine⟨st,t,A,S,w,b.defers,todo,e,⟨h,fun R=>by rw[R]at V;exact V⟩,?_,C,B,(Ext.refl).m9 x,U⟩;cases R:cK fn with| true=>exact .refl _ _|false=>rw[R]at V d;exact mP.steps rfl (by simpa using d) V
def Fin.done(h:Q (io fn .normal st)):Fin P G n fn [] st Q:=Fin.stop (e:= .normal) rfl h
def Fin.abs{todo:pA}{F:St->Prop}(s:lF G n st F)(h:∀st',F st'->Fin P G n fn todo st' Q):Fin P G n fn todo st Q:=by intro A S w t b cs base x B C T d U O;obtain⟨st',S',L,v,W,H,i,j⟩:=s A S w t B C x;have hx:fx n A S st.hp w A S' st'.hp w:=lF.ph v i j;obtain⟨N,u,D,V,y,E,a,e,q,r,z,I,J,K⟩:=h st' L (b:=b) (cs:=cs) v W H T d (U.ph hx) O;exact⟨N,u,D,V,y,E,a,e,q,r,z,I,hx.trans J,K⟩
def Fin.go{todo todo':pA}{F:St->Prop}(N:∀{A:Nat->Prop}{S:ay}{w:World}{t:Array Value}{b:Frame}{cs:BY},al G A S st.hp w->bL A S w st.regs t->b.fn=nq fn-> ∃st' U O S' w',F st'/\Steps P (lone (Fr b t todo) cs w) (lone (Fr b U todo') cs w')/\bL O S' w' st'.regs U/\al G O S' st'.hp w'/\Ext A S st.hp w O S' st'.hp w')(h:∀st',F st'->Fin P G n fn todo' st' Q):Fin P G n fn todo st Q:=by intro A S w t b cs base x B C T d U O;obtain⟨st',V,R,S',w',L,D,H,W,M⟩:=N (cs:=cs) B C T;have y:=M.m9 x;obtain⟨X,u,E,Y,z,I,a,e,q,r,s,v,J,K⟩:=h st' L (b:=b) (cs:=cs) y.len W H T d (U.ph y) (Wu O M.size);exact⟨X,u,E,Y,z,I,a,e,q,D.trans r,s,v,y.trans J,K⟩
def Fin.op[aG P T](l:bf T){ops:Array Oper}{i:Nat}{is:ak}{o:Oper}(z:ops[i]? =some o)(u:bD ops st.regs o=some true)(h:eQ P T G (am P G) o st fun st'=>Fin P G n fn (.inRegion ops is::k) st' Q): Fin P G n fn (.inRegion ops (i::is)::k) st Q:=by refine Fin.go (F:=fun st'=>Fin P G n fn (.inRegion ops is::k) st' Q) ?_ (fun _ h=>h);intro A S w t b cs B C U;exact qq l z (iO C u) B C h
def Fin.Kk{ops:Array Oper}{i:Nat}{is:ak}{o:Oper}(z:ops[i]? =some o)(u:bD ops st.regs o=some false)(h:Fin P G n fn (.inRegion ops is::k) ⟨aT st.regs o.dst bl,st.hp⟩ Q): Fin P G n fn (.inRegion ops (i::is)::k) st Q:=by refine Fin.go (F:=fun st'=>st'=⟨aT st.regs o.dst bl,st.hp⟩) ?_ (fun _ e=>by rw[e];exact h);intro A S w t b cs B C T;have E:=iO C u;have U:=qm (P:=P) (b:=b) (t:=t) (k:=k) (cs:=cs) (w:=w) (ops:=ops) (i:=i) (rest:=is) (by simp[z,E]);rw[z]at U;simp only[YV]at U;exact⟨_,_,A,S,w,rfl,Steps.cG U,C.put jC,B,Ext.refl⟩
def Fin.cond{c:Operand}{x y:Code}{u:Bool}(d:eY c=true)(i:aQ st.regs c=atR (.bool u))(h:Fin P G n fn (.code (if u then x else y)::k) st Q):Fin P G n fn (.code (.cond c x y)::k) st Q:=by(refine Fin.go (F:=fun st'=>st'=st) ?_ (fun _ e=>by rw[e];exact h);intro A S w t b cs B C T;have H:=gh C d;rw[i]at H;have R:bx t c= .bool u:=by generalize bx t c=v at H;cases H;rfl);exact⟨st,t,A,S,w,rfl,Steps.cG (Av R),C,B,Ext.refl⟩
def Fin.draw{e:Nat}{ops:Array Oper}(h:cW P G ops st fun st'=>Fin P G n fn k st' Q):Fin P G n fn (.code (.region e ops true)::k) st Q:=by refine Fin.go (F:=fun st'=>Fin P G n fn k st' Q) ?_ (fun _ h=>h);intro A S w t b cs B C T;exact h A S w t b k cs e B C
def Fin.ind{α:Type}(I:α->Prop)(μ:α->Nat)(s:α->(Nat->RV)->St){todo:pA}(h:∀x,I x->(∀k,I k->μ k<μ x->∀J,Fin P G n fn todo (s k J) Q)->∀J,Fin P G n fn todo (s x J) Q):∀x,I x->∀J,Fin P G n fn todo (s x J) Q:=by(have key:∀(m:Nat) x,μ x<m->I x->∀J,Fin P G n fn todo (s x J) Q:=by intro m;induction m with| zero=>omega| succ m d=>grind);grind
def km(P:lB)(T:aq)(G:az):pA->St->Option (List Item×St)
 | .code .skip::k,st=>some (k,st)
 | .code (.label _)::k,st=>some (k,st)
 | .code (.seq a b)::k,st=>some (.code a:: .code b::k,st)
 | .code (.block id c)::k,st=>some (.code c:: .inBlock id::k,st)
 | .code (.cond c x y)::k,st=>match eY c with
  |true=>match aQ st.regs c with
   | .v (.one (.p (.vl (.bool u))))=>match u with
    |true=>some (.code x::k,st)
    |false=>some (.code y::k,st)
   |_=>none
  |false=>none
 | .code (.exit id)::k,st=>match exitTo id k with
  |some H=>some (H,st)
  |none=>none
 | .code (.region _ ops false)::k,st=>some (.inRegion ops (List.range ops.size)::k,st)
 | .inBlock _::k,st=>some (k,st)
 | .code (.loop c)::k,st=>some (.code c:: .inLoop c::k,st)
 | .inLoop c::k,st=>some (.code c:: .inLoop c::k,st)
 | .inRegion _ []::k,st=>some (k,st)
 | .inRegion ops (i::is)::k,st=>match ops[i]? with
  |some o=>match bD ops st.regs o with
   |some false=>some (.inRegion ops is::k,⟨aT st.regs o.dst bl,st.hp⟩)
   |some true=>match cR o with
    |true=>match bR o.op with
     |none=>match aJ P T G (aQ st.regs) o st.hp with
      |some (r,hp)=>some (.inRegion ops is::k,⟨aT st.regs o.dst r,hp⟩)
      |none=>none
     |some _=>none
    |false=>none
   |none=>none
  |none=>none
 |_,_=>none
def Fin.km[aG P T](k:bf T){todo a:pA}{st':St}(h:km P T G todo st=some (a,st'))(U:Fin P G n fn a st' Q):Fin P G n fn todo st Q:=by unfold Sx.km at h;split at h;{simp at h;obtain⟨rfl,rfl⟩:=h;exact Fin.step (fun _ _ _ _=>Au) U};{simp at h;obtain⟨rfl,rfl⟩:=h;exact Fin.step (fun _ _ _ _=>zw) U};{simp at h;obtain⟨rfl,rfl⟩:=h;exact Fin.step (fun _ _ _ _=>jW) U};{simp at h;obtain⟨rfl,rfl⟩:=h;exact Fin.step (fun _ _ _ _=>uf) U};{split at h;{rename_i x;split at h;{rename_i u hu;split at h;{exact au9};exact au9};simp at h};simp at h};{split at h;{rename_i H he;simp at h;obtain⟨rfl,rfl⟩:=h;exact Fin.step (fun _ _ _ _=>uB he) U};simp at h};{simp at h;obtain⟨rfl,rfl⟩:=h;exact Fin.step (fun _ _ _ _=>nR) U};{simp at h;obtain⟨rfl,rfl⟩:=h;exact Fin.step (fun _ _ _ _=>tF) U};{simp at h;obtain⟨rfl,rfl⟩:=h;exact Fin.step (fun _ _ _ _=>Ax) U};{simp at h;obtain⟨rfl,rfl⟩:=h;exact Fin.step (fun _ _ _ _=>yb) U};{simp at h;obtain⟨rfl,rfl⟩:=h;exact Fin.step (fun _ _ _ _=>iJ) U};{split at h;{rename_i o z;split at h;{rename_i hw;simp at h;obtain⟨rfl,rfl⟩:=h;exact Fin.Kk z hw U};{rename_i hw;split at h;{rename_i x;split at h;{rename_i hc;split at h;{rename_i r hp V;simp at h;obtain⟨rfl,rfl⟩:=h;exact Fin.op k z hw (nS x hc V U)};simp at h};simp at h};simp at h};simp at h};simp at h};simp at h
noncomputable def a'(P:lB)(T:aq)(G:az)(m:Nat):pA->St->List Item×St:=
 Nat.rec (motive:=fun _=>List Item->St->List Item×St) (fun todo st=>(todo,st)) (fun _ d todo st=>match km P T G todo st with
  |some (a,st')=>d a st'
  |none=>(todo,st)) m
def Fin.a'[aG P T](k:bf T):∀(m:Nat){todo a:pA}{st st':St},a' P T G m todo st=(a,st')->Fin P G n fn a st' Q->Fin P G n fn todo st Q
 | 0,todo,a,st,st',h,U=>by
  have:(todo,st)=(a,st'):=h
  simp_all
 |m+1,todo,a,st,st',h,U=>by
  have h:(match Sx.km P T G todo st with
   |some (a,st')=>Sx.a' P T G m a st'
   |none=>(todo,st))=(a,st'):=h
  split at h
  ·rename_i b s A;exact Fin.km k A (Fin.a' k m h U)
  simp_all
def Fin.call[aG P T](l:bf T){ops:Array Oper}{i:Nat}{is:ak}{o:Oper}{f:Operand}{args:List Operand}{c:dw}{M:eG}(z:ops[i]? =some o)(t:bD ops st.regs o=some true)(x:cR o=true)(d:bR o.op=some (f,args))
  (m:cL (aQ st.regs f) (args.map (aQ st.regs))=some (c,M)) (h:am P G c M st.hp fun r hp=>Fin P G n fn (.inRegion ops is::k) ⟨aT st.regs o.dst r,hp⟩ Q):Fin P G n fn (.inRegion ops (i::is)::k) st Q:=
 Fin.op l z t (uj x d m h)
def am.ex[aG P T]{f:FuncId}{fn:Func}{c:Code}{args:eG}{L:ag}{Q:RV->ag->Prop}(U:P.funcs[f]? =some fn)(O:fn.body=some c) (x:fn.name≠ "runtime.NumGoroutine") (h:Fin P G L.length f [.code c] ⟨dm fn args,L⟩ fun st=>∃r,bQ T G fn st=some r/\Q r st.hp) (R:cK f=false:=by rfl):am P G (.fn f) args L Q:=by refine .inl ⟨⟨fn,U,by simp[O],x⟩,fun A S w vs B u g cs=> ?_⟩;let b:Frame:={fn:=f,tmps:=#[],todo:=[],defers:=[],mode:= .run,kind:= .normal,roundOf:=none};(have F:Frame.enter P f vs.toArray .normal=Fr b (vs.toArray++Array.replicate (fn.ntmps - vs.toArray.size) undef) [.code c]:=by exact alB);rw[F];have V:Marks A S L w ⟨w.heap.size,[]⟩ b.defers:=⟨[],rfl,YS,fun d W=>by cases W⟩;obtain⟨st,t,X,S',w',C,a,e,⟨Z,i⟩,D,H,Y,M,j⟩:=h (b:=b) (cs:=g::cs) (vA _) B (qr u) (mt R).symm R.symm V (vA _);rw[iZ R]at Z;obtain⟨r,k,l⟩:=Z;have E:=D;rw[R]at E;have M:=M.k8 B;obtain⟨y,m,n,o,p⟩:=nD (P:=P) (fr:={Fr {b with defers:=C} t a with mode:= .returning}) (cs:=g::cs) rfl (vA _) C w' rfl j Y H M;obtain⟨v,q,J⟩:=qc (P:=P) (fn:=fn) (regs:=st.regs) n o k;have s:({{Fr {b with defers:=C} t a with mode:= .returning} with defers:=[]}:Frame).leaving P y (.returned v):=⟨rfl,rfl,rfl,fn,U,q⟩;exact⟨r,st.hp,v,X,S',y,l,E.trans (m.trans (Steps.cG (aie s))),J,n,p⟩
def Calls.ex[aG P T]{f:FuncId}{fn:Func}{c:Code}{args:eG}{vs:List Value}{A:Nat->Prop}{S:ay}{w:World}{Q:RV->Prop}(U:P.funcs[f]? =some fn)(O:fn.body=some c)(B:al G A S [] w)(u:aN A S w args vs)(h:Fin P G 0 f [.code c] ⟨dm fn args,[]⟩ fun st=>∃r,bQ T G fn st=some r/\Q r)(R:cK f=false:=by rfl): Calls P f vs.toArray w fun e w'=>∃r v V S',e= .returned v/\Q r/\aD V S' w' r v/\Same w w':=by intro cs;let b:Frame:={fn:=f,tmps:=#[],todo:=[],defers:=[],mode:= .run,kind:= .normal,roundOf:=none};(have F:Frame.enter P f vs.toArray .normal=Fr b (vs.toArray++Array.replicate (fn.ntmps - vs.toArray.size) undef) [.code c]:=by exact alB);rw[F];have W:Marks A S [] w ⟨w.heap.size,[]⟩ b.defers:=⟨[],rfl,YS,fun d X=>by cases X⟩;obtain⟨st,t,V,S',w',C,a,e,⟨Z,i⟩,D,H,Y,M,g⟩:=h (b:=b) (cs:=cs) (vA _) B (qr u) (mt R).symm R.symm W (vA _);rw[iZ R]at Z;obtain⟨r,j,k⟩:=Z;have E:=D;rw[R]at E;have M:=fx.k8 (L:=[]) B M;obtain⟨x,l,m,n,o⟩:=nD (P:=P) (fr:={Fr {b with defers:=C} t a with mode:= .returning}) (cs:=cs) rfl (vA _) C w' rfl g Y H M;obtain⟨v,p,J⟩:=qc (P:=P) (fn:=fn) (regs:=st.regs) m n j;have q:({{Fr {b with defers:=C} t a with mode:= .returning} with defers:=[]}:Frame).leaving P x (.returned v):=⟨rfl,rfl,rfl,fn,U,p⟩;exact⟨.returned v,x,_,⟨r,v,V,S',rfl,k,J,o.same⟩,E.trans l,rfl,q⟩
end
end Go.Sx
