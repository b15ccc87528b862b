/- A part of the proof of MeaningEmpty. -/
import Derived.Test.YtgnjilecndiffaaGreatDoorP10
set_option linter.all false
set_option maxRecDepth 1000000
set_option maxHeartbeats 0
namespace Go.Sx
inductive Z where
 | s (td:List Item) (st:St)
 | r (ops:Array Oper) (Ms ws:List (List Nat)) (l:List Nat) (td:List Item) (st:St)
section
variable {P:Program} {T:Tab} {G:Globs} {n:Nat} {fn:FuncId} {Q:St→Prop} {z:Z}
def FX (P:Program) (T:Tab) (G:Globs) (n:Nat) (fn:FuncId) (z:Z) (Q:St→Prop):Prop:=match z with
 | .s td st=>Fin P G n fn td st Q
 | .r ops Ms ws l td st=>DU P T G ops (nthL Ms) (nthL ws) (fun st'=>Fin P G n fn td st' Q) l st
def stZ:Z→St
 | .s _ st=>st
 | .r _ _ _ _ _ st=>st
noncomputable def stepZ (P:Program) (T:Tab) (G:Globs):Z→Option Z
 | .s td st=>match advS P T G td st with
  | some (td',st')=>some (.s td' st')
  | none=>none
 | .r _ _ _ [] td st=>some (.s td st)
 | .r ops Ms ws (i::is) td st=>match stepU1 P T G ops Ms ws i st with
  | some st'=>some (.r ops Ms ws is td st')
  | none=>none
theorem FX.step [TOk P T] (hwf:WFP T) {z z':Z} (h:stepZ P T G z=some z') (hf:FX P T G n fn z' Q):FX P T G n fn z Q:=by
 unfold stepZ at h;split at h
 ·split at h
  ·rename_i ha;simp at h;subst h;exact Fin.advS hwf ha hf
  ·simp at h
 ·simp at h;subst h;exact hf
 ·split at h
  ·rename_i hs;simp at h;subst h;exact stepU1_ok hs hf
  ·simp at h
noncomputable def advZ (P:Program) (T:Tab) (G:Globs) (m:Nat):Z→Z:=
 Nat.rec (motive:=fun _=>Z→Z) (fun z=>z) (fun _ ih z=>match stepZ P T G z with
  | some z'=>ih z'
  | none=>z) m
theorem FX.adv [TOk P T] (hwf:WFP T):∀(m:Nat) {z:Z},FX P T G n fn (advZ P T G m z) Q→FX P T G n fn z Q
 | 0,z,h=>h
 | m+1,z,h=>by
  have h:FX P T G n fn (match stepZ P T G z with
   | some z'=>advZ P T G m z'
   | none=>z) Q:=h
  split at h
  ·rename_i hs;exact FX.step hwf hs (FX.adv hwf m h)
  ·exact h
noncomputable def opW (T:Tab):Z→Option (Oper×(Operand→RV)×List Ob)
 | .s td st=>match opAt td st with
  | some (o,_)=>some (o,evR st.regs,st.hp)
  | none=>none
 | .r ops Ms ws (i::_) _ st=>match opAtU ops i st with
  | some o=>match isQuiet (kindOp T o.op) with
   | true=>some (o,evR st.regs,msk (nthL Ms i) st.hp)
   | false=>match wroteB (nthL ws i) (evR st.regs) o.op with
    | true=>some (o,evR st.regs,st.hp)
    | false=>none
  | none=>none
 | _=>none
noncomputable def nextW (T:Tab) (z:Z) (r:RV) (hp:List Ob):Z:=match z with
 | .s td st=>match opAt td st with
  | some (o,td')=> .s td' ⟨putR st.regs o.dst r,hp⟩
  | none=>z
 | .r ops Ms ws (i::is) td st=>match ops[i]? with
  | some o=> .r ops Ms ws is td ⟨putR st.regs o.dst r,match isQuiet (kindOp T o.op) with
   | true=>st.hp
   | false=>hp⟩
  | none=>z
 | z=>z
theorem FX.opW [TOk P T] (hwf:WFP T) {o:Oper} {ρ:Operand→RV} {h hp:List Ob} {r:RV} (hw:Sx.opW T z=some (o,ρ,h)) (ho:opA P T G ρ o h=some (r,hp)) (hf:FX P T G n fn (nextW T z r hp) Q):FX P T G n fn z Q:=by
 rw [← opQ_eq] at ho;unfold Sx.opW at hw;split at hw
 ·split at hw
  ·rename_i o' td' hat;simp at hw;obtain ⟨rfl,rfl,rfl⟩:=hw;simp only [nextW,hat] at hf;exact Fin.opH hwf hat ho hf
  ·simp at hw
 ·split at hw
  ·rename_i o' hat;have hops:=(opAtU_ok hat).1;simp only [nextW,hops] at hf;split at hw
   ·rename_i hq;simp at hw;obtain ⟨rfl,rfl,rfl⟩:=hw;simp only [hq] at hf;exact DU.opE hat hq rfl ho hf
   ·rename_i hq;split at hw
    ·rename_i hwr;simp at hw;obtain ⟨rfl,rfl,rfl⟩:=hw;simp only [hq] at hf;exact DU.opH hat hq hwr ho hf
    ·simp at hw
  ·simp at hw
 ·simp at hw
noncomputable def opZ (P:Program) (T:Tab) (G:Globs) (m:Nat) (z:Z):Option (RV×List Ob):=match opW T (advZ P T G m z) with
 | some (o,ρ,h)=>opQ o.op P T G ρ o h
 | none=>none
noncomputable def hsZ (P:Program) (T:Tab) (G:Globs) (m:Nat) (z:Z):List Ob:=match opW T (advZ P T G m z) with
 | some (_,_,h)=>h
 | none=>[]
noncomputable def nxZ (P:Program) (T:Tab) (G:Globs) (m:Nat) (z:Z) (r:RV) (hp:List Ob):Z:=nextW T (advZ P T G m z) r hp
noncomputable def hpZ (P:Program) (T:Tab) (G:Globs) (m:Nat) (z:Z):List Ob:=(stZ (advZ P T G m z)).hp
theorem FX.op [TOk P T] (hwf:WFP T) (m:Nat) (F:List Ob→Option (RV×List Ob)) {r:RV} {hp:List Ob} (h1:opZ P T G m z=F (hsZ P T G m z)) (h2:F (hsZ P T G m z)=some (r,hp)) (hf:FX P T G n fn (nxZ P T G m z r hp) Q):FX P T G n fn z Q:=by
 have h:=h1.trans h2;unfold opZ at h;refine FX.adv hwf m ?_;split at h
 ·rename_i o ρ hs ho;rw [opQ_eq] at h;exact FX.opW hwf ho h hf
 ·simp at h
theorem FX.opG [TOk P T] (hwf:WFP T) (m:Nat) {o:Oper} {ρ:Operand→RV} {h hp:List Ob} {r:RV} (hw:Sx.opW T (advZ P T G m z)=some (o,ρ,h)) (ho:opA P T G ρ o h=some (r,hp)) (hf:FX P T G n fn (nxZ P T G m z r hp) Q):FX P T G n fn z Q:=
 FX.adv hwf m (FX.opW hwf hw ho hf)
class Wid {α:Type} (enc:α→List PV) (s:outParam Nat):Prop where
 h:∀a,(enc a).length=s
noncomputable def lenZ (P:Program) (T:Tab) (G:Globs) (m:Nat) (z:Z):Option PV:=match opW T (advZ P T G m z) with
 | some (o,ρ,_)=>match o.op with
  | .call {callee:= .builtin .len,args,argTypes}=>match args.toList.map ρ,(argTypes[0]?).bind T.und with
   | [.v (.one (.p x))],some (.slice _)=>match pureR P (Builtin.len_ argTypes o.type #[.slice none 0 0]) with
    | some (.v (.one (.p (.vl (.int .i64 k)))))=>match k with
     | .ofNat 0=>some x
     | _=>none
    | _=>none
   | _,_=>none
  | _=>none
 | none=>none
theorem FX.len [TOk P T] (hwf:WFP T) (m:Nat) {α:Type} {enc:α→List PV} {L:List α} {x:PV} (hl:IsS enc L x) (h:lenZ P T G m z=some x) (hf:FX P T G n fn (nxZ P T G m z (.v (.one (.p (.vl (.int .i64 (L.length:Int)))))) (hsZ P T G m z)) Q):FX P T G n fn z Q:=by
 unfold lenZ at h;split at h
 ·rename_i o ρ hs ho;have e:hsZ P T G m z=hs:=by unfold hsZ;rw [ho]
  rw [e] at hf;refine FX.opG hwf m ho ?_ hf;obtain ⟨dst,op,ty,pos,after,guard⟩:=o;simp only at h;split at h
  ·rename_i args ats;split at h
   ·rename_i hargs hT;split at h
    ·rename_i hpu;split at h
     ·simp at h;subst h;show builtinA P T .len _ _ _ _=_;rw [hargs];refine len_S hl ?_ hT;simp only [builtinA,hT,toVal];show Option.map (fun r=>(r,hs)) (pureR P (Builtin.len_ ats ty #[.slice none 0 0]))=_;rw [hpu];rfl
     ·simp at h
    ·simp at h
   ·simp at h
  ·simp at h
 ·simp at h
noncomputable def idxZ (P:Program) (T:Tab) (G:Globs) (m:Nat) (z:Z):Option (PV×Int×Nat):=match opW T (advZ P T G m z) with
 | some (o,ρ,_)=>match o.op with
  | .indexAddr t x ix=>match ρ x,ρ ix,T.und t with
   | .v (.one (.p x)),.v (.one (.p (.vl (.int _ k)))),some (.slice e)=>match szOf T e with
    | some s=>some (x,k,s)
    | none=>none
   | _,_,_=>none
  | _=>none
 | none=>none
theorem FX.idx [TOk P T] (hwf:WFP T) (m:Nat) (k:Int) {α:Type} {enc:α→List PV} {L:List α} {x:PV} {s:Nat} [Wid enc s] (hl:IsS enc L x) (h0:0≤k) (h1:k<L.length) (h:idxZ P T G m z=some (x,k,s))
  (hf:FX P T G n fn (nxZ P T G m z (.v (.one (.pref (L.flatMap enc) (k.toNat*s)))) (hsZ P T G m z)) Q):FX P T G n fn z Q:=by
 unfold idxZ at h;split at h
 ·rename_i o ρ hs ho;have e:hsZ P T G m z=hs:=by unfold hsZ;rw [ho]
  rw [e] at hf;refine FX.opG hwf m ho ?_ hf;obtain ⟨dst,op,ty,pos,after,guard⟩:=o;simp only at h;split at h
  ·rename_i t x' ix;split at h
   ·rename_i h2 h3 hT;split at h
    ·rename_i hsz;simp at h;obtain ⟨rfl,rfl,rfl⟩:=h;show indexAddrA T t (ρ x') (ρ ix) hs=_;rw [h2,h3];exact indexAddrA_S hT hsz hl h0 h1
    ·simp at h
   ·simp at h
  ·simp at h
 ·simp at h
noncomputable def ldZ (P:Program) (T:Tab) (G:Globs) (m:Nat) (z:Z):Option (List PV×Nat×Nat):=match opW T (advZ P T G m z) with
 | some (o,ρ,_)=>match o.op with
  | .load t x=>match ρ x,szOf T t,isAggB T t with
   | .v (.one (.pref cs off)),some k,some false=>match k with
    | 1=>some (cs,off,0)
    | _=>none
   | .v (.one (.pref cs off)),some k,some true=>some (cs,off,k+1)
   | _,_,_=>none
  | _=>none
 | none=>none
theorem FX.ld [TOk P T] (hwf:WFP T) (m:Nat) {α:Type} (enc:α→List PV) (L:List α) (k:Int) {s:Nat} [Wid enc s] [Inhabited α] (h0:0≤k) (h1:k<L.length) (h:ldZ P T G m z=some (L.flatMap enc,k.toNat*s,0)) (hs1:Nat.ble 1 s=true)
  (hf:FX P T G n fn (nxZ P T G m z (.v (.one (.p (hd (enc (L.getD k.toNat default)))))) (hsZ P T G m z)) Q):FX P T G n fn z Q:=by
 unfold ldZ at h;split at h
 ·rename_i o ρ hs ho;have e:hsZ P T G m z=hs:=by unfold hsZ;rw [ho]
  rw [e] at hf;refine FX.opG hwf m ho ?_ hf;obtain ⟨dst,op,ty,pos,after,guard⟩:=o;simp only at h;split at h
  ·rename_i t x';split at h
   ·rename_i h2 hsz hag;split at h
    ·simp at h;obtain ⟨rfl,rfl⟩:=h;show loadA T G t (ρ x') hs=_;rw [h2];exact loadA_S10 default hsz hag Wid.h h0 h1 (by simpa using hs1)
    ·simp at h
   all_goals simp_all
  ·simp at h
 ·simp at h
theorem FX.ld1 [TOk P T] (hwf:WFP T) (m:Nat) {α:Type} (enc:α→List PV) (L:List α) (k:Int) (off:Nat) {s:Nat} [Wid enc s] [Inhabited α] (h0:0≤k) (h1:k<L.length) (h:ldZ P T G m z=some (L.flatMap enc,k.toNat*s+off,0)) (hs1:Nat.ble (off+1) s=true)
  (hf:FX P T G n fn (nxZ P T G m z (.v (.one (.p (hd ((enc (L.getD k.toNat default)).drop off))))) (hsZ P T G m z)) Q):FX P T G n fn z Q:=by
 unfold ldZ at h;split at h
 ·rename_i o ρ hs ho;have e:hsZ P T G m z=hs:=by unfold hsZ;rw [ho]
  rw [e] at hf;refine FX.opG hwf m ho ?_ hf;obtain ⟨dst,op,ty,pos,after,guard⟩:=o;simp only at h;split at h
  ·rename_i t x';split at h
   ·rename_i h2 hsz hag;split at h
    ·simp at h;obtain ⟨rfl,rfl⟩:=h;show loadA T G t (ρ x') hs=_;rw [h2];exact loadA_S1 default hsz hag Wid.h h0 h1 (by simpa using hs1)
    ·simp at h
   all_goals simp_all
  ·simp at h
 ·simp at h
theorem FX.ldN [TOk P T] (hwf:WFP T) (m:Nat) {α:Type} (enc:α→List PV) (L:List α) (k:Int) (q:Nat) {s:Nat} [Wid enc s] [Inhabited α] (h0:0≤k) (h1:k<L.length) (h:ldZ P T G m z=some (L.flatMap enc,k.toNat*s,q+1)) (hs1:Nat.ble q s=true)
  (hf:FX P T G n fn (nxZ P T G m z (.v (.agg (pc ((enc (L.getD k.toNat default)).take q)))) (hsZ P T G m z)) Q):FX P T G n fn z Q:=by
 unfold ldZ at h;split at h
 ·rename_i o ρ hs ho;have e:hsZ P T G m z=hs:=by unfold hsZ;rw [ho]
  rw [e] at hf;refine FX.opG hwf m ho ?_ hf;obtain ⟨dst,op,ty,pos,after,guard⟩:=o;simp only at h;split at h
  ·rename_i t x';split at h
   ·grind
   ·rename_i h2 hsz hag;simp at h;obtain ⟨rfl,rfl,rfl⟩:=h;show loadA T G t (ρ x') hs=_;rw [h2];exact loadA_SN0 default hsz hag Wid.h h0 h1 (by simpa using hs1)
   ·simp at h
  ·simp at h
 ·simp at h
noncomputable def byZ (P:Program) (T:Tab) (G:Globs) (m:Nat) (z:Z):Option (ByteArray×Int):=match opW T (advZ P T G m z) with
 | some (o,ρ,_)=>match o.op with
  | .index t x ix=>match ρ x,ρ ix,T.und t with
   | .v (.one (.p (.vl (.string s)))),.v (.one (.p (.vl (.int _ k)))),some .string=>some (s,k)
   | _,_,_=>none
  | _=>none
 | none=>none
theorem FX.byte [TOk P T] (hwf:WFP T) (m:Nat) (s:ByteArray) (k:Int) (h0:0≤k) (h1:k<s.size) (h:byZ P T G m z=some (s,k))
  (hf:FX P T G n fn (nxZ P T G m z (.v (.one (.p (.vl (.int .u8 (byteAt s k)))))) (hsZ P T G m z)) Q):FX P T G n fn z Q:=by
 unfold byZ at h;split at h
 ·rename_i o ρ hs ho;have e:hsZ P T G m z=hs:=by unfold hsZ;rw [ho]
  rw [e] at hf;refine FX.opG hwf m ho ?_ hf;obtain ⟨dst,op,ty,pos,after,guard⟩:=o;simp only at h;split at h
  ·rename_i t x' ix;split at h
   ·rename_i h2 h3 hT;simp at h;obtain ⟨rfl,rfl⟩:=h;show indexQ P T t (ρ x') (ρ ix) hs=_;rw [h2,h3];exact indexQ_byte hT h0 h1
   ·simp at h
  ·simp at h
 ·simp at h
def csAt (b:Nat) (hp:List Ob):Option (List LV):=match hp[b]? with
 | some (.cells cs _)=>some cs
 | _=>none
def csAtF (b:Nat) (hp:List Ob):Option (List LV):=match hp[b]? with
 | some (.cells cs false)=>some cs
 | _=>none
theorem csAt_ok {b:Nat} {hp:List Ob} {cs:List LV} (h:csAt b hp=some cs):∃f,hp[b]? =some (.cells cs f):=by
 unfold csAt at h
 grind
theorem csAtF_ok {b:Nat} {hp:List Ob} {cs:List LV} (h:csAtF b hp=some cs):hp[b]? =some (.cells cs false):=by
 unfold csAtF at h
 grind
noncomputable def appZ (P:Program) (T:Tab) (G:Globs) (m:Nat) (z:Z):Option ((List LV×Nat×Nat×List LV×Nat)×Nat):=match opW T (advZ P T G m z) with
 | some (o,ρ,h)=>match bldPos o.pos with
  | true=>none
  | false=>match o.op with
   | .call {callee:= .builtin .append,args,argTypes}=>match args.toList.map ρ,(argTypes[0]?).bind T.und,(argTypes[1]?).bind T.und with
    | [.v (.one (.lsl b 0 k s)),.v (.one (.lsl b2 0 1 s2))],some (.slice e),some (.slice e2)=>match T.info e,zeroOf T e with
     | some i,some zero=>match Nat.beq i.size s,Nat.beq zero.length s,Nat.beq s2 s && Nat.beq e2 e,Nat.blt 0 s with
      | true,true,true,true=>match csAtF b h,csAt b2 h with
       | some old,some new=>some ((old,k,s,new,i.bytes),b)
       | _,_=>none
      | _,_,_,_=>none
     | _,_=>none
    | _,_,_=>none
   | _=>none
 | none=>none
noncomputable def appB (P:Program) (T:Tab) (G:Globs) (m:Nat) (z:Z):Nat:=match appZ P T G m z with
 | some (_,b)=>b
 | none=>0
theorem FX.app [TOk P T] (hwf:WFP T) (m:Nat) {α:Type} (enc:α→List PV) (L:List α) (a:α) (y:Nat) {s:Nat} [Wid enc s] (hr:(L.length+1)*y≤17592186044416) (hr2:L.length+1≤17592186044416) (h:(appZ P T G m z).map (·.1)=some (pc (L.flatMap enc),L.length,s,pc (enc a),y))
  (hf:FX P T G n fn (nxZ P T G m z (.v (.one (.lsl (hsZ P T G m z).length 0 (L++[a]).length s))) ((hsZ P T G m z).set (appB P T G m z) .gone++[.cells (pc ((L++[a]).flatMap enc)) false])) Q):FX P T G n fn z Q:=by
 unfold appB at hf;cases ha:appZ P T G m z with
 | none=>simp_all
 | some q=>
  rw [ha] at h hf;simp only [Option.map_some,Option.some.injEq] at h;obtain ⟨q1,b⟩:=q;simp only at h hf;subst h;unfold appZ at ha;split at ha
  ·rename_i o ρ hs ho;have e:hsZ P T G m z=hs:=by unfold hsZ;rw [ho]
   rw [e] at hf;refine FX.opG hwf m ho ?_ hf;obtain ⟨dst,op,ty,pos,after,guard⟩:=o;simp only at ha;split at ha
   ·simp at ha
   ·rename_i hpos;split at ha
    ·split at ha
     ·rename_i args ats hargs hT hX;split at ha
      ·rename_i i zero hi hzero;split at ha
       ·rename_i h1 h2 h3 h4;split at ha
        ·rename_i old new ho1 ho2;simp only [Option.some.injEq,Prod.mk.injEq] at ha;obtain ⟨⟨rfl,rfl,rfl,rfl,rfl⟩,rfl⟩:=ha;have e1:=Nat.eq_of_beq_eq_true h1;have e2:=Nat.eq_of_beq_eq_true h2;rw [Bool.and_eq_true] at h3;have e3:=Nat.eq_of_beq_eq_true h3.1;have e5:=Nat.eq_of_beq_eq_true h3.2;subst e3 e5;obtain ⟨fz,hb2⟩:=csAt_ok ho2;simp only [opA,hpos];rw [hargs];exact append_L1 hT hX hi hzero e1 (e2.trans e1.symm) (csAtF_ok ho1) hb2 rfl Wid.h rfl (by simpa using h4) hr hr2
        ·simp at ha
       ·simp at ha
      ·simp at ha
     ·simp at ha
    ·simp at ha
  ·simp at ha
def setZ (c:Nat) (r:RV):Z→Z
 | .s td st=> .s td ⟨st.regs.set c r,st.hp⟩
 | .r ops Ms ws l td st=> .r ops Ms ws l td ⟨st.regs.set c r,st.hp⟩
def setO (b:Nat) (x:Ob):Z→Z
 | .s td st=> .s td ⟨st.regs,st.hp.set b x⟩
 | .r ops Ms ws l td st=> .r ops Ms ws l td ⟨st.regs,st.hp.set b x⟩
theorem set_self {α:Type} {l:List α} {c:Nat} {r:α} (h:l[c]? =some r):l.set c r=l:=by
 apply List.ext_getElem?
 grind
theorem FX.reg [TOk P T] (hwf:WFP T) (m c:Nat) {α:Type} {x y:α} (e:x=y) (f:α→RV) (h:(stZ (advZ P T G m z)).regs[c]? =some (f x)) (hf:FX P T G n fn (setZ c (f y) (advZ P T G m z)) Q):FX P T G n fn z Q:=by
 subst e;refine FX.adv hwf m ?_;have:setZ c (f x) (advZ P T G m z)=advZ P T G m z:=by
  generalize advZ P T G m z=z' at h;cases z'<;>(simp only [stZ] at h;simp only [setZ,set_self h])
 simp_all
theorem FX.obj [TOk P T] (hwf:WFP T) (m b:Nat) {α:Type} {x y:α} (e:x=y) (f:α→Ob) (h:(stZ (advZ P T G m z)).hp[b]? =some (f x)) (hf:FX P T G n fn (setO b (f y) (advZ P T G m z)) Q):FX P T G n fn z Q:=by
 subst e;refine FX.adv hwf m ?_;have:setO b (f x) (advZ P T G m z)=advZ P T G m z:=by
  generalize advZ P T G m z=z' at h;cases z'<;>(simp only [stZ] at h;simp only [setO,set_self h])
 simp_all
theorem FX.br [TOk P T] (hwf:WFP T) (m c:Nat) (p:Prop) [Decidable p] (h:(stZ (advZ P T G m z)).regs[c]? =some (.v (.one (.p (.vl (.bool (decide p))))))) (h1:p→FX P T G n fn (setZ c (.v (.one (.p (.vl (.bool true))))) (advZ P T G m z)) Q) (h2:¬p→FX P T G n fn (setZ c (.v (.one (.p (.vl (.bool false))))) (advZ P T G m z)) Q):FX P T G n fn z Q:=by
 by_cases hp:p
 ·exact FX.reg hwf m c (decide_eq_true hp) (fun v=> .v (.one (.p (.vl (.bool v))))) h (h1 hp)
 ·exact FX.reg hwf m c (decide_eq_false hp) (fun v=> .v (.one (.p (.vl (.bool v))))) h (h2 hp)
noncomputable def callZ1 (T:Tab):Z→Option (FuncId×List RV×List Nat)
 | .s td st=>match callAt td st with
  | some (g,ags,ts,_,_)=>some (g,ags,ts)
  | none=>none
 | .r ops Ms ws (i::_) _ st=>match callU T ops i st with
  | some (g,ags,ts,_)=>match nthL Ms i,ts with
   | [],ts=>some (g,ags,ts)
   | _,[]=>some (g,ags,[])
   | _,_=>none
  | none=>none
 | _=>none
noncomputable def callN1 (T:Tab) (z:Z) (r:RV) (ts:List Nat):Z:=match z with
 | .s td st=>match callAt td st with
  | some (_,_,_,dst,td')=> .s td' ⟨putR st.regs dst r,match ts with
   | []=>st.hp
   | _=>match scalarR r with
    | true=>st.hp
    | false=>fzObs ts st.hp⟩
  | none=>z
 | .r ops Ms ws (i::is) td st=>match callU T ops i st with
  | some (_,_,_,dst)=> .r ops Ms ws is td ⟨putR st.regs dst r,match ts with
   | []=>st.hp
   | _=>match scalarR r with
    | true=>st.hp
    | false=>fzObs ts st.hp⟩
  | none=>z
 | z=>z
theorem fz_match (ts:List Nat) (r:RV) (hp:List Ob):(match ts with
   | []=>hp
   | _=>match scalarR r with
    | true=>hp
    | false=>fzObs ts hp)=if scalarR r then hp else fzObs ts hp:=by
 cases ts with
 | nil=>cases scalarR r<;>rfl
 | cons t ts=>grind
theorem FX.call1 [TOk P T] (hwf:WFP T) {g:FuncId} {ags:List RV} {ts:List Nat} {F:RV→Prop} (hv:ValC P G g ags F) (h:callZ1 T z=some (g,ags,ts)) (hf:∀r,F r→FX P T G n fn (callN1 T z r ts) Q):FX P T G n fn z Q:=by
 unfold callZ1 at h;split at h
 ·split at h
  ·rename_i g' ags' ts' dst td' hc;simp at h;obtain ⟨rfl,rfl,rfl⟩:=h;refine Fin.callV hwf hc hv fun r hF _=> ?_;have:=hf r hF;simp only [callN1,hc,FX] at this;rw [fz_match] at this;exact this
  ·simp at h
 ·split at h
  ·rename_i ops Ms ws i is td st _ g' ags' ts' dst hc;have key:∀ts0,ts'=ts0→(nthL Ms i=[]∨ts0=[])→(∀r,F r→FX P T G n fn (callN1 T (.r ops Ms ws (i::is) td st) r ts0) Q)→g'=g→ags'=ags→FX P T G n fn (.r ops Ms ws (i::is) td st) Q:=by
    rintro ts0 rfl hor hf rfl rfl;refine DU.callV hc hv (fun r hF _=> ?_) hor;have:=hf r hF;simp only [callN1,hc,FX] at this;rw [fz_match] at this;exact this
   grind
  ·simp at h
 ·simp at h
noncomputable def callZ (P:Program) (T:Tab) (G:Globs) (m:Nat) (z:Z):Option (FuncId×List RV×List Nat):=callZ1 T (advZ P T G m z)
noncomputable def callNx (P:Program) (T:Tab) (G:Globs) (m:Nat) (z:Z) (r:RV) (ts:List Nat):Z:=callN1 T (advZ P T G m z) r ts
theorem FX.call [TOk P T] (hwf:WFP T) (m:Nat) {g:FuncId} {ags:List RV} {F:RV→Prop} (hv:ValC P G g ags F) (h:callZ P T G m z=some (g,ags,[])) (hf:∀r,F r→FX P T G n fn (callNx P T G m z r []) Q):FX P T G n fn z Q:=
 FX.adv hwf m (FX.call1 hwf hv h hf)
theorem FX.callT [TOk P T] (hwf:WFP T) (m:Nat) (ts:List Nat) {g:FuncId} {ags:List RV} {F:RV→Prop} (hv:ValC P G g ags F) (h:callZ P T G m z=some (g,ags,ts)) (hf:∀r,F r→FX P T G n fn (callNx P T G m z r ts) Q):FX P T G n fn z Q:=
 FX.adv hwf m (FX.call1 hwf hv h hf)
noncomputable def callRZ1 (T:Tab) (b:Nat):Z→Option (FuncId×List RV×List LV)
 | .s td st=>match callAtR b td st with
  | some (g,ags,cs,_,_)=>some (g,ags,cs)
  | none=>none
 | .r ops Ms ws (i::_) _ st=>match callUR T ops b i (nthL ws i) st,nthL Ms i with
  | some (g,ags,cs,_),[]=>some (g,ags,cs)
  | _,_=>none
 | _=>none
noncomputable def callRN1 (T:Tab) (b:Nat) (z:Z) (r:RV) (cs:List LV):Z:=match z with
 | .s td st=>match callAtR b td st with
  | some (_,_,_,dst,td')=> .s td' ⟨putR st.regs dst r,st.hp.set b (.cells cs false)⟩
  | none=>z
 | .r ops Ms ws (i::is) td st=>match callUR T ops b i (nthL ws i) st with
  | some (_,_,_,dst)=> .r ops Ms ws is td ⟨putR st.regs dst r,st.hp.set b (.cells cs false)⟩
  | none=>z
 | z=>z
noncomputable def callRZ (P:Program) (T:Tab) (G:Globs) (m b:Nat) (z:Z):Option (FuncId×List RV×List LV):=callRZ1 T b (advZ P T G m z)
noncomputable def callRN (P:Program) (T:Tab) (G:Globs) (m b:Nat) (z:Z) (r:RV) (cs:List LV):Z:=callRN1 T b (advZ P T G m z) r cs
theorem FX.callR [TOk P T] (hwf:WFP T) (m b:Nat) {g:FuncId} {ags:List RV} {cs:List LV} {F:RV→List LV→Prop} (hv:RefC P G g ags cs F) (h:callRZ P T G m b z=some (g,ags,cs)) (hf:∀r cs',F r cs'→FX P T G n fn (callRN P T G m b z r cs') Q):FX P T G n fn z Q:=by
 refine FX.adv hwf m ?_;unfold callRZ at h;unfold callRN at hf;generalize advZ P T G m z=z' at h hf;unfold callRZ1 at h;split at h
 ·split at h
  ·rename_i hc;simp at h;obtain ⟨rfl,rfl,rfl⟩:=h;refine Fin.callR hwf b hc hv fun r cs' hF _ _=> ?_;have:=hf r cs' hF;simp only [callRN1,hc,FX] at this;exact this
  ·simp at h
 ·split at h
  ·rename_i hc hM;simp at h;obtain ⟨rfl,rfl,rfl⟩:=h;refine DU.callR b hc hv (fun r cs' hF _ _=> ?_) hM;have:=hf r cs' hF;simp only [callRN1,hc,FX] at this;exact this
  ·simp at h
 ·simp at h
noncomputable def callLZ1 (T:Tab):Z→Option (FuncId×List RV)
 | .s td st=>match callAtL td st with
  | some (g,ags,_,_)=>some (g,ags)
  | none=>none
 | .r ops Ms ws (i::_) _ st=>match callUL T ops i st,nthL Ms i with
  | some (g,ags,_),[]=>some (g,ags)
  | _,_=>none
 | _=>none
noncomputable def callLN1 (T:Tab) (z:Z) (f:List Ob→RV×List Ob):Z:=match z with
 | .s td st=>match callAtL td st with
  | some (_,_,dst,td')=> .s td' ⟨putR st.regs dst (f st.hp).1,(f st.hp).2⟩
  | none=>z
 | .r ops Ms ws (i::is) td st=>match callUL T ops i st with
  | some (_,_,dst)=> .r ops Ms ws is td ⟨putR st.regs dst (f st.hp).1,(f st.hp).2⟩
  | none=>z
 | z=>z
noncomputable def callLZ (P:Program) (T:Tab) (G:Globs) (m:Nat) (z:Z):Option (FuncId×List RV):=callLZ1 T (advZ P T G m z)
noncomputable def callL0 (P:Program) (T:Tab) (G:Globs) (m:Nat) (z:Z):Z:=callLN1 T (advZ P T G m z) fun hp=>(.v (.one (.p (.vl (.slice none 0 0)))),hp)
noncomputable def callL1 (P:Program) (T:Tab) (G:Globs) (m s:Nat) (z:Z) (k:Nat) (cs:List LV):Z:=callLN1 T (advZ P T G m z) fun hp=>(.v (.one (.lsl hp.length 0 k s)),hp++[.cells cs false])
theorem FX.callL [TOk P T] (hwf:WFP T) (m:Nat) {g:FuncId} {ags:List RV} {s:Nat} {Q0:Prop} {F:Nat→List LV→Prop} (hv:LocC P G g ags s Q0 F) (h:callLZ P T G m z=some (g,ags)) (h0:Q0→FX P T G n fn (callL0 P T G m z) Q) (h1:∀k cs,F k cs→FX P T G n fn (callL1 P T G m s z k cs) Q):FX P T G n fn z Q:=by
 refine FX.adv hwf m ?_;unfold callLZ at h;unfold callL0 at h0;unfold callL1 at h1;generalize advZ P T G m z=z' at h h0 h1;unfold callLZ1 at h;split at h
 ·split at h
  ·rename_i hc;simp at h;obtain ⟨rfl,rfl⟩:=h;refine Fin.callL hwf hc hv (fun k0=> ?_) fun k cs hF=> ?_
   ·have:=h0 k0;simp only [callLN1,hc,FX] at this;exact this
   ·have:=h1 k cs hF;simp only [callLN1,hc,FX] at this;exact this
  ·simp at h
 ·split at h
  ·rename_i hc hM;simp at h;obtain ⟨rfl,rfl⟩:=h;refine DU.callL hc hv (fun k0=> ?_) (fun k cs hF=> ?_) hM
   ·have:=h0 k0;simp only [callLN1,hc,FX] at this;exact this
   ·have:=h1 k cs hF;simp only [callLN1,hc,FX] at this;exact this
  ·simp at h
 ·simp at h
noncomputable def drawZ (P:Program) (T:Tab) (G:Globs) (m:Nat) (Ms ws:List (List Nat)) (τ:List Nat) (z:Z):Bool:=match advZ P T G m z with
 | .s td _=>match drawAt td with
  | some (ops,_)=>statU T ops Ms ws τ
  | none=>false
 | _=>false
noncomputable def drawN (P:Program) (T:Tab) (G:Globs) (m:Nat) (Ms ws:List (List Nat)) (τ:List Nat) (z:Z):Z:=match advZ P T G m z with
 | .s td st=>match drawAt td with
  | some (ops,td')=> .r ops Ms ws τ td' st
  | none=>z
 | _=>z
theorem FX.draw [TOk P T] (hwf:WFP T) (hmix:P.follows .mixedOrders=true) (m:Nat) (Ms ws:List (List Nat)) (τ:List Nat) (h:drawZ P T G m Ms ws τ z=true) (hf:FX P T G n fn (drawN P T G m Ms ws τ z) Q):FX P T G n fn z Q:=by
 refine FX.adv hwf m ?_;unfold drawZ at h;unfold drawN at hf;split at h
 ·rename_i td st hz;rw [hz] at hf ⊢
  simp only at hf;split at h
  ·rename_i ops td' hd;rw [hd] at hf;exact Fin.drawU hwf hmix Ms ws τ hd h hf
  ·simp at h
 ·simp at h
def stOf (N:Nat) (p:List (Nat×RV)×List Ob) (J:Nat→RV):St:=⟨regsOf N p.1 J,p.2⟩
noncomputable def cutZ (P:Program) (T:Tab) (G:Globs) (m n:Nat) (keep:List Nat) (N:Nat) (L:List (Nat×RV)) (J:Nat→RV) (z:Z):Option (List Item×List RV):=match keepOk n keep with
 | true=>match advZ P T G m z with
  | .s td st=>match mixR (posOf n keep) J 0 (lvOf N (L.map (·.1))) st.regs with
   | some r=>some (td,r)
   | none=>none
  | _=>none
 | false=>none
theorem FX.cut [TOk P T] (hwf:WFP T) (m:Nat) (keep:List Nat) {N:Nat} {p:List (Nat×RV)×List Ob} {td:List Item} (hf:∀J,FX P T G n fn (.s td (stOf N p J)) Q) (hc:∀J,cutZ P T G m n keep N p.1 J z=some (td,regsOf N p.1 J)) (hh:renH n keep (hpZ P T G m z)=some p.2):FX P T G n fn z Q:=by
 refine FX.adv hwf m ?_;unfold cutZ at hc;unfold hpZ at hh;cases hk:keepOk n keep with
 | false=>have:=hc fun _=>undefR;simp_all
 | true=>
  rw [hk] at hc;simp only at hc;generalize advZ P T G m z=z' at hc hh;cases z' with
  | r _ _ _ _ _ _=>have:=hc fun _=>undefR;simp at this
  | s td0 st=>
   simp only [stZ] at hc hh;have key:∀J,td0=td∧mixR (posOf n keep) J 0 (lvOf N (p.1.map (·.1))) st.regs=some (regsOf N p.1 J):=by
    intro J;have:=hc J;split at this
    ·simp_all
    ·simp at this
   obtain ⟨rfl,_⟩:=key fun _=>undefR;refine Fin.abs (AbsP.ren keep (lvOf N (p.1.map (·.1))) hk hh (fun J=>(key J).2)) ?_;rintro st' ⟨J,rfl⟩;exact hf J
theorem FX.loop [TOk P T] (hwf:WFP T) (m:Nat) (keep:List Nat) (N:Nat) (td:List Item) {α:Type} (I:α→Prop) (μ:α→Nat) (s:α→List (Nat×RV)×List Ob) (x0:α) (hI:I x0) (hc:∀J,cutZ P T G m n keep N (s x0).1 J z=some (td,regsOf N (s x0).1 J)) (hh:renH n keep (hpZ P T G m z)=some (s x0).2)
  (h:∀x,I x→(∀x',I x'→μ x'<μ x→∀J,FX P T G n fn (.s td (stOf N (s x') J)) Q)→∀J,FX P T G n fn (.s td (stOf N (s x) J)) Q):FX P T G n fn z Q:=
 FX.cut hwf m keep (Fin.ind I μ (fun x J=>stOf N (s x) J) h x0 hI) hc hh
theorem FX.ind {N:Nat} {td:List Item} {α:Type} (I:α→Prop) (μ:α→Nat) (s:α→List (Nat×RV)×List Ob)
  (h:∀x,I x→(∀x',I x'→μ x'<μ x→∀J,FX P T G n fn (.s td (stOf N (s x') J)) Q)→∀J,FX P T G n fn (.s td (stOf N (s x) J)) Q):∀x,I x→∀J,FX P T G n fn (.s td (stOf N (s x) J)) Q:=
 Fin.ind I μ (fun x J=>stOf N (s x) J) h
theorem FX.out [TOk P T] (hwf:WFP T) (m:Nat) (keep:List Nat) (N:Nat) (td:List Item) (L:List (Nat×RV)) (hp:List Ob) (hc:∀J,cutZ P T G m n keep N L J z=some (td,regsOf N L J)) (hh:renH n keep (hpZ P T G m z)=some hp) (hf:∀J,Fin P G n fn td ⟨regsOf N L J,hp⟩ Q):FX P T G n fn z Q:=
 FX.cut hwf m keep (p:=(L,hp)) hf hc hh
theorem FX.inn {td:List Item} {st:St} (h:FX P T G n fn (.s td st) Q):Fin P G n fn td st Q:=h
noncomputable def fzReg (P:Program) (T:Tab) (G:Globs) (m d:Nat) (z:Z):Option RV:=match advZ P T G m z with
 | .s _ st=>st.regs[d]?
 | _=>none
noncomputable def fzN (P:Program) (T:Tab) (G:Globs) (m d:Nat) (r:RV) (ts:List Nat) (z:Z):Z:=match advZ P T G m z with
 | .s td st=> .s td ⟨st.regs.set d r,fzObs ts st.hp⟩
 | z=>z
theorem FX.fz [TOk P T] (hwf:WFP T) (m d:Nat) {r r':RV} {ts:List Nat} (hz:fzR (hpZ P T G m z) r=some (r',ts)) (hs:fzReg P T G m d z=some r) (hf:FX P T G n fn (fzN P T G m d r' ts z) Q):FX P T G n fn z Q:=by
 refine FX.adv hwf m ?_;unfold hpZ at hz;unfold fzReg at hs;unfold fzN at hf;generalize advZ P T G m z=z' at hz hs hf;cases z' with
 | r _ _ _ _ _ _=>simp at hs
 | s td st=>exact Fin.freeze (T:=T) d hs hz hf
theorem fzObs_out {b:Nat}:∀(ts:List Nat) (L:List Ob),ts.contains b=false→(fzObs ts L)[b]? =L[b]?
 | [],L,_=>rfl
 | t::ts,L,h=>by
  simp only [List.contains_cons,Bool.or_eq_false_iff,beq_eq_false_iff_ne] at h;show (fzObs ts (match L[t]? with | some o=>L.set t (fzOb o) | none=>L))[b]? =L[b]?;rw [fzObs_out ts _ h.2]
  grind
noncomputable def fzCel (P:Program) (T:Tab) (G:Globs) (m b j:Nat) (ts:List Nat) (z:Z):Option LV:=match advZ P T G m z with
 | .s _ st=>match ts.contains b with
  | false=>match st.hp[b]? with
   | some (.cells cs _)=>cs[j]?
   | _=>none
  | true=>none
 | _=>none
noncomputable def fzON (P:Program) (T:Tab) (G:Globs) (m b j:Nat) (y:PV) (ts:List Nat) (z:Z):Z:=match advZ P T G m z with
 | .s td st=>match st.hp[b]? with
  | some (.cells cs fz)=> .s td ⟨st.regs,(fzObs ts st.hp).set b (.cells (cs.set j (.p y)) fz)⟩
  | _=>z
 | _=>z
theorem FX.fzO [TOk P T] (hwf:WFP T) (m b j:Nat) {x:LV} {y:PV} {ts:List Nat} (hz:fzL (hpZ P T G m z) 12 x=some (y,ts)) (hs:fzCel P T G m b j ts z=some x) (hf:FX P T G n fn (fzON P T G m b j y ts z) Q):FX P T G n fn z Q:=by
 refine FX.adv hwf m ?_;unfold hpZ at hz;unfold fzCel at hs;unfold fzON at hf;split at hs
 ·rename_i td st hz';rw [hz'] at hf hz ⊢
  simp only [stZ] at hf hz;split at hs
  ·rename_i hb;split at hs
   ·rename_i cs fz hcs;rw [hcs] at hf;exact Fin.freezeO (T:=T) b j hcs (by rw [fzObs_out ts _ hb];exact hcs) hs hz rfl rfl hf
   ·simp at hs
  ·simp at hs
 ·simp at hs
noncomputable def resZ (P:Program) (T:Tab) (G:Globs) (m:Nat) (f:Func) (z:Z):Option RV:=match advZ P T G m z with
 | .s td st=>match isEnd td with
  | true=>resultsR T G f st
  | false=>none
 | _=>none
theorem FX.res [TOk P T] (hwf:WFP T) (m:Nat) {f:Func} {r:RV} (h:resZ P T G m f z=some r) (hq:∀st,resultsR T G f st=some r→st.hp=hpZ P T G m z→Q st):FX P T G n fn z Q:=by
 refine FX.adv hwf m ?_;unfold resZ at h;unfold hpZ at hq;generalize advZ P T G m z=z' at h hq;cases z' with
 | r _ _ _ _ _ _=>simp at h
 | s td st=>
  simp only at h;split at h
  ·rename_i he;exact Fin.fin he (hq st h rfl)
  ·simp at h
noncomputable def endZ (P:Program) (T:Tab) (G:Globs) (m:Nat) (f:Func) (z:Z):Option RV:=match resZ P T G m f z with
 | some r=>match fzR (hpZ P T G m z) r with
  | some (r',_)=>some r'
  | none=>none
 | none=>none
theorem FX.fin [TOk P T] (hwf:WFP T) (m:Nat) {f:Func} (r:RV) {Q':RV→Prop} (h:endZ P T G m f z=some r) (hq:Q' r):FX P T G n fn z fun st=>∃r,resultsR T G f st=some r∧∃r' ts,fzR st.hp r=some (r',ts)∧Q' r':=by
 unfold endZ at h;split at h
 ·rename_i r0 h0;split at h
  ·rename_i r' ts hz;simp at h;subst h;exact FX.res hwf m h0 fun st h1 h2=>⟨r0,h1,r',ts,by simp_all,hq⟩
  ·simp at h
 ·simp at h
theorem FX.finF [TOk P T] (hwf:WFP T) (m:Nat) {f:Func} (r:RV) {r':RV} {ts:List Nat} {Q':RV→Prop} (h:resZ P T G m f z=some r) (hz:fzR (hpZ P T G m z) r=some (r',ts)) (hq:Q' r'):FX P T G n fn z fun st=>∃r,resultsR T G f st=some r∧∃r' ts,fzR st.hp r=some (r',ts)∧Q' r':=
 FX.res hwf m h fun st h1 h2=>⟨r,h1,r',ts,by simp_all,hq⟩
theorem FX.finR [TOk P T] (hwf:WFP T) (m:Nat) {f:Func} (r:RV) (cs:List LV) {r':RV} {ts:List Nat} {Q':RV→List LV→Prop} (h:resZ P T G m f z=some r) (hz:fzR (hpZ P T G m z) r=some (r',ts)) (h0:ts.contains 0=false) (hc:(hpZ P T G m z)[0]? =some (.cells cs false)) (hp:cs.all persL=true) (hq:Q' r' cs):
  FX P T G n fn z fun st=>∃r,resultsR T G f st=some r∧∃r' ts cs',fzR st.hp r=some (r',ts)∧0∉ts∧st.hp[0]? =some (.cells cs' false)∧cs'.all persL=true∧Q' r' cs':=
 FX.res hwf m h fun st h1 h2=>⟨r,h1,r',ts,cs,by simp_all,by simpa using h0,by simp_all,hp,hq⟩
theorem FX.finN [TOk P T] (hwf:WFP T) (m:Nat) {f:Func} {s:Nat} {Q0:Prop} {Q':Nat→List LV→Prop} (h:resZ P T G m f z=some (.v (.one (.p (.vl (.slice none 0 0)))))) (hq:Q0):
  FX P T G n fn z fun st=>∃r,resultsR T G f st=some r∧((r= .v (.one (.p (.vl (.slice none 0 0))))∧Q0)∨∃n cs j,r= .v (.one (.lsl j 0 n s))∧st.hp[j]? =some (.cells cs false)∧cs.all persL=true∧Q' n cs):=
 FX.res hwf m h fun st h1 h2=>⟨_,h1,.inl ⟨rfl,hq⟩⟩
theorem FX.finL [TOk P T] (hwf:WFP T) (m:Nat) {f:Func} {s:Nat} {Q0:Prop} {Q':Nat→List LV→Prop} (k j:Nat) (cs:List LV) (h:resZ P T G m f z=some (.v (.one (.lsl j 0 k s)))) (hc:(hpZ P T G m z)[j]? =some (.cells cs false)) (hp:cs.all persL=true) (hq:Q' k cs):
  FX P T G n fn z fun st=>∃r,resultsR T G f st=some r∧((r= .v (.one (.p (.vl (.slice none 0 0))))∧Q0)∨∃n cs j,r= .v (.one (.lsl j 0 n s))∧st.hp[j]? =some (.cells cs false)∧cs.all persL=true∧Q' n cs):=
 FX.res hwf m h fun st h1 h2=>⟨_,h1,.inr ⟨k,cs,j,rfl,by simp_all,hp,hq⟩⟩
theorem FX.finA [TOk P T] (hwf:WFP T) (m:Nat) {f:Func} (r:RV) (hp:List Ob) {Q':RV→List Ob→Prop} (h:resZ P T G m f z=some r) (hh:hpZ P T G m z=hp) (hq:Q' r hp):FX P T G n fn z fun st=>∃r,resultsR T G f st=some r∧Q' r st.hp:=
 FX.res hwf m h fun st h1 h2=>⟨r,h1,by simp_all⟩
end
attribute [irreducible] FX advZ opZ hsZ nxZ hpZ lenZ idxZ ldZ byZ appZ appB setZ setO callZ callNx callRZ callRN callLZ callL0 callL1 drawZ drawN cutZ fzReg fzN fzCel fzON resZ endZ
end Go.Sx
