/- A part of the proof of MeaningEmpty. -/
import Derived.Test.YtgnjilecndiffaaGreatDoorP8
set_option linter.all false
set_option maxRecDepth 1000000
set_option maxHeartbeats 0
namespace Go.Sx
def Upon (W:List Nat) (hp hp':List Ob):Prop:=Up (msk W hp) hp'
theorem Upon.refl {W:List Nat} {hp:List Ob}:Upon W hp hp:=Up.msk W hp
theorem Upon.mask {W M:List Nat} {hp hp':List Ob} (h:Upon W hp hp') (hs:∀b∈W,b∈M):Up (msk M hp) (msk M hp'):=by
 intro b x hb hx;obtain ⟨hm,hx2⟩:=msk_some hb hx;have hw:b∉W:=fun h'=>hm (hs b h');obtain ⟨y,hy,hl⟩:=h b x (by rw [msk_out hw];exact hx2) hx;exact ⟨y,by rw [msk_out hm];exact hy,hl⟩
section
variable {P:Program} {T:Tab} {G:Globs} {ops:Array Oper} {M wr:Nat→List Nat} {Q:St→Prop}
def QStep (P:Program) (T:Tab) (G:Globs) (ops:Array Oper) (M:Nat→List Nat) (j:Nat) (o:Oper) (st:St) (r:RV):Prop:=
 (wantedR ops st.regs o=some false∧r=undefR)∨(wantedR ops st.regs o=some true∧goodO o=true∧callOf o.op=none∧isQuiet (kindOp T o.op)=true∧opA P T G (evR st.regs) o (msk (M j) st.hp)=some (r,msk (M j) st.hp))
def opR (P:Program) (T:Tab) (G:Globs) (o:Oper) (st:St) (K:RV→List Ob→Prop):Prop:=
 goodO o=true∧match callOf o.op with
 | some (f,args)=>∃c as,calOf (evR st.regs f) (args.map (evR st.regs))=some (c,as)∧CalOk P G c as st.hp K
 | none=>∃r hp',opA P T G (evR st.regs) o st.hp=some (r,hp')∧(K r hp'∨∃d r' ts,o.dst=some d∧d<st.regs.length∧fzR hp' r=some (r',ts)∧K r' (fzObs ts hp'))
def Fz (K:St→Prop) (st:St):Prop:=K st∨∃d r r' ts,st.regs[d]? =some r∧fzR st.hp r=some (r',ts)∧K ⟨st.regs.set d r',fzObs ts st.hp⟩
theorem freezeRel [TOk P T] {A:Nat→Prop} {S:Where} {w:World} {t:Array Value} {st:St} {d:Nat} {r r':RV} {ts:List Nat} (hs:Sim G A S st.hp w) (hrs:RelRs A S w st.regs t) (hr:st.regs[d]? =some r) (hz:fzR st.hp r=some (r',ts)):
  RelRs (Aplus A S ts) S w (st.regs.set d r') t∧Sim G (Aplus A S ts) S (fzObs ts st.hp) w∧Ext A S st.hp w (Aplus A S ts) S (fzObs ts st.hp) w:=by
 have hc:=fzR_cells hz;have hx:=Ext.freeze hs hc;have h1:=hs.relRs hx hrs;refine ⟨⟨by simpa using h1.1,fun i x hi=> ?_⟩,hs.freeze hc,hx⟩
 by_cases e:d=i
 ·subst e;obtain ⟨v,hv,hrel⟩:=hrs.2 d r hr;have hl:d<st.regs.length:=(List.getElem?_eq_some_iff.1 hr).1;simp [hl] at hi;subst hi;exact ⟨v,hv,fzR_enc (S':=S) hs hz hrel⟩
 ·rw [List.getElem?_set_ne e] at hi;exact h1.2 i x hi
theorem opR.toK {o:Oper} {st:St} {K:RV→List Ob→Prop} {K':St→Prop} (h:opR P T G o st K) (hk:∀r hp,K r hp→K' ⟨putR st.regs o.dst r,hp⟩):opK P T G (CalOk P G) o st (Fz K'):=by
 obtain ⟨hg,h⟩:=h;cases hc:callOf o.op with
 | none=>
  simp only [hc] at h;obtain ⟨r,hp',h1,h2 | ⟨d,r',ts,hd,hlt,hz,h2⟩⟩:=h
  ·exact opK_plain hg hc h1 (.inl (hk _ _ h2))
  ·refine opK_plain hg hc h1 (.inr ⟨d,r,r',ts,by simp [putR,hd,hlt],hz,?_⟩);have:=hk _ _ h2
   simpa [putR,hd] using this
 | some fa=>
  obtain ⟨f,args⟩:=fa;simp only [hc] at h;obtain ⟨c,as,h1,h2⟩:=h;exact opK_call hg hc h1 (h2.mono fun r hp k=> .inl (hk r hp k))
def DU (P:Program) (T:Tab) (G:Globs) (ops:Array Oper) (M wr:Nat→List Nat) (Q:St→Prop):List Nat→St→Prop
 | [],st=>Q st
 | i::is,st=>∃o,ops[i]? =some o∧((∃r,QStep P T G ops M i o st r∧DU P T G ops M wr Q is ⟨putR st.regs o.dst r,st.hp⟩)∨
   (wantedR ops st.regs o=some true∧isQuiet (kindOp T o.op)=false∧(callOf o.op=none∨M i=[])∧opR P T G o st fun r hp'=>Upon (wr i) st.hp hp'∧DU P T G ops M wr Q is ⟨putR st.regs o.dst r,hp'⟩)∨
   (wantedR ops st.regs o=some true∧isQuiet (kindOp T o.op)=false∧goodO o=true∧∃f args g as as' F,callOf o.op=some (f,args)∧calOf (evR st.regs f) (args.map (evR st.regs))=some (.fn g,as)∧fzRs st.hp as=some (as',[])∧ValC P G g as' F∧∀r,F r→persR r=true→DU P T G ops M wr Q is ⟨putR st.regs o.dst r,st.hp⟩))
def StepU (P:Program) (T:Tab) (G:Globs) (ops:Array Oper) (o:Oper) (st:St) (K:RV→List Ob→Prop):Prop:=
 (wantedR ops st.regs o=some false∧K undefR st.hp)∨(wantedR ops st.regs o=some true∧opR P T G o st K)
theorem opR.mono {o:Oper} {st:St} {K K':RV→List Ob→Prop} (h:opR P T G o st K) (hk:∀r hp,K r hp→K' r hp):opR P T G o st K':=by
 obtain ⟨hg,h⟩:=h;refine ⟨hg,?_⟩;cases hc:callOf o.op with
 | none=>
  grind
 | some fa=>
  obtain ⟨f,args⟩:=fa;simp only [hc] at h ⊢
  obtain ⟨c,as,h1,h2⟩:=h;exact ⟨c,as,h1,h2.mono hk⟩
theorem StepU.mono {o:Oper} {st:St} {K K':RV→List Ob→Prop} (h:StepU P T G ops o st K) (hk:∀r hp,K r hp→K' r hp):StepU P T G ops o st K':=by
 rcases h with ⟨h1,h2⟩ | ⟨h1,h2⟩
 ·exact .inl ⟨h1,hk _ _ h2⟩
 ·exact .inr ⟨h1,h2.mono hk⟩
theorem opR.regs {o:Oper} {regs regs':List RV} {hp:List Ob} {K:RV→List Ob→Prop} (hl:regs'.length=regs.length) (hx:∀x∈o.op.operands,evR regs x=evR regs' x) (h:opR P T G o ⟨regs,hp⟩ K):opR P T G o ⟨regs',hp⟩ K:=by
 have hA:=opA_congr (P:=P) (T:=T) (G:=G) (o:=o) (ρ:=evR regs) (ρ':=evR regs') hx hp;obtain ⟨hg,h⟩:=h;refine ⟨hg,?_⟩;cases hc:callOf o.op with
 | none=>
  simp_all
 | some fa=>
  obtain ⟨f,args⟩:=fa;simp only [hc] at h ⊢
  obtain ⟨m1,m2⟩:=callOf_mem hc;have e1:args.map (evR regs)=args.map (evR regs'):=List.map_congr_left fun x hx'=>hx x (m2 x hx')
  simp_all
theorem StepU.regs {o:Oper} {regs regs':List RV} {hp:List Ob} {K:RV→List Ob→Prop} (hl:regs'.length=regs.length) (hw:wantedR ops regs' o=wantedR ops regs o) (hx:∀x∈o.op.operands,evR regs x=evR regs' x) (h:StepU P T G ops o ⟨regs,hp⟩ K):StepU P T G ops o ⟨regs',hp⟩ K:=by
 rcases h with ⟨h1,h2⟩ | ⟨h1,h2⟩
 ·exact .inl ⟨hw.trans h1,h2⟩
 ·exact .inr ⟨hw.trans h1,h2.regs hl hx⟩
theorem QStep.move {j:Nat} {o:Oper} {regs regs':List RV} {hp hp':List Ob} {r:RV} (hw:wantedR ops regs' o=wantedR ops regs o) (hx:∀x∈o.op.operands,evR regs x=evR regs' x) (hu:Up (msk (M j) hp) (msk (M j) hp'))
  (h:QStep P T G ops M j o ⟨regs,hp⟩ r):QStep P T G ops M j o ⟨regs',hp'⟩ r:=by
 rcases h with ⟨h1,h2⟩ | ⟨h1,h2,h3,h4,h5⟩
 ·exact .inl ⟨hw.trans h1,h2⟩
 ·refine .inr ⟨hw.trans h1,h2,h3,h4,?_⟩;have hA:=opA_congr (P:=P) (T:=T) (G:=G) (o:=o) (ρ:=evR regs) (ρ':=evR regs') hx;rw [← hA];cases hk:kindOp T o.op with
  | mute=>exact (mute_inv hk h5).2 _
  | read=>exact (read_inv hk h5).2 _ hu
  | call=>simp [hk,isQuiet] at h4
  | alloc=>simp [hk,isQuiet] at h4
  | other=>simp [hk,isQuiet] at h4
theorem QStep.toU {j:Nat} {o:Oper} {st:St} {r:RV} {K:RV→List Ob→Prop} (h:QStep P T G ops M j o st r) (hk:K r st.hp):StepU P T G ops o st K:=by
 rcases h with ⟨h1,h2⟩ | ⟨h1,h2,h3,h4,h5⟩
 ·subst h2;exact .inl ⟨h1,hk⟩
 ·refine .inr ⟨h1,h2,?_⟩;simp only [h3];refine ⟨r,st.hp,?_,.inl hk⟩;cases hk:kindOp T o.op with
  | mute=>exact (mute_inv hk h5).2 _
  | read=>exact (read_inv hk h5).2 _ (Up.msk _ _)
  | call=>simp [hk,isQuiet] at h4
  | alloc=>simp [hk,isQuiet] at h4
  | other=>simp [hk,isQuiet] at h4
theorem upon_push {W:List Nat} {hp l:List Ob}:Upon W hp (hp++l):=by
 intro k x hk hx;obtain ⟨h1,h2⟩:=msk_some hk hx;have hl:=(List.getElem?_eq_some_iff.1 h2).1;exact ⟨x,by grind,.inl rfl⟩
theorem Upon.up0 {hp hp':List Ob} (h:Upon [] hp hp'):Up hp hp':=by
 intro k x hk hx;exact h k x (by rw [msk_out (by simp)];exact hk) hx
structure PairU (ops:Array Oper) (T:Tab) (M wr:Nat→List Nat) (j i:Nat):Prop where
 quiet:(∀o,ops[j]? =some o→isQuiet (kindOp T o.op)=true)∨(M j≠[]∧(∀o,ops[j]? =some o→callOf o.op≠none)∧∃oi t cs,ops[i]? =some oi∧oi.guard=none∧oi.op= .alloc t∧zeroOf T t=some cs∧T.trk t=false)
 ji:∀o o' k,ops[j]? =some o→ops[i]? =some o'→o.dst=some k→k∉usesOp ops o'
 ij:∀o o' k,ops[j]? =some o→ops[i]? =some o'→o'.dst=some k→k∉usesOp ops o
 dd:∀o o' k,ops[j]? =some o→ops[i]? =some o'→o.dst=some k→o'.dst≠some k
 wr:∀b∈wr i,b∈M j
theorem DU.front {i:Nat} {oi:Oper} (hoi:ops[i]? =some oi):∀{s t:List Nat} {st:St},(∀j∈s,PairU ops T M wr j i)→DU P T G ops M wr Q (s++i::t) st→
  StepU P T G ops oi st fun r hp'=>Upon (wr i) st.hp hp'∧DU P T G ops M wr Q (s++t) ⟨putR st.regs oi.dst r,hp'⟩
 | [],t,st,_,h=>by
  obtain ⟨o,ho,h⟩:=h;rw [hoi] at ho;simp at ho;subst ho
  rcases h with ⟨r,h1,h2⟩ | ⟨h1,_,_,h2⟩ | ⟨h1,_,hg,f,args,g,as,as',F,hc,hcal,hz,hv,hd⟩
  ·exact h1.toU ⟨Upon.refl,h2⟩
  ·exact .inr ⟨h1,h2⟩
  ·refine .inr ⟨h1,hg,?_⟩;simp only [hc]
   exact ⟨_,_,hcal,CalOk.of_val hz hv fun r hr hp=>by
    have e:(if scalarR r then st.hp else fzObs [] st.hp)=st.hp:=by split<;>rfl
    rw [e];exact ⟨Upon.refl,hd r hr hp⟩⟩
 | j::s,t,st,hs,h=>by
  obtain ⟨oj,hoj,h⟩:=h;have hp:=hs j (by simp)
  rcases h with ⟨rj,h1,h2⟩ | ⟨h1,h2,h3,_⟩ | ⟨h1,h2,hg,f,args,g,as,as',F,hc,hcal,hz,hv,hd⟩
  ·have ih:=DU.front hoi (s:=s) (t:=t) (fun k hk=>hs k (List.mem_cons_of_mem _ hk)) h2;have hdj:∀k,oj.dst=some k→k∉usesOp ops oi:=fun k hk=>hp.ji oj oi k hoj hoi hk;have hdi:∀k,oi.dst=some k→k∉usesOp ops oj:=fun k hk=>hp.ij oj oi k hoj hoi hk;have ih':=StepU.regs (regs':=st.regs) (by cases oj.dst<;>simp [putR]) (wantedR_put (r:=rj) (regs:=st.regs) hdj).symm (evR_uses (r:=rj) (regs:=st.regs) hdj) ih;refine ih'.mono fun r hp' ⟨k1,k2⟩=>⟨k1,oj,hoj,.inl ⟨rj,?_,?_⟩⟩
   ·exact QStep.move (regs:=st.regs) (hp:=st.hp) (wantedR_put hdi) (fun x hx=>(evR_uses hdi x hx).symm) (k1.mask hp.wr) h1
   ·have e:=putR_comm (regs:=st.regs) (r:=rj) (r':=r) (d:=oj.dst) (d':=oi.dst) (fun k hk=>hp.dd oj oi k hoj hoi hk)
    simp_all
  ·rcases hp.quiet with hq | ⟨hM,hcn,_⟩
   all_goals simp_all
  ·rcases hp.quiet with hq | ⟨hM,hcn,oi',tt,cs,hoi',hgu,hop,hzo,htk⟩
   ·simp_all
   ·rw [hoi] at hoi';simp at hoi';subst hoi';have hA:∀(ρ:Operand→RV) (hp:List Ob),opA P T G ρ oi hp=some (.v (.one (.ref hp.length 0)),hp++[.cells cs false]):=by
     intro ρ hp;unfold opA;simp only [hop,htk,allocA,hzo]
    have hco:callOf oi.op=none:=by rw [hop];rfl
    have hgo:goodO oi=true:=by unfold goodO;rw [hop];rfl
    have hdi:∀k,oi.dst=some k→k∉usesOp ops oj:=fun k hk=>hp.ij oj oi k hoj hoi hk;obtain ⟨m1,m2⟩:=callOf_mem hc;refine .inr ⟨by unfold wantedR;rw [hgu],hgo,?_⟩;simp only [hco];refine ⟨_,_,hA _ _,.inl ⟨upon_push,oj,hoj,.inr (.inr ⟨(wantedR_put hdi).trans h1,h2,hg,f,args,g,as,as',F,hc,?_,?_,hv,fun r hr hpr=> ?_⟩)⟩⟩
    ·have e1:args.map (evR (putR st.regs oi.dst (.v (.one (.ref st.hp.length 0)))))=args.map (evR st.regs):=List.map_congr_left fun x hx'=>evR_uses hdi x (m2 x hx');rw [e1,evR_uses hdi f m1];exact hcal
    ·exact fzRs_up (Upon.up0 upon_push) hz
    ·have ih:=DU.front hoi (s:=s) (t:=t) (fun k hk=>hs k (List.mem_cons_of_mem _ hk)) (hd r hr hpr)
     rcases ih with ⟨k1,_⟩ | ⟨_,_,ih⟩
     ·exfalso;unfold wantedR at k1;simp_all
     ·simp only [hco] at ih;obtain ⟨rr,hh,e1,e2⟩:=ih;rw [hA] at e1;simp only [Option.some.injEq,Prod.mk.injEq] at e1;obtain ⟨rfl,rfl⟩:=e1
      rcases e2 with ⟨_,e2⟩ | ⟨_,_,_,_,_,e3,_⟩
      ·have e:=putR_comm (regs:=st.regs) (r:=r) (r':= .v (.one (.ref st.hp.length 0))) (d:=oj.dst) (d':=oi.dst) (fun k hk=>hp.dd oj oi k hoj hoi hk)
       simp_all
      ·simp [fzR,fzW,fzL] at e3
def AnyU (P:Program) (T:Tab) (G:Globs) (ops:Array Oper) (Q:St→Prop):Nat→Array Bool→St→Prop
 | 0,listed,st=>Q st
 | n+1,listed,st=>(Region.ready .any ops listed=[]→Q st)∧
  ∀i∈Region.ready .any ops listed,∃o,ops[i]? =some o∧StepU P T G ops o st fun r hp'=>AnyU P T G ops Q n (listed.setIfInBounds i true) ⟨putR st.regs o.dst r,hp'⟩
theorem AnyU.sound [TOk P T] (hwf:WFP T) {b:Frame} {k:List Item} {cs:List Frame}:
  ∀(fuel r:Nat) (listed:Array Bool) (st:St) {A:Nat→Prop} {S:Where} {w:World} {t:Array Value},Sim G A S st.hp w→RelRs A S w st.regs t→AnyU P T G ops Q fuel listed st→
  ∃st' t' A' S' w',Q st'∧Steps P (lone (Fr b t (.inRegion ops (Region.linearise.go .any ops fuel r listed [])::k)) cs w) (lone (Fr b t' k) cs w')∧RelRs A' S' w' st'.regs t'∧Sim G A' S' st'.hp w'∧Ext A S st.hp w A' S' st'.hp w'
 | 0,r,listed,st,A,S,w,t,hs,hr,h=>by
  refine ⟨st,t,A,S,w,h,?_,hr,hs,Ext.refl⟩;simp only [Region.linearise.go,List.reverse_nil];exact Steps.one' fr_regionEnd
 | fuel+1,r,listed,st,A,S,w,t,hs,hr,h=>by
  obtain ⟨hend,hall⟩:=h;simp only [Region.linearise.go]
  show ∃st' t' A' S' w',Q st'∧Steps P (lone (Fr b t (.inRegion ops (match (Region.ready .any ops listed)[r%(Region.ready .any ops listed).length]? with
   | some i=>Region.linearise.go .any ops fuel (r /(Region.ready .any ops listed).length) (listed.setIfInBounds i true) [i]
   | none=>[].reverse)::k)) cs w) _∧_
  split
  ·rename_i i hi;have hmem:i∈Region.ready .any ops listed:=List.mem_of_getElem? hi;obtain ⟨o,ho,hstep⟩:=hall i hmem;rw [linearise_go_acc];simp only [List.reverse_singleton,List.singleton_append];have one:∃st1 t1 A1 S1 w1,AnyU P T G ops Q fuel (listed.setIfInBounds i true) st1∧Steps P (lone (Fr b t (.inRegion ops (i::Region.linearise.go .any ops fuel (r /(Region.ready .any ops listed).length) (listed.setIfInBounds i true) [])::k)) cs w)
     (lone (Fr b t1 (.inRegion ops (Region.linearise.go .any ops fuel (r /(Region.ready .any ops listed).length) (listed.setIfInBounds i true) [])::k)) cs w1)∧RelRs A1 S1 w1 st1.regs t1∧Sim G A1 S1 st1.hp w1∧Ext A S st.hp w A1 S1 st1.hp w1:=by
    rcases hstep with ⟨hw,hK⟩ | ⟨hw,hK⟩
    ·have hwt:=wantedR_ok hr hw;have hskip:=fr_opSkip (P:=P) (b:=b) (t:=t) (k:=k) (cs:=cs) (w:=w) (ops:=ops) (i:=i) (rest:=Region.linearise.go .any ops fuel (r /(Region.ready .any ops listed).length) (listed.setIfInBounds i true) []) (by simp [ho,hwt]);rw [ho] at hskip;simp only [Option.bind_some] at hskip;exact ⟨_,_,A,S,w,hK,Steps.one' hskip,hr.put undefR_rel,hs,Ext.refl⟩
    ·obtain ⟨st1,t1,A1,S1,w1,hK,hst,hr1,hs1,hx1⟩:=opK_sound hwf ho (wantedR_ok hr hw) hs hr (hK.toK (K':=fun s=>AnyU P T G ops Q fuel (listed.setIfInBounds i true) s) fun r hp h=>h)
     rcases hK with hK | ⟨d,r,r',ts,e1,e2,hK⟩
     ·exact ⟨st1,t1,A1,S1,w1,hK,hst,hr1,hs1,hx1⟩
     ·obtain ⟨f1,f2,f3⟩:=freezeRel (P:=P) (T:=T) hs1 hr1 e1 e2;exact ⟨_,t1,_,_,w1,hK,hst,f1,f2,hx1.trans f3⟩
   obtain ⟨st1,t1,A1,S1,w1,hK,hst,hr1,hs1,hx1⟩:=one;obtain ⟨st2,t2,A2,S2,w2,hQ,hst2,hr2,hs2,hx2⟩:=AnyU.sound hwf (b:=b) (k:=k) (cs:=cs) fuel (r /(Region.ready .any ops listed).length) (listed.setIfInBounds i true) st1 hs1 hr1 hK;exact ⟨st2,t2,A2,S2,w2,hQ,hst.trans hst2,hr2,hs2,hx1.trans hx2⟩
  ·rename_i hnone;have hnil:Region.ready .any ops listed=[]:=by
    cases hR:Region.ready .any ops listed with
    | nil=>rfl
    | cons x xs=>
     rw [hR] at hnone;have:r%(x::xs).length<(x::xs).length:=Nat.mod_lt _ (by simp)
     grind
   refine ⟨st,t,A,S,w,hend hnil,?_,hr,hs,Ext.refl⟩;exact Steps.one' fr_regionEnd
def restT (τ:List Nat) (listed:Array Bool):List Nat:=τ.filter fun i=> !listed.getD i true
theorem restT_set {τ:List Nat} {i:Nat} {listed:Array Bool} {s t:List Nat} (hτ:τ.Nodup) (h:restT τ listed=s++i::t) (hlt:i<listed.size):restT τ (listed.setIfInBounds i true)=s++t:=by
 have hnd:(restT τ listed).Nodup:=List.Nodup.sublist List.filter_sublist hτ;have h1:restT τ (listed.setIfInBounds i true)=(restT τ listed).filter fun k=>k !=i:=by
  unfold restT;rw [List.filter_filter];apply List.filter_congr;intro k _
  by_cases hk:k=i
  ·simp_all
  ·rw [getD_set_ne true (Ne.symm hk)];simp [hk]
 rw [h1,h];rw [h] at hnd;rw [List.nodup_append] at hnd;obtain ⟨n1,n2,n3⟩:=hnd;rw [List.nodup_cons] at n2;rw [List.filter_append,List.filter_cons];simp only [bne_self_eq_false,Bool.false_eq_true,if_false];rw [List.filter_eq_self.2,List.filter_eq_self.2]
 all_goals grind
structure GoodT (ops:Array Oper) (T:Tab) (M wr:Nat→List Nat) (τ:List Nat):Prop where
 nodup:τ.Nodup
 all:∀i,i∈τ↔i<ops.size
 back:backOk ops=true
 edge:τ.Pairwise fun j i=>∀o,ops[j]? =some o→∀e∈o.after,Region.binds .any e=true→e.on≠i
 pair:τ.Pairwise fun j i=>((befs [] ops.toList).getD i 0).testBit j=true∨PairU ops T M wr j i
theorem AnyU.of_run {τ:List Nat} (hg:GoodT ops T M wr τ):∀(fuel:Nat) (listed:Array Bool) (st:St),listed.size=ops.size→ClosedL ops listed→(restT τ listed).length=fuel→
  DU P T G ops M wr Q (restT τ listed) st→AnyU P T G ops Q fuel listed st
 | 0,listed,st,hsz,hc,hl,hr=>by
  have:restT τ listed=[]:=List.eq_nil_of_length_eq_zero hl;rw [this] at hr;exact hr
 | fuel+1,listed,st,hsz,hc,hl,hr=>by
  have hedge:(restT τ listed).Pairwise _:=List.Pairwise.sublist List.filter_sublist hg.edge;have hpair:(restT τ listed).Pairwise _:=List.Pairwise.sublist List.filter_sublist hg.pair;refine ⟨fun hnil=> ?_,fun i hi=> ?_⟩
  ·exfalso;cases hrest:restT τ listed with
   | nil=>simp_all
   | cons k ks=>
    have hk:k∈restT τ listed:=by rw [hrest];simp
    unfold restT at hk;rw [List.mem_filter] at hk;have hkl:k<ops.size:=(hg.all k).1 hk.1;have hm:k∈Region.ready .any ops listed:=by
     rw [mem_ready];refine ⟨by simp_all,ops[k],by simp [hkl],fun e he hb=> ?_⟩;have hlt:=backOk_spec hg.back (i:=k) (o:=ops[k]) (by simp [hkl]) he hb;have hes:e.on<listed.size:=by rw [hsz];omega
     cases hle:listed[e.on] with
     | true=>simp [hes,hle]
     | false=>
      exfalso;have hme:e.on∈restT τ listed:=by
       unfold restT;rw [List.mem_filter];exact ⟨(hg.all _).2 (by omega),by simp [hes,hle]⟩
      rw [hrest] at hme hedge
      rcases List.mem_cons.1 hme with h | h
      ·omega
      ·exact (List.pairwise_cons.1 hedge).1 e.on h ops[k] (by simp [hkl]) e he hb rfl
    simp_all
  ·obtain ⟨hun,o,ho,hpre⟩:=mem_ready.1 hi;have hlt:i<ops.size:=(Array.getElem?_eq_some_iff.1 ho).1;have hmem:i∈restT τ listed:=by
    unfold restT;rw [List.mem_filter];exact ⟨(hg.all i).2 hlt,by rw [hun];rfl⟩
   obtain ⟨s,t,hst⟩:=List.append_of_mem hmem;have hpre':∀o,ops[i]? =some o→∀e∈o.after,Region.binds .any e=true→listed.getD e.on false=true:=by
    intro o' ho' e he hb;rw [ho] at ho';simp at ho';subst ho';exact hpre e he hb
   have hind:∀j∈s,PairU ops T M wr j i:=by
    intro j hj;have hji:((befs [] ops.toList).getD i 0).testBit j=true∨PairU ops T M wr j i:=by
     rw [hst,List.pairwise_append] at hpair;exact hpair.2.2 j hj i (by simp)
    rcases hji with h | h
    ·exfalso;have hlj:=closed_down hg.back hc i i (Nat.le_refl _) h hpre';have hjm:j∈restT τ listed:=by rw [hst];simp [hj]
     unfold restT at hjm
     grind
    ·exact h
   rw [hst] at hr;refine ⟨o,ho,(DU.front ho hind hr).mono fun r hp' ⟨_,h2⟩=>AnyU.of_run hg fuel _ _ (by simp [hsz]) ?_ ?_ ?_⟩
   ·intro k o' hk ho' e he hb
    by_cases hki:k=i
    ·subst hki;exact getD_set_true (hpre' o' ho' e he hb)
    ·rw [getD_set_ne false (Ne.symm hki)] at hk;exact getD_set_true (hc k o' hk ho' e he hb)
   ·rw [restT_set hg.nodup hst (by omega)]
    grind
   ·rw [restT_set hg.nodup hst (by omega)];exact h2
theorem DrawOk.of_du [TOk P T] (hwf:WFP T) (hmix:P.follows .mixedOrders=true) {τ:List Nat} {st:St} (hg:GoodT ops T M wr τ) (h:DU P T G ops M wr Q τ st):DrawOk P G ops st Q:=by
 intro A S w t b k cs id hs hr;have hx0:Ext A S st.hp w A S st.hp {w with drawn:=w.drawn+1}:=Ext.drew;have hr1:RelRs A S {w with drawn:=w.drawn+1} st.regs t:=hs.relRs hx0 hr;have e:restT τ (Array.replicate ops.size false)=τ:=by
  unfold restT;rw [List.filter_eq_self];intro k hk;have:=(hg.all k).1 hk;simp [this]
 have hlen:τ.length=ops.size:=by
  have h1:τ.Perm (List.range ops.size):=(List.perm_ext_iff_of_nodup hg.nodup List.nodup_range).2 (fun a=>by rw [hg.all a,List.mem_range])
  simpa using h1.length_eq
 have hany:AnyU P T G ops Q ops.size (Array.replicate ops.size false) st:=by
  refine AnyU.of_run hg ops.size _ _ (by simp) ?_ (by rw [e,hlen]) (by rw [e];exact h);intro i o hi;exfalso
  by_cases h:i<ops.size<;>simp [h] at hi
 have hsched:Region.schedule (P.follows .mixedOrders) ops (w.tape w.drawn (.order b.fn id))=Region.linearise .any ops (w.tape w.drawn (.order b.fn id)):=by
  unfold Region.schedule;rw [hmix];simp
 obtain ⟨st2,t2,A2,S2,w2,hQ,hst,hr2,hs2,hx2⟩:=AnyU.sound hwf (b:=b) (k:=k) (cs:=cs) ops.size (w.tape w.drawn (.order b.fn id)) _ st (hs.drew) hr1 hany;refine ⟨st2,t2,A2,S2,w2,hQ,.head fr_draw ?_,hr2,hs2,hx0.trans' hx2 (Nat.le_refl _)⟩;rw [hsched];exact hst
def nodupB:List Nat→Bool
 | []=>true
 | x::l=> !(l.contains x) && nodupB l
theorem nodupB_ok:∀{l:List Nat},nodupB l=true→l.Nodup
 | [],_=>List.nodup_nil
 | x::l,h=>by
  simp only [nodupB,Bool.and_eq_true,Bool.not_eq_true',List.contains_eq_mem] at h;exact List.nodup_cons.2 ⟨by simpa using h.1,nodupB_ok h.2⟩
def pairAll (f:Nat→Nat→Bool):List Nat→Bool
 | []=>true
 | x::l=>l.all (f x) && pairAll f l
theorem pairAll_ok {f:Nat→Nat→Bool} {R:Nat→Nat→Prop} (h:∀j i,f j i=true→R j i):∀{l:List Nat},pairAll f l=true→l.Pairwise R
 | [],_=>List.Pairwise.nil
 | x::l,hl=>by
  simp only [pairAll,Bool.and_eq_true,List.all_eq_true] at hl;exact List.Pairwise.cons (fun i hi=>h x i (hl.1 i hi)) (pairAll_ok h hl.2)
def noUse (ops:Array Oper) (d:Option Tmp) (o:Oper):Bool:=match d with
 | none=>true
 | some k=> !((usesOp ops o).contains k)
def allocB (T:Tab) (m:List Nat) (o o':Oper):Bool:= !m.isEmpty && (callOf o.op).isSome && o'.guard.isNone && (match o'.op with | .alloc t=>(zeroOf T t).isSome && !T.trk t | _=>false)
theorem allocB_ok {m:List Nat} {o o':Oper} (h:allocB T m o o'=true):m≠[]∧callOf o.op≠none∧o'.guard=none∧∃t cs,o'.op= .alloc t∧zeroOf T t=some cs∧T.trk t=false:=by
 unfold allocB at h;simp only [Bool.and_eq_true,Bool.not_eq_true',List.isEmpty_eq_false_iff,Option.isNone_iff_eq_none] at h;obtain ⟨⟨⟨h1,h2⟩,h3⟩,h4⟩:=h;refine ⟨h1,fun e=>by simp_all,h3,?_⟩;split at h4
 ·rename_i t ht;rw [Bool.and_eq_true] at h4;obtain ⟨cs,hcs⟩:=Option.isSome_iff_exists.1 h4.1
  simp_all
 ·simp at h4
def swapB (T:Tab) (ops:Array Oper) (M wr:Nat→List Nat) (j i:Nat):Bool:=match ops[j]?,ops[i]? with
 | some o,some o'=>(isQuiet (kindOp T o.op) || allocB T (M j) o o') && noUse ops o.dst o' && noUse ops o'.dst o && (match o.dst,o'.dst with | some a,some b=> !(Nat.beq a b) | _,_=>true) && (wr i).all fun b=>(M j).contains b
 | _,_=>false
theorem noUse_ok {d:Option Tmp} {o:Oper} (h:noUse ops d o=true):∀k,d=some k→k∉usesOp ops o:=by
 intro k hk;subst hk
 simpa [noUse] using h
theorem swapB_ok {j i:Nat} (h:swapB T ops M wr j i=true):PairU ops T M wr j i:=by
 unfold swapB at h;split at h
 ·rename_i o o' ho ho';simp only [Bool.and_eq_true] at h;obtain ⟨⟨⟨⟨h1,h2⟩,h3⟩,h4⟩,h5⟩:=h;refine ⟨?_,fun a a' k ha ha'=> ?_,fun a a' k ha ha'=> ?_,fun a a' k ha ha' hk=> ?_,fun b hb=> ?_⟩
  ·rw [Bool.or_eq_true] at h1
   rcases h1 with h1 | h1
   ·simp_all
   ·obtain ⟨k1,k2,k3,t,cs,k4,k5,k6⟩:=allocB_ok h1
    simp_all
  ·rw [ho] at ha;rw [ho'] at ha';simp at ha ha';subst ha;subst ha';exact noUse_ok h2 k
  ·rw [ho] at ha;rw [ho'] at ha';simp at ha ha';subst ha;subst ha';exact noUse_ok h3 k
  ·rw [ho] at ha;rw [ho'] at ha';simp at ha ha';subst ha;subst ha';intro hk'
   simp_all
  simp_all
 ·simp at h
def edgeB (ops:Array Oper) (j i:Nat):Bool:=match ops[j]? with
 | some o=>o.after.toList.all fun e=> !Region.binds .any e || !(Nat.beq e.on i)
 | none=>true
theorem edgeB_ok {j i:Nat} (h:edgeB ops j i=true):∀o,ops[j]? =some o→∀e∈o.after,Region.binds .any e=true→e.on≠i:=by
 intro o ho e he hb;unfold edgeB at h;simp only [ho,List.all_eq_true] at h;have:=h e (Array.mem_toList_iff.2 he);simp only [hb,Bool.not_true,Bool.false_or,Bool.not_eq_true'] at this;intro he'
 simp_all
def nthL (l:List (List Nat)) (i:Nat):List Nat:=l.getD i []
noncomputable def statU (T:Tab) (ops:Array Oper) (Ms ws:List (List Nat)) (τ:List Nat):Bool:=
 nodupB τ && (τ.all fun i=>Nat.blt i ops.size) && ((List.range ops.size).all fun i=>τ.contains i) && backOk ops && pairAll (edgeB ops) τ &&
  pairAll (fun j i=>((befs [] ops.toList).getD i 0).testBit j || swapB T ops (nthL Ms) (nthL ws) j i) τ
theorem statU_ok {Ms ws:List (List Nat)} {τ:List Nat} (h:statU T ops Ms ws τ=true):GoodT ops T (nthL Ms) (nthL ws) τ:=by
 unfold statU at h;simp only [Bool.and_eq_true] at h;obtain ⟨⟨⟨⟨⟨h1,h2⟩,h3⟩,h4⟩,h5⟩,h6⟩:=h;refine ⟨nodupB_ok h1,fun i=>⟨fun hi=> ?_,fun hi=> ?_⟩,h4,pairAll_ok (fun j i=>edgeB_ok) h5,pairAll_ok (fun j i hb=> ?_) h6⟩
 ·simp_all
 ·simp_all
 ·rw [Bool.or_eq_true] at hb
  rcases hb with hb | hb
  ·exact .inl hb
  ·exact .inr (swapB_ok hb)
theorem Fin.drawU [TOk P T] (hwf:WFP T) (hmix:P.follows .mixedOrders=true) {n:Nat} {fn:FuncId} {todo todo':List Item} {st:St} (Ms ws:List (List Nat)) (τ:List Nat) (hd:drawAt todo=some (ops,todo')) (hst:statU T ops Ms ws τ=true)
  (h:DU P T G ops (nthL Ms) (nthL ws) (fun st'=>Fin P G n fn todo' st' Q) τ st):Fin P G n fn todo st Q:=by
 unfold drawAt at hd;split at hd
 ·simp at hd;obtain ⟨rfl,rfl⟩:=hd;exact Fin.draw (DrawOk.of_du hwf hmix (statU_ok hst) h)
 ·simp at hd
def wroteB (W:List Nat) (ρ:Operand→RV):Op→Bool
 | .store _ a _=>match ρ a with
  | .v (.one (.ref b _))=>W.contains b
  | _=>false
 | .alloc _=>true
 | .box _ _=>true
 | .buildSlice _ _ _=>true
 | .call {callee:= .builtin .append,args,..}=>match args.toList.map ρ with
  | [.v (.one (.lsl b _ _ _)),_]=>W.contains b
  | [.v (.one (.p _)),_]=>true
  | _=>false
 | _=>false
theorem upon_set {W:List Nat} {hp:List Ob} {b:Nat} {ob:Ob} (h:b∈W):Upon W hp (hp.set b ob):=by
 intro k x hk hx;obtain ⟨h1,h2⟩:=msk_some hk hx;have:b≠k:=fun e=>h1 (e ▸ h);exact ⟨x,by simp_all,.inl rfl⟩
theorem Upon.push {W:List Nat} {hp hp' l:List Ob} (h:Upon W hp hp'):Upon W hp (hp'++l):=by
 intro k x hk hx;obtain ⟨y,hy,hl⟩:=h k x hk hx
 grind
theorem wroteB_ok {W:List Nat} {ρ:Operand→RV} {o:Oper} {hp hp':List Ob} {r:RV} (hw:wroteB W ρ o.op=true) (h:opA P T G ρ o hp=some (r,hp')):Upon W hp hp':=by
 obtain ⟨dst,op,type,pos,after,guard⟩:=o;unfold wroteB at hw;split at hw
 ·rename_i t a v hop;simp only at hop;subst hop;split at hw
  ·rename_i b off ha;simp only [opA,storeA,ha,oneR] at h;split at h
   ·rename_i x n vs hx hn hvs;simp at hx;subst hx;split at h
    ·split at h
     ·rename_i hp2 hwr;simp at h;obtain ⟨_,rfl⟩:=h;simp only [writeC] at hwr;split at hwr
      ·split at hwr
       ·simp at hwr;subst hwr;exact upon_set (by simpa using hw)
       ·simp at hwr
      ·split at hwr
       ·simp at hwr;subst hwr;exact upon_set (by simpa using hw)
       ·simp at hwr
      ·split at hwr
       ·simp at hwr;subst hwr;exact Upon.refl
       ·simp at hwr
      ·simp at hwr
     ·simp at h
    ·simp at h
   ·simp at h
  ·simp at hw
 ·rename_i t hop;simp only at hop;subst hop;simp only [opA,allocA,allocT] at h;split at h
  all_goals
   split at h
   ·simp at h;obtain ⟨_,rfl⟩:=h;exact upon_push
   ·simp at h
 ·rename_i t x hop;simp only at hop;subst hop;simp only [opA,boxA,boxT] at h;split at h
  all_goals
   split at h
   ·simp at h;obtain ⟨_,rfl⟩:=h;exact upon_push
   ·simp at h
 ·rename_i t l x hop;simp only at hop;subst hop;simp only [opA,buildSliceA] at h;split at h
  ·split at h
   ·split at h
    ·split at h
     ·simp at h;obtain ⟨_,rfl⟩:=h;exact upon_push
     ·simp at h
    ·simp at h
   ·simp at h
  ·simp at h
 ·rename_i args ats hop;simp only at hop;subst hop;simp only [opA] at h;split at hw
  ·rename_i b off n z y hargs;rw [hargs] at h;split at h
   ·simp only [appendB] at h
    repeat' split at h
    all_goals first | (simp at h;done) | skip
    all_goals (simp at h;obtain ⟨_,rfl⟩:=h)
    all_goals first | exact upon_push | skip
    all_goals (rename_i he _ _ _ _ _ _;simp at he;obtain ⟨rfl,_⟩:=he;exact (upon_set (by simpa using hw)).push)
   ·simp only [builtinA] at h;split at h
    ·split at h
     ·simp at h
     ·split at h
      ·split at h
       ·split at h
        ·split at h
         ·split at h
          ·split at h
           ·simp at h;obtain ⟨_,rfl⟩:=h;exact (upon_set (by simpa using hw)).push
           ·simp at h
          ·simp at h
         ·simp at h
        ·simp at h
       ·simp at h
      ·simp at h
    ·simp at h
  ·rename_i x y hargs;rw [hargs] at h;split at h
   ·simp only [appendB] at h
    repeat' split at h
    all_goals first | (simp at h;done) | skip
    all_goals (simp at h;obtain ⟨_,rfl⟩:=h)
    all_goals first | exact upon_push | simp_all
   ·simp only [builtinA] at h;split at h
    ·split at h
     ·simp at h
     ·split at h
      ·split at h
       ·split at h
        ·split at h
         ·split at h
          ·simp at h;obtain ⟨_,rfl⟩:=h;exact Upon.refl
          ·split at h
           ·simp at h;obtain ⟨_,rfl⟩:=h;exact upon_push
           ·simp at h
         ·simp_all
         ·split at h
          ·simp at h;obtain ⟨_,rfl⟩:=h;exact Upon.refl
          ·simp at h
         ·simp at h
        ·simp at h
       ·simp at h
      ·simp at h
    ·simp at h
  ·simp at hw
 ·simp at hw
noncomputable def stepU1 (P:Program) (T:Tab) (G:Globs) (ops:Array Oper) (Ms ws:List (List Nat)) (i:Nat) (st:St):Option St:=match ops[i]? with
 | some o=>match wantedR ops st.regs o with
  | some false=>some ⟨putR st.regs o.dst undefR,st.hp⟩
  | some true=>match goodO o with
   | true=>match callOf o.op with
    | some _=>none
    | none=>match isQuiet (kindOp T o.op) with
     | true=>match opQ o.op P T G (evR st.regs) o (msk (nthL Ms i) st.hp) with
      | some (r,_)=>some ⟨putR st.regs o.dst r,st.hp⟩
      | none=>none
     | false=>match wroteB (nthL ws i) (evR st.regs) o.op with
      | true=>match opQ o.op P T G (evR st.regs) o st.hp with
       | some (r,hp')=>some ⟨putR st.regs o.dst r,hp'⟩
       | none=>none
      | false=>none
   | false=>none
  | none=>none
 | none=>none
noncomputable def advU (P:Program) (T:Tab) (G:Globs) (ops:Array Oper) (Ms ws:List (List Nat)) (m:Nat):List Nat→St→List Nat×St:=
 Nat.rec (motive:=fun _=>List Nat→St→List Nat×St) (fun l st=>(l,st)) (fun _ ih l st=>match l with
  | []=>([],st)
  | i::is=>match stepU1 P T G ops Ms ws i st with
   | some st'=>ih is st'
   | none=>(i::is,st)) m
variable {Ms ws:List (List Nat)} {is:List Nat} {i:Nat} {st:St}
theorem DU.quiet {o:Oper} {r:RV} {hp':List Ob} (ho:ops[i]? =some o) (hw:wantedR ops st.regs o=some true) (hg:goodO o=true) (hc:callOf o.op=none) (hq:isQuiet (kindOp T o.op)=true) (h:opA P T G (evR st.regs) o (msk (nthL Ms i) st.hp)=some (r,hp'))
  (hd:DU P T G ops (nthL Ms) (nthL ws) Q is ⟨putR st.regs o.dst r,st.hp⟩):DU P T G ops (nthL Ms) (nthL ws) Q (i::is) st:=by
 have e:hp'=msk (nthL Ms i) st.hp:=by
  cases hk:kindOp T o.op with
  | mute=>exact (mute_inv hk h).1
  | read=>exact (read_inv hk h).1
  | call=>simp [hk,isQuiet] at hq
  | alloc=>simp [hk,isQuiet] at hq
  | other=>simp [hk,isQuiet] at hq
 subst e;exact ⟨o,ho,.inl ⟨r,.inr ⟨hw,hg,hc,hq,h⟩,hd⟩⟩
theorem DU.plain {o:Oper} {r:RV} {hp':List Ob} (ho:ops[i]? =some o) (hw:wantedR ops st.regs o=some true) (hg:goodO o=true) (hc:callOf o.op=none) (hq:isQuiet (kindOp T o.op)=false) (hwr:wroteB (nthL ws i) (evR st.regs) o.op=true) (h:opA P T G (evR st.regs) o st.hp=some (r,hp'))
  (hd:DU P T G ops (nthL Ms) (nthL ws) Q is ⟨putR st.regs o.dst r,hp'⟩):DU P T G ops (nthL Ms) (nthL ws) Q (i::is) st:=by
 refine ⟨o,ho,.inr (.inl ⟨hw,hq,.inl hc,hg,?_⟩)⟩;simp only [hc];exact ⟨r,hp',h,.inl ⟨wroteB_ok hwr h,hd⟩⟩
theorem Up.fz {hp hp':List Ob} (h:Up hp hp'):∀(ts:List Nat),Up hp (fzObs ts hp')
 | []=>h
 | b::ts=>by
  show Up hp (fzObs ts (match hp'[b]? with | some o=>hp'.set b (fzOb o) | none=>hp'));refine Up.fz ?_ ts;cases hb:hp'[b]? with
  | none=>exact h
  | some ob=>
   intro k x hk hx;obtain ⟨y,hy,hl⟩:=h k x hk hx
   by_cases e:b=k
   ·subst e;rw [hb] at hy;simp only [Option.some.injEq] at hy;subst hy;have hlt:=(List.getElem?_eq_some_iff.1 hb).1;refine ⟨fzOb ob,by simp [hlt],?_⟩
    rcases hl with rfl | ⟨cs',g,g',e1,rfl⟩
    ·cases x with
     | cells cs f=>exact .inr ⟨cs,f,true,rfl,rfl⟩
     | _=>exact .inl rfl
    ·exact .inr ⟨cs',g,true,e1,rfl⟩
   simp_all
theorem DU.plainF {o:Oper} {r r':RV} {ts:List Nat} {d:Tmp} {hp':List Ob} (ho:ops[i]? =some o) (hw:wantedR ops st.regs o=some true) (hg:goodO o=true) (hc:callOf o.op=none) (hq:isQuiet (kindOp T o.op)=false) (hwr:wroteB (nthL ws i) (evR st.regs) o.op=true) (h:opA P T G (evR st.regs) o st.hp=some (r,hp'))
  (hdst:o.dst=some d) (hlt:d<st.regs.length) (hz:fzR hp' r=some (r',ts))
  (hd:DU P T G ops (nthL Ms) (nthL ws) Q is ⟨putR st.regs o.dst r',fzObs ts hp'⟩):DU P T G ops (nthL Ms) (nthL ws) Q (i::is) st:=by
 refine ⟨o,ho,.inr (.inl ⟨hw,hq,.inl hc,hg,?_⟩)⟩;simp only [hc];exact ⟨r,hp',h,.inr ⟨d,r',ts,hdst,hlt,hz,(wroteB_ok hwr h).fz ts,hd⟩⟩
theorem stepU1_ok {st':St} (h:stepU1 P T G ops Ms ws i st=some st') (hd:DU P T G ops (nthL Ms) (nthL ws) Q is st'):DU P T G ops (nthL Ms) (nthL ws) Q (i::is) st:=by
 unfold stepU1 at h;split at h
 ·rename_i o ho;split at h
  ·rename_i hw;simp at h;subst h;exact ⟨o,ho,.inl ⟨undefR,.inl ⟨hw,rfl⟩,hd⟩⟩
  ·rename_i hw;split at h
   ·rename_i hg;split at h
    ·simp at h
    ·rename_i hc;split at h
     ·rename_i hq;split at h
      ·rename_i r hp' hop;simp at h;subst h;rw [opQ_eq] at hop;exact DU.quiet ho hw hg hc hq hop hd
      ·simp at h
     ·rename_i hq;split at h
      ·rename_i hwr;split at h
       ·rename_i r hp' hop;simp at h;subst h;rw [opQ_eq] at hop;exact DU.plain ho hw hg hc hq hwr hop hd
       ·simp at h
      ·simp at h
   ·simp at h
  ·simp at h
 ·simp at h
theorem DU.adv:∀(m:Nat) {l l':List Nat} {st st':St},advU P T G ops Ms ws m l st=(l',st')→DU P T G ops (nthL Ms) (nthL ws) Q l' st'→DU P T G ops (nthL Ms) (nthL ws) Q l st
 | 0,l,l',st,st',h,hd=>by
  have:(l,st)=(l',st'):=h
  simp_all
 | m+1,l,l',st,st',h,hd=>by
  cases l with
  | nil=>
   have h:(([]:List Nat),st)=(l',st'):=h
   simp_all
  | cons i is=>
   have h:(match stepU1 P T G ops Ms ws i st with
    | some st'=>advU P T G ops Ms ws m is st'
    | none=>(i::is,st))=(l',st'):=h
   split at h
   ·rename_i s hs;exact stepU1_ok hs (DU.adv m h hd)
   simp_all
theorem DU.done (h:Q st):DU P T G ops (nthL Ms) (nthL ws) Q [] st:=h
def opAtU (ops:Array Oper) (i:Nat) (st:St):Option Oper:=match ops[i]? with
 | some o=>match wantedR ops st.regs o with
  | some true=>match goodO o with
   | true=>match callOf o.op with
    | none=>some o
    | some _=>none
   | false=>none
  | _=>none
 | none=>none
theorem opAtU_ok {o:Oper} (h:opAtU ops i st=some o):ops[i]? =some o∧wantedR ops st.regs o=some true∧goodO o=true∧callOf o.op=none:=by
 unfold opAtU at h
 grind
theorem DU.opE {o:Oper} {r:RV} {hp1 hp':List Ob} (h:opAtU ops i st=some o) (hq:isQuiet (kindOp T o.op)=true) (hm:msk (nthL Ms i) st.hp=hp1) (ho:opQ o.op P T G (evR st.regs) o hp1=some (r,hp'))
  (hd:DU P T G ops (nthL Ms) (nthL ws) Q is ⟨putR st.regs o.dst r,st.hp⟩):DU P T G ops (nthL Ms) (nthL ws) Q (i::is) st:=by
 obtain ⟨h1,h2,h3,h4⟩:=opAtU_ok h;rw [opQ_eq] at ho;subst hm;exact DU.quiet h1 h2 h3 h4 hq ho hd
theorem DU.opH {o:Oper} {r:RV} {hp':List Ob} (h:opAtU ops i st=some o) (hq:isQuiet (kindOp T o.op)=false) (hwr:wroteB (nthL ws i) (evR st.regs) o.op=true) (ho:opQ o.op P T G (evR st.regs) o st.hp=some (r,hp'))
  (hd:DU P T G ops (nthL Ms) (nthL ws) Q is ⟨putR st.regs o.dst r,hp'⟩):DU P T G ops (nthL Ms) (nthL ws) Q (i::is) st:=by
 obtain ⟨h1,h2,h3,h4⟩:=opAtU_ok h;rw [opQ_eq] at ho;exact DU.plain h1 h2 h3 h4 hq hwr ho hd
theorem DU.opF {o:Oper} {r r':RV} {ts:List Nat} {d:Tmp} {hp' hp2:List Ob} (h:opAtU ops i st=some o) (hq:isQuiet (kindOp T o.op)=false) (hwr:wroteB (nthL ws i) (evR st.regs) o.op=true) (ho:opQ o.op P T G (evR st.regs) o st.hp=some (r,hp'))
  (hdst:o.dst=some d) (hlt:Nat.blt d st.regs.length=true) (hz:fzR hp' r=some (r',ts)) (he:fzObs ts hp'=hp2)
  (hd:DU P T G ops (nthL Ms) (nthL ws) Q is ⟨putR st.regs o.dst r',hp2⟩):DU P T G ops (nthL Ms) (nthL ws) Q (i::is) st:=by
 obtain ⟨h1,h2,h3,h4⟩:=opAtU_ok h;rw [opQ_eq] at ho;subst he;exact DU.plainF h1 h2 h3 h4 hq hwr ho hdst (by simpa using hlt) hz hd
def callU (T:Tab) (ops:Array Oper) (i:Nat) (st:St):Option (FuncId×List RV×List Nat×Option Tmp):=match ops[i]? with
 | some o=>match wantedR ops st.regs o with
  | some true=>match goodO o with
   | true=>match callOf o.op with
    | some (f,args)=>match isQuiet (kindOp T o.op) with
     | false=>match calOf (evR st.regs f) (args.map (evR st.regs)) with
      | some (.fn g,as)=>match fzRs st.hp as with
       | some (as',ts)=>some (g,as',ts,o.dst)
       | none=>none
      | _=>none
     | true=>none
    | none=>none
   | false=>none
  | _=>none
 | none=>none
theorem DU.callV {g:FuncId} {ags:List RV} {ts:List Nat} {dst:Option Tmp} {F:RV→Prop} (h:callU T ops i st=some (g,ags,ts,dst)) (hv:ValC P G g ags F)
  (hd:∀r,F r→persR r=true→DU P T G ops (nthL Ms) (nthL ws) Q is ⟨putR st.regs dst r,if scalarR r then st.hp else fzObs ts st.hp⟩) (hM:nthL Ms i=[]∨ts=[]:=by first | exact .inl rfl | exact .inr rfl):DU P T G ops (nthL Ms) (nthL ws) Q (i::is) st:=by
 unfold callU at h;split at h
 ·rename_i o ho;split at h
  ·rename_i hw;split at h
   ·rename_i hg;split at h
    ·rename_i f args hc;split at h
     ·rename_i hq;split at h
      ·rename_i g' as0 hcal;split at h
       ·rename_i as' ts' hz;simp only [Option.some.injEq,Prod.mk.injEq] at h;obtain ⟨rfl,rfl,rfl,rfl⟩:=h
        rcases hM with hM | hM
        ·refine ⟨o,ho,.inr (.inl ⟨hw,hq,.inr hM,hg,?_⟩)⟩;simp only [hc];refine ⟨_,_,hcal,CalOk.of_val hz hv fun r hr hp=>⟨?_,hd r hr hp⟩⟩;split
         ·exact Upon.refl
         ·exact (Up.msk _ _).trans (Up.freeze _ _)
        ·subst hM;refine ⟨o,ho,.inr (.inr ⟨hw,hq,hg,f,args,g',as0,as',F,hc,hcal,hz,hv,fun r hr hp=> ?_⟩)⟩;have e:(if scalarR r then st.hp else fzObs [] st.hp)=st.hp:=by split<;>rfl
         grind
       ·simp at h
      ·simp at h
     ·simp at h
    ·simp at h
   ·simp at h
  ·simp at h
 ·simp at h
def callUR (T:Tab) (ops:Array Oper) (b i:Nat) (W:List Nat) (st:St):Option (FuncId×List RV×List LV×Option Tmp):=match ops[i]? with
 | some o=>match wantedR ops st.regs o with
  | some true=>match goodO o with
   | true=>match callOf o.op with
    | some (f,args)=>match isQuiet (kindOp T o.op) with
     | false=>match W.contains b with
      | true=>match calOf (evR st.regs f) (args.map (evR st.regs)) with
       | some (.fn g,as)=>match refAt b st.hp as with
        | some (as',cs)=>some (g,as',cs,o.dst)
        | none=>none
       | _=>none
      | false=>none
     | true=>none
    | none=>none
   | false=>none
  | _=>none
 | none=>none
theorem DU.callR (b:Nat) {g:FuncId} {ags:List RV} {cs:List LV} {dst:Option Tmp} {F:RV→List LV→Prop} (h:callUR T ops b i (nthL ws i) st=some (g,ags,cs,dst)) (hv:RefC P G g ags cs F)
  (hd:∀r cs',F r cs'→persR r=true→cs'.all persL=true→DU P T G ops (nthL Ms) (nthL ws) Q is ⟨putR st.regs dst r,st.hp.set b (.cells cs' false)⟩) (hM:nthL Ms i=[]:=by rfl):DU P T G ops (nthL Ms) (nthL ws) Q (i::is) st:=by
 unfold callUR at h;split at h
 ·rename_i o ho;split at h
  ·rename_i hw;split at h
   ·rename_i hg;split at h
    ·rename_i f args hc;split at h
     ·rename_i hq;split at h
      ·rename_i hW;split at h
       ·rename_i g' as0 hcal;split at h
        ·rename_i as' cs0 hz;simp only [Option.some.injEq,Prod.mk.injEq] at h;obtain ⟨rfl,rfl,rfl,rfl⟩:=h;obtain ⟨k1,k2,k3⟩:=refAt_ok hz;refine ⟨o,ho,.inr (.inl ⟨hw,hq,.inr hM,hg,?_⟩)⟩;simp only [hc];exact ⟨_,_,hcal,CalOk.of_ref k1 k2 k3 hv fun r cs' h1 h2 h3=>⟨upon_set (by simpa using hW),hd r cs' h1 h2 h3⟩⟩
        ·simp at h
       ·simp at h
      ·simp at h
     ·simp at h
    ·simp at h
   ·simp at h
  ·simp at h
 ·simp at h
end
end Go.Sx
namespace Go.Sx
section
variable {P:Program} {T:Tab} {G:Globs} {n:Nat} {fn:FuncId} {st:St} {Q:St→Prop} {todo todo':List Item}
theorem wrap_u8 {n:Int} (h1:0≤n) (h2:n<256):IntKind.u8.wrap n=n:=by
 simp [IntKind.wrap,IntKind.bits,IntKind.signed];omega
def pc (l:List PV):List LV:=l.map .p
theorem Fin.opH [TOk P T] (hwf:WFP T) {o:Oper} {r:RV} {hp':List Ob} (h:opAt todo st=some (o,todo')) (ho:opQ o.op P T G (evR st.regs) o st.hp=some (r,hp')) (hf:Fin P G n fn todo' ⟨putR st.regs o.dst r,hp'⟩ Q):Fin P G n fn todo st Q:=by
 rw [opQ_eq] at ho;unfold opAt at h;split at h
 ·split at h
  ·rename_i o' ho';split at h
   ·rename_i hw;split at h
    ·rename_i hg;split at h
     ·rename_i hc;simp only [Option.some.injEq,Prod.mk.injEq] at h;obtain ⟨rfl,rfl⟩:=h;exact Fin.op hwf ho' hw (opK_plain hg hc ho hf)
     ·simp at h
    ·simp at h
   ·simp at h
  ·simp at h
 ·simp at h
noncomputable def cutX (P:Program) (T:Tab) (G:Globs) (m n:Nat) (keep live:List Nat) (J:Nat→RV) (todo:List Item) (st:St):Option (List Item×List RV×List Ob):=
 match adv P T G m todo st with
 | (todo',st')=>match mixR (posOf n keep) J 0 (lvOf st'.regs.length live) st'.regs with
  | some r=>some (todo',r,st'.hp)
  | none=>none
theorem Fin.cutX [TOk P T] (hwf:WFP T) (m:Nat) (keep live:List Nat) (hk:keepOk n keep=true) {f:(Nat→RV)→List RV} {hpx hp':List Ob} (h:∀J,cutX P T G m n keep live J todo st=some (todo',f J,hpx)) (hr:renH n keep hpx=some hp')
  (hf:∀J,Fin P G n fn todo' ⟨f J,hp'⟩ Q):Fin P G n fn todo st Q:=by
 refine Fin.cut hwf m keep live hk (f:=f) (hp':=hp') (fun J=> ?_) hf;have:=h J;unfold Sx.cutX at this;unfold Sx.cut
 grind
theorem mo_nil {α β:Type} {f:α→Option β}:mapOpt f []=some []:=rfl
theorem mo {α β:Type} {f:α→Option β} {x:α} {y:β} {l:List α} {r:List β} (h:f x=some y) (hr:mapOpt f l=some r):mapOpt f (x::l)=some (y::r):=by
 simp [mapOpt,h,hr]
theorem mapOpt_pc {π:Nat→Option Nat}:∀(l:List PV),mapOpt (renL π) (pc l)=some (pc l)
 | []=>rfl
 | x::l=>by
  show mapOpt (renL π) (.p x::pc l)=some (.p x::pc l);exact mo rfl (mapOpt_pc l)
theorem renAt_pc {π:Nat→Option Nat} {hp:List Ob} {b:Nat} {l:List PV} {fz:Bool} (h:hp[b]? =some (.cells (pc l) fz)):renAt π hp b=some (.cells (pc l) fz):=by
 simp [renAt,h,renOb,mapOpt_pc]
theorem mapOpt_fz {L:List Ob} {n:Nat}:∀(l:List PV),mapOpt (fzL L n) (pc l)=some (l.map fun x=>(x,[]))
 | []=>rfl
 | x::l=>by
  show mapOpt (fzL L n) (.p x::pc l)=some ((x,[])::l.map fun x=>(x,[]));exact mo (by simp [fzL]) (mapOpt_fz l)
theorem part_all {α:Type} {l:List α} {n:Nat} (h:l.length=n):part l 0 n=some l:=by
 subst h;simp [part]
theorem fzL_pc {L:List Ob} {b k z n:Nat} {l:List PV} {fz:Bool} (h:L[b]? =some (.cells (pc l) fz)) (hl:l.length=k*z):fzL L (n+1) (.lsl b 0 k z)=some (.sl k l,[b]):=by
 have hp:part (pc l) 0 (k*z)=some (pc l):=part_all (by simp [pc,hl]);simp only [fzL,h,hp,mapOpt_fz];have e1:∀l:List PV,(l.map fun x=>((x,[]):PV×List Nat)).map (·.1)=l:=fun l=>by induction l<;>simp_all
 simp_all
inductive IsS {α:Type} (enc:α→List PV) (L:List α):PV→Prop
 | nil (h:L=[]):IsS enc L (.vl (.slice none 0 0))
 | sl:IsS enc L (.sl L.length (L.flatMap enc))
def encS (s:ByteArray):List PV:=[.vl (.string s)]
def encI (n:Int):List PV:=[.vl (.int .i64 n)]
theorem flat_len {α:Type} {enc:α→List PV} {z:Nat} (hz:∀a,(enc a).length=z):∀(L:List α),(L.flatMap enc).length=L.length*z
 | []=>by simp
 | a::L=>by
  rw [List.flatMap_cons,List.length_append,hz,flat_len hz L,List.length_cons,Nat.succ_mul,Nat.add_comm]
theorem flat_drop {α:Type} {enc:α→List PV} {z:Nat} (hz:∀a,(enc a).length=z):∀(L:List α) (k:Nat),(L.flatMap enc).drop (k*z)=(L.drop k).flatMap enc
 | L,0=>by simp
 | [],k+1=>by simp
 | a::L,k+1=>by
  rw [List.flatMap_cons,List.drop_succ_cons,← flat_drop hz L k,Nat.succ_mul,Nat.add_comm,← List.drop_drop,List.drop_left' (hz a)]
theorem part_flat {α:Type} {enc:α→List PV} {z:Nat} (hz:∀a,(enc a).length=z) {L:List α} {k off n:Nat} (d:α) (hk:k<L.length) (hn:off+n≤z):part (L.flatMap enc) (k*z+off) n=some (((enc (L.getD k d)).drop off).take n):=by
 have e1:(L.flatMap enc).drop (k*z+off)=((enc (L.getD k d)).drop off)++(L.drop (k+1)).flatMap enc:=by
  rw [← List.drop_drop,flat_drop hz,List.drop_eq_getElem_cons hk,List.flatMap_cons];have e:L.getD k d=L[k]:=by simp [hk]
  grind
 have e2:((L.flatMap enc).drop (k*z+off)).take n=((enc (L.getD k d)).drop off).take n:=by
  rw [e1,List.take_append];have:n - ((enc (L.getD k d)).drop off).length=0:=by simp [hz];omega
  rw [this];simp
 have:(((enc (L.getD k d)).drop off).take n).length=n:=by simp [hz];omega
 unfold part
 simp_all
def hd (l:List PV):PV:=match l with
 | x::_=>x
 | []=> .vl (.slice none 0 0)
variable {hp:List Ob} {t e:TypeId} {j:IntKind}
theorem indexAddrA_S {α:Type} {enc:α→List PV} {L:List α} {x:PV} {z:Nat} {k:Int} (hT:T.und t=some (.slice e)) (hs:szOf T e=some z) (hx:IsS enc L x) (h0:0≤k) (h1:k<L.length):
  indexAddrA T t (.v (.one (.p x))) (.v (.one (.p (.vl (.int j k))))) hp=some (.v (.one (.pref (L.flatMap enc) (k.toNat*z))),hp):=by
 cases hx with
 | nil h=>grind
 | sl=>exact indexAddrA_sl hT hs h0 h1
theorem loadA_S1 {α:Type} {enc:α→List PV} {L:List α} {z off:Nat} {k:Int} (d:α) (hs:szOf T t=some 1) (hg:isAggB T t=some false) (hz:∀a,(enc a).length=z) (h0:0≤k) (h1:k<L.length) (ho:off+1≤z):
  loadA T G t (.v (.one (.pref (L.flatMap enc) (k.toNat*z+off)))) hp=some (.v (.one (.p (hd ((enc (L.getD k.toNat d)).drop off)))),hp):=by
 have hp1:=part_flat hz (L:=L) (k:=k.toNat) d (by omega) ho;have hl:(((enc (L.getD k.toNat d)).drop off)).length=z - off:=by simp [hz]
 cases hc:(enc (L.getD k.toNat d)).drop off with
 | nil=>grind
 | cons y ys=>
  rw [hc] at hp1;simp [loadA,oneR,hs,hg,readC,hp1,ofCells,hd]
theorem loadA_S10 {α:Type} {enc:α→List PV} {L:List α} {z:Nat} {k:Int} (d:α) (hs:szOf T t=some 1) (hg:isAggB T t=some false) (hz:∀a,(enc a).length=z) (h0:0≤k) (h1:k<L.length) (ho:1≤z):
  loadA T G t (.v (.one (.pref (L.flatMap enc) (k.toNat*z)))) hp=some (.v (.one (.p (hd (enc (L.getD k.toNat d))))),hp):=by
 have:=loadA_S1 (G:=G) (hp:=hp) (off:=0) d hs hg hz h0 h1 (by omega)
 simp_all
theorem loadA_SN {α:Type} {enc:α→List PV} {L:List α} {z off n:Nat} {k:Int} (d:α) (hs:szOf T t=some n) (hg:isAggB T t=some true) (hz:∀a,(enc a).length=z) (h0:0≤k) (h1:k<L.length) (ho:off+n≤z):
  loadA T G t (.v (.one (.pref (L.flatMap enc) (k.toNat*z+off)))) hp=some (.v (.agg (pc (((enc (L.getD k.toNat d)).drop off).take n))),hp):=by
 have hp1:=part_flat hz (L:=L) (k:=k.toNat) d (by omega) ho;simp [loadA,oneR,hs,hg,readC,hp1,ofCells,pc]
theorem loadA_SN0 {α:Type} {enc:α→List PV} {L:List α} {z n:Nat} {k:Int} (d:α) (hs:szOf T t=some n) (hg:isAggB T t=some true) (hz:∀a,(enc a).length=z) (h0:0≤k) (h1:k<L.length) (ho:n≤z):
  loadA T G t (.v (.one (.pref (L.flatMap enc) (k.toNat*z)))) hp=some (.v (.agg (pc ((enc (L.getD k.toNat d)).take n))),hp):=by
 have:=loadA_SN (G:=G) (hp:=hp) (off:=0) d hs hg hz h0 h1 (by omega)
 simp_all
theorem Fin.freeze [TOk P T] (d:Nat) {r r':RV} {ts:List Nat} (hr:st.regs[d]? =some r) (hz:fzR st.hp r=some (r',ts)) (hf:Fin P G n fn todo ⟨st.regs.set d r',fzObs ts st.hp⟩ Q):Fin P G n fn todo st Q:=by
 refine Fin.go (F:=fun st'=>st'=⟨st.regs.set d r',fzObs ts st.hp⟩) (todo':=todo) ?_ (fun _ e=>by simp_all);intro A S w t b cs hs hrs hfn;have hc:=fzR_cells hz;have hx:=Ext.freeze hs hc;have h1:=hs.relRs hx hrs;refine ⟨_,t,Aplus A S ts,S,w,rfl,.refl _ _,⟨by simpa using h1.1,fun i x hi=> ?_⟩,hs.freeze hc,hx⟩
 by_cases e:d=i
 ·subst e;obtain ⟨v,hv,hrel⟩:=hrs.2 d r hr;have hl:d<st.regs.length:=(List.getElem?_eq_some_iff.1 hr).1;simp [hl] at hi;subst hi;exact ⟨v,hv,fzR_enc (S':=S) hs hz hrel⟩
 ·simp only at hi;rw [List.getElem?_set_ne e] at hi;exact h1.2 i x hi
theorem fzR_one {L:List Ob} {x:LV} {p:PV} {ts:List Nat} (h:fzL L 12 x=some (p,ts)):fzR L (.v (.one x))=some (.v (.one (.p p)),ts):=by
 simp [fzR,fzW,h]
theorem fzR_agg {L:List Ob} {xs:List LV} {ps:List (PV×List Nat)} (h:mapOpt (fzL L 12) xs=some ps):fzR L (.v (.agg xs))=some (.v (.agg (pc (ps.map (·.1)))),ps.flatMap (·.2)):=by
 simp [fzR,fzW,fzLs,h,pc]
section
variable {α:Type} {enc:α→List PV} {L:List α} {z:Nat}
theorem len_S {ats:Array TypeId} {ty:TypeId} {x:PV} (hx:IsS enc L x) (hn:builtinA P T .len ats ty [.v (.one (.p (.vl (.slice none 0 0))))] hp=some (i64R 0,hp)) (hT:(ats[0]?).bind T.und=some (.slice e)):
  builtinA P T .len ats ty [.v (.one (.p x))] hp=some (.v (.one (.p (.vl (.int .i64 (L.length:Int))))),hp):=by
 cases hx with
 | nil h=>subst h;exact hn
 | sl=>simp [builtinA,hT,i64R,atR]
theorem part_pcflat {k off n:Nat} (hz:∀a,(enc a).length=z) (d:α) (hk:k<L.length) (hn:off+n≤z):part (pc (L.flatMap enc)) (k*z+off) n=some (pc (((enc (L.getD k d)).drop off).take n)):=by
 have h:=part_flat hz (L:=L) (k:=k) d hk hn;unfold part at h ⊢
 unfold pc;simp only at h ⊢
 split at h
 ·rename_i h1;simp only [Option.some.injEq] at h;rw [← List.map_drop,← List.map_take,List.length_map]
  simp_all
 ·simp at h
theorem loadA_L1 {b off:Nat} {k:Int} {fz:Bool} (d:α) (hs:szOf T t=some 1) (hg:isAggB T t=some false) (hb:hp[b]? =some (.cells (pc (L.flatMap enc)) fz)) (hz:∀a,(enc a).length=z) (h0:0≤k) (h1:k<L.length) (ho:off+1≤z):
  loadA T G t (.v (.one (.ref b (0+k.toNat*z+off)))) hp=some (.v (.one (.p (hd ((enc (L.getD k.toNat d)).drop off)))),hp):=by
 have hp1:=part_pcflat hz (L:=L) (k:=k.toNat) d (by omega) ho;have hl:(((enc (L.getD k.toNat d)).drop off)).length=z - off:=by simp [hz]
 cases hc:(enc (L.getD k.toNat d)).drop off with
 | nil=>grind
 | cons y ys=>
  rw [hc] at hp1;have hp2:part (pc (L.flatMap enc)) (0+k.toNat*z+off) 1=some [.p y]:=by rw [Nat.zero_add];exact hp1
  simp [loadA,oneR,hs,hg,readC,hb,hp2,ofCells,hd,-Nat.zero_add]
theorem loadA_L10 {b:Nat} {k:Int} {fz:Bool} (d:α) (hs:szOf T t=some 1) (hg:isAggB T t=some false) (hb:hp[b]? =some (.cells (pc (L.flatMap enc)) fz)) (hz:∀a,(enc a).length=z) (h0:0≤k) (h1:k<L.length) (ho:1≤z):
  loadA T G t (.v (.one (.ref b (0+k.toNat*z)))) hp=some (.v (.one (.p (hd (enc (L.getD k.toNat d))))),hp):=by
 have:=loadA_L1 (G:=G) (hp:=hp) (off:=0) d hs hg hb hz h0 h1 (by omega)
 simp_all
theorem loadA_LN {b off n:Nat} {k:Int} {fz:Bool} (d:α) (hs:szOf T t=some n) (hg:isAggB T t=some true) (hb:hp[b]? =some (.cells (pc (L.flatMap enc)) fz)) (hz:∀a,(enc a).length=z) (h0:0≤k) (h1:k<L.length) (ho:off+n≤z):
  loadA T G t (.v (.one (.ref b (0+k.toNat*z+off)))) hp=some (.v (.agg (pc (((enc (L.getD k.toNat d)).drop off).take n))),hp):=by
 have hp1:=part_pcflat hz (L:=L) (k:=k.toNat) d (by omega) ho;simp [loadA,oneR,hs,hg,readC,hb,hp1,ofCells]
theorem loadA_LN0 {b n:Nat} {k:Int} {fz:Bool} (d:α) (hs:szOf T t=some n) (hg:isAggB T t=some true) (hb:hp[b]? =some (.cells (pc (L.flatMap enc)) fz)) (hz:∀a,(enc a).length=z) (h0:0≤k) (h1:k<L.length) (ho:n≤z):
  loadA T G t (.v (.one (.ref b (0+k.toNat*z)))) hp=some (.v (.agg (pc ((enc (L.getD k.toNat d)).take n))),hp):=by
 have:=loadA_LN (G:=G) (hp:=hp) (off:=0) d hs hg hb hz h0 h1 (by omega)
 simp_all
theorem append_L1 {ats:Array TypeId} {ty:TypeId} {b b2 by':Nat} {a:α} {i:TypeInfo} {zero new:List LV} {fz:Bool}
  (hT:(ats[0]?).bind T.und=some (.slice e)) (hX:(ats[1]?).bind T.und=some (.slice e)) (hi:T.info e=some i) (hzero:zeroOf T e=some zero) (hiz:i.size=z) (hzl:zero.length=i.size) (hb:hp[b]? =some (.cells (pc (L.flatMap enc)) false)) (hb2:hp[b2]? =some (.cells new fz)) (hnew:new=pc (enc a))
  (hz:∀a,(enc a).length=z) (hby:i.bytes=by') (h0:0<z) (hroom:(L.length+1)*by'≤17592186044416) (hroom2:L.length+1≤17592186044416):
  builtinA P T .append ats ty [.v (.one (.lsl b 0 L.length z)),.v (.one (.lsl b2 0 1 z))] hp=some (.v (.one (.lsl hp.length 0 (L++[a]).length z)),hp.set b .gone++[.cells (pc ((L++[a]).flatMap enc)) false]):=by
 subst hnew;subst hby;subst hiz;have hold:part (pc (L.flatMap enc)) 0 (L.length*i.size)=some (pc (L.flatMap enc)):=part_all (by simp [pc,flat_len hz]);have hel:elems hp i.size (.v (.one (.lsl b2 0 1 i.size)))=some (1,pc (enc a)):=by
  simp only [elems,if_true,hb2];rw [show 1*i.size=i.size by simp,part_all (show (pc (enc a)).length=i.size by simp [pc,hz])];rfl
 have hr:roomy (L.length+1) i.bytes=true:=by simp [roomy];omega
 simp only [builtinA,hT,hX,hi,hzero,hel,hzl,if_true,hb,hold,hr];simp [h0,pc]
theorem append_LS {ats:Array TypeId} {ty:TypeId} {b by':Nat} {L2:List α} {x:PV} {i:TypeInfo} {zero:List LV}
  (hT:(ats[0]?).bind T.und=some (.slice e)) (hX:(ats[1]?).bind T.und=some (.slice e)) (hi:T.info e=some i) (hzero:zeroOf T e=some zero) (hiz:i.size=z) (hzl:zero.length=i.size) (hb:hp[b]? =some (.cells (pc (L.flatMap enc)) false)) (hx:IsS enc L2 x)
  (hz:∀a,(enc a).length=z) (hby:i.bytes=by') (h0:0<z) (hroom:(L.length+L2.length)*by'≤17592186044416) (hroom2:L.length+L2.length≤17592186044416):
  builtinA P T .append ats ty [.v (.one (.lsl b 0 L.length z)),.v (.one (.p x))] hp=some (.v (.one (.lsl hp.length 0 (L++L2).length z)),hp.set b .gone++[.cells (pc ((L++L2).flatMap enc)) false]):=by
 subst hby;subst hiz;have hold:part (pc (L.flatMap enc)) 0 (L.length*i.size)=some (pc (L.flatMap enc)):=part_all (by simp [pc,flat_len hz]);have hel:elems hp i.size (.v (.one (.p x)))=some (L2.length,pc (L2.flatMap enc)):=by
  cases hx with
  | nil h=>subst h;rfl
  | sl=>
   simp only [elems];rw [part_all (flat_len hz L2)];rfl
 have hr:roomy (L.length+L2.length) i.bytes=true:=by simp [roomy];omega
 simp only [builtinA,hT,hX,hi,hzero,hel,hzl,if_true,hb,hold,hr];simp [h0,pc]
end
theorem loop_eq (b:ByteArray):∀(k i:Nat) (r:List UInt8),b.size - i=k→ByteArray.toList.loop b i r=r.reverse++b.data.toList.drop i
 | 0,i,r,h=>by
  unfold ByteArray.toList.loop;have:¬i<b.size:=by omega
  rw [if_neg this,List.drop_eq_nil_of_le (by simp_all)];simp
 | k+1,i,r,h=>by
  unfold ByteArray.toList.loop;have hi:i<b.size:=by omega
  rw [if_pos hi,loop_eq b k (i+1) _ (by omega)];have hi':i<b.data.toList.length:=by simpa using hi
  rw [List.drop_eq_getElem_cons hi'];simp [ByteArray.get!]
  simp_all
theorem toList_inj {s t:ByteArray}:s.toList=t.toList↔s=t:=by
 constructor
 ·intro h;unfold ByteArray.toList at h;rw [loop_eq s _ 0 [] rfl,loop_eq t _ 0 [] rfl] at h;simp at h;cases s;simp_all
 simp_all
end
end Go.Sx
namespace Go.Sx
section
variable {P:Program} {T:Tab} {hp:List Ob} {t:TypeId} {j j':IntKind}
def cutB (s:ByteArray) (l h:Int):ByteArray:=s.extract l.toNat h.toNat
theorem rule_sliceHi {s:ByteArray} {h:Int} (hT:T.und t=some .string) (h0:0≤h) (h1:h≤s.size):
  sliceQ P T t (.v (.one (.p (.vl (.string s))))) none (some (.v (.one (.p (.vl (.int j h)))))) none hp=some (.v (.one (.p (.vl (.string (cutB s 0 h))))),hp):=by
 have hb:bounds s.size none (some h)=some (0,h.toNat):=by simp [bounds,h0,h1]
 rw [sliceQ_str (l':=none) (h':=some h) hT rfl rfl hb];rfl
theorem rule_sliceLo {s:ByteArray} {l:Int} (hT:T.und t=some .string) (h0:0≤l) (h1:l≤s.size):
  sliceQ P T t (.v (.one (.p (.vl (.string s))))) (some (.v (.one (.p (.vl (.int j l)))))) none none hp=some (.v (.one (.p (.vl (.string (cutB s l s.size))))),hp):=by
 have hb:bounds s.size (some l) none=some (l.toNat,s.size):=by simp [bounds,h0,h1]
 rw [sliceQ_str (l':=some l) (h':=none) hT rfl rfl hb];rfl
theorem cutB_size {s:ByteArray} {l h:Int} (h0:0≤l) (h1:l≤h) (h2:h≤s.size):((cutB s l h).size:Int)=h - l:=by
 simp [cutB];omega
end
end Go.Sx
namespace Go.Sx
def encB (n:Int):List PV:=[.vl (.int .u8 n)]
def bstr (B:List Int):ByteArray:=⟨(B.map fun n=>UInt8.ofNat n.toNat).toArray⟩
theorem encB_len (a:Int):(encB a).length=1:=rfl
theorem pcB (B:List Int):pc (B.flatMap encB)=B.map fun n=>LV.p (.vl (.int .u8 n)):=by
 induction B with
 | nil=>rfl
 | cons x l ih=>simp only [List.flatMap_cons,encB,pc,List.map_append,List.map_cons,List.map_nil] at ih ⊢;rw [ih];rfl
theorem bytesOf_map (B:List Int):bytesOf (B.map fun n=>LV.p (.vl (.int .u8 n)))=some (B.map fun n=>UInt8.ofNat n.toNat):=by
 induction B with
 | nil=>rfl
 | cons x l ih=>simp only [List.map_cons,bytesOf,ih];rfl
section
variable {P:Program} {T:Tab} {hp:List Ob} {e:TypeId}
theorem rule_bytesStr {s d:TypeId} {b:Nat} {B:List Int} {fz:Bool} (h1:T.und s=some (.slice e)) (he:T.und e=some (.int .u8)) (h2:T.und d=some .string) (hb:hp[b]? =some (.cells (pc (B.flatMap encB)) fz)):
  convQ P T s d (.v (.one (.lsl b 0 B.length 1))) hp=some (.v (.one (.p (.vl (.string (bstr B))))),hp):=by
 have hp1:part (B.map fun n=>LV.p (.vl (.int .u8 n))) 0 (B.length*1)=some (B.map fun n=>LV.p (.vl (.int .u8 n))):=part_all (by simp);have h3:convertA P T s d (.v (.one (.lsl b 0 B.length 1))) hp=some (.v (.one (.p (.vl (.string (bstr B))))),hp):=by
  rw [pcB] at hb;have ht:toVal (.v (.one (.lsl b 0 B.length 1)))=none:=rfl;have hel:elems hp 1 (.v (.one (.lsl b 0 B.length 1)))=some (B.length,B.map fun n=>LV.p (.vl (.int .u8 n))):=by
   simp only [elems,if_true,hb,hp1];rfl
  simp only [convertA,ht,h1,h2,he,hel,bytesOf_map];rfl
 rw [← h3];rfl
theorem rule_append3 {ats:Array TypeId} {ty:TypeId} {b b2:Nat} {L:List Int} {a0 a1 a2:Int} {i:TypeInfo} {zero new:List LV} {fz:Bool}
  (hT:(ats[0]?).bind T.und=some (.slice e)) (hX:(ats[1]?).bind T.und=some (.slice e)) (hi:T.info e=some i) (hzero:zeroOf T e=some zero) (hiz:i.size=1) (hzl:zero.length=i.size) (hb:hp[b]? =some (.cells (pc (L.flatMap encB)) false)) (hb2:hp[b2]? =some (.cells new fz)) (hnew:new=[.p (.vl (.int .u8 a0)),.p (.vl (.int .u8 a1)),.p (.vl (.int .u8 a2))])
  (hby:i.bytes=1) (hroom2:L.length+3≤17592186044416):
  builtinA P T .append ats ty [.v (.one (.lsl b 0 L.length 1)),.v (.one (.lsl b2 0 3 1))] hp=some (.v (.one (.lsl hp.length 0 (L++[a0,a1,a2]).length 1)),hp.set b .gone++[.cells (pc ((L++[a0,a1,a2]).flatMap encB)) false]):=by
 subst hnew;have hold:part (pc (L.flatMap encB)) 0 (L.length*i.size)=some (pc (L.flatMap encB)):=part_all (by simp [pc,flat_len encB_len,hiz]);have hel:elems hp i.size (.v (.one (.lsl b2 0 3 1)))=some (3,[.p (.vl (.int .u8 a0)),.p (.vl (.int .u8 a1)),.p (.vl (.int .u8 a2))]):=by
  simp only [elems,hiz,if_true,hb2];rfl
 have hr:roomy (L.length+3) i.bytes=true:=by simp [roomy,hby];omega
 simp only [builtinA,hT,hX,hi,hzero,hel,hzl,if_true,hb,hold,hr];simp [hiz,pc,encB]
end
end Go.Sx
