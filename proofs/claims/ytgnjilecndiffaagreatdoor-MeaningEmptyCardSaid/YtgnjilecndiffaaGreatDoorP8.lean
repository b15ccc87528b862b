/- A part of the proof of MeaningEmpty. -/
import Derived.KernelRfl
import Derived.Test.YtgnjilecndiffaaGreatDoorP7
set_option linter.all false
set_option maxRecDepth 1000000
set_option maxHeartbeats 0
namespace Go.Sx
def posOf (n:Nat) (keep:List Nat) (b:Nat):Option Nat:=match Nat.blt b n with
 | true=>some b
 | false=>(place keep b).map (n+·)
def renCap (π:Nat→Option Nat) (c:Nat×Nat):Option (Nat×Nat):=match π c.1 with
 | some b=>some (b,c.2)
 | none=>none
def renL (π:Nat→Option Nat):LV→Option LV
 | .p x=>some (.p x)
 | .pref cs o=>some (.pref cs o)
 | .ref b o=>match π b with
  | some b=>some (.ref b o)
  | none=>none
 | .lsl b o n z=>match π b with
  | some b=>some (.lsl b o n z)
  | none=>none
 | .map b=>match π b with
  | some b=>some (.map b)
  | none=>none
 | .yld b=>match π b with
  | some b=>some (.yld b)
  | none=>none
 | .ifc t b o=>match π b with
  | some b=>some (.ifc t b o)
  | none=>none
 | .fn f caps=>match mapOpt (renCap π) caps with
  | some l=>some (.fn f l)
  | none=>none
def renW (π:Nat→Option Nat):RW→Option RW
 | .one x=>match renL π x with
  | some y=>some (.one y)
  | none=>none
 | .agg xs=>match mapOpt (renL π) xs with
  | some ys=>some (.agg ys)
  | none=>none
def renR (π:Nat→Option Nat):RV→Option RV
 | .v x=>match renW π x with
  | some y=>some (.v y)
  | none=>none
 | .tup xs=>match mapOpt (renW π) xs with
  | some ys=>some (.tup ys)
  | none=>none
def renEnt (π:Nat→Option Nat) (e:Value×RW):Option (Value×RW):=match renW π e.2 with
 | some y=>some (e.1,y)
 | none=>none
def renOb (π:Nat→Option Nat):Ob→Option Ob
 | .cells cs fz=>match mapOpt (renL π) cs with
  | some l=>some (.cells l fz)
  | none=>none
 | .map es=>match mapOpt (renEnt π) es with
  | some l=>some (.map l)
  | none=>none
 | .iter s p=>some (.iter s p)
 | .gone=>some .gone
 | .loop _=>none
 | .tc t cs f=>match mapOpt (renL π) cs with
  | some l=>some (.tc t l f)
  | none=>none
def renAt (π:Nat→Option Nat) (hp:List Ob) (b:Nat):Option Ob:=match hp[b]? with
 | some o=>renOb π o
 | none=>none
def renH (n:Nat) (keep:List Nat) (hp:List Ob):Option (List Ob):=mapOpt (renAt (posOf n keep) hp) (List.range n++keep)
def mixR (π:Nat→Option Nat) (J:Nat→RV):Nat→List Bool→List RV→Option (List RV)
 | _,_,[]=>some []
 | i,true::l,r::rs=>match renR π r,mixR π J (i+1) l rs with
  | some r',some rs'=>some (r'::rs')
  | _,_=>none
 | i,false::l,r::rs=>match mixR π J (i+1) l rs with
  | some rs'=>some (J i::rs')
  | none=>none
 | i,[],r::rs=>match mixR π J (i+1) [] rs with
  | some rs'=>some (J i::rs')
  | none=>none
def keepOk (n:Nat) (keep:List Nat):Bool:=keep.all (fun b=>Nat.ble n b) && decide keep.Nodup
theorem place_get:∀{as:List Nat} {i k:Nat},place as i=some k→as[k]? =some i
 | [],i,k,h=>by simp [place] at h
 | a::as,i,k,h=>by
  simp only [place] at h;split at h
  ·grind
  ·simp only [Option.map_eq_some_iff] at h;obtain ⟨k',h',rfl⟩:=h
   simpa using place_get h'
theorem mapOpt_inv {α β:Type} {f:α→Option β}:∀{l:List α} {r:List β},mapOpt f l=some r→r.length=l.length∧∀(i:Nat) y,r[i]? =some y→∃x,l[i]? =some x∧f x=some y
 | [],r,h=>by simp [mapOpt] at h;simp_all
 | x::l,r,h=>by
  simp only [mapOpt] at h;split at h
  ·rename_i y ys h1 h2;simp at h;subst h;obtain ⟨k1,k2⟩:=mapOpt_inv h2
   grind
  ·simp at h
section
variable {G:Globs} {A:Nat→Prop} {S S':Where} {w:World} {π:Nat→Option Nat}
theorem renL_rel (hπ:∀b b',π b=some b'→S' b'=S b) {x x':LV} {v:Value} (h:renL π x=some x') (hr:Rel A S w x v):Rel A S' w x' v:=by
 cases x with
 | p x=>simp [renL] at h;subst h;exact hr
 | pref cs o=>simp [renL] at h;subst h;exact hr
 | ref b o=>
  simp only [renL] at h;split at h
  ·rename_i b' hb;simp at h;subst h;obtain ⟨B,d,h1,rfl⟩:=hr;exact ⟨B,d,(hπ _ _ hb).trans h1,rfl⟩
  ·simp at h
 | lsl b o n z=>
  simp only [renL] at h;split at h
  ·rename_i b' hb;simp at h;subst h;obtain ⟨B,d,q,cap,h1,rest⟩:=hr;exact ⟨B,d,q,cap,(hπ _ _ hb).trans h1,rest⟩
  ·simp at h
 | map b=>
  simp only [renL] at h;split at h
  ·rename_i b' hb;simp at h;subst h;obtain ⟨B,d,h1,rfl⟩:=hr;exact ⟨B,d,(hπ _ _ hb).trans h1,rfl⟩
  ·simp at h
 | yld b=>
  simp only [renL] at h;split at h
  ·rename_i b' hb;simp at h;subst h;obtain ⟨B,d,h1,rfl⟩:=hr;exact ⟨B,d,(hπ _ _ hb).trans h1,rfl⟩
  ·simp at h
 | ifc t b o=>
  simp only [renL] at h;split at h
  ·rename_i b' hb;simp at h;subst h;obtain ⟨B,d,h1,rfl⟩:=hr;exact ⟨B,d,(hπ _ _ hb).trans h1,rfl⟩
  ·simp at h
 | fn f caps=>
  simp only [renL] at h;split at h
  ·rename_i l hl;simp at h;subst h;obtain ⟨ps,rfl,h1,h2⟩:=hr;obtain ⟨k1,k2⟩:=mapOpt_inv hl;refine ⟨ps,rfl,h1.trans k1.symm,fun i b o hi=> ?_⟩;obtain ⟨⟨b0,o0⟩,q1,q2⟩:=k2 i _ hi;unfold renCap at q2
   grind
  ·simp at h
theorem renLs_rel (hπ:∀b b',π b=some b'→S' b'=S b) {xs ys:List LV} {vs:List Value} (h:mapOpt (renL π) xs=some ys) (hr:RelL A S w xs vs):RelL A S' w ys vs:=by
 obtain ⟨k1,k2⟩:=mapOpt_inv h;refine ⟨hr.1.trans k1.symm,fun i y hy=> ?_⟩;obtain ⟨x,h1,h2⟩:=k2 i y hy;obtain ⟨v,h3,h4⟩:=hr.2 i x h1;exact ⟨v,h3,renL_rel hπ h2 h4⟩
theorem renW_rel (hπ:∀b b',π b=some b'→S' b'=S b) {x y:RW} {v:Value} (h:renW π x=some y) (hr:RelW A S w x v):RelW A S' w y v:=by
 cases x with
 | one x=>
  simp only [renW] at h;split at h
  ·rename_i y' hy;simp at h;subst h;exact renL_rel hπ hy hr
  ·simp at h
 | agg xs=>
  simp only [renW] at h;split at h
  ·rename_i ys hy;simp at h;subst h;obtain ⟨vs,rfl,hl⟩:=hr;exact ⟨vs,rfl,renLs_rel hπ hy hl⟩
  ·simp at h
theorem renR_rel (hπ:∀b b',π b=some b'→S' b'=S b) {x y:RV} {v:Value} (h:renR π x=some y) (hr:RelR A S w x v):RelR A S' w y v:=by
 cases x with
 | v x=>
  simp only [renR] at h;split at h
  ·rename_i y' hy;simp at h;subst h;exact renW_rel hπ hy hr
  ·simp at h
 | tup xs=>
  simp only [renR] at h;split at h
  ·rename_i ys hy;simp at h;subst h;obtain ⟨k1,k2⟩:=mapOpt_inv hy;obtain ⟨vs,rfl,hl,hc⟩:=hr;refine ⟨vs,rfl,hl.trans k1.symm,fun i y hi=> ?_⟩;obtain ⟨x,h1,h2⟩:=k2 i y hi;obtain ⟨u,h3,h4⟩:=hc i x h1;exact ⟨u,h3,renW_rel hπ h2 h4⟩
  ·simp at h
theorem junkW {x:RW} {v:Value} (h:RelW A S w x v):∃y,RelW A S' w y v:=by
 cases x with
 | one x=>exact ⟨.one (.p (.vl v)),EncP.vl v (Rel.single h)⟩
 | agg xs=>
  obtain ⟨vs,rfl,hl,hc⟩:=h;refine ⟨.agg (vs.toList.map fun u=> .p (.vl u)),vs,rfl,by simp,fun i x hi=> ?_⟩;rw [List.getElem?_map] at hi;cases hu:vs.toList[i]? with
  | none=>simp_all
  | some u=>
   rw [hu] at hi;simp at hi;subst hi;refine ⟨u,rfl,EncP.vl u ?_⟩;have hlt:i<xs.length:=by rw [← hl];exact (List.getElem?_eq_some_iff.1 hu).1
   obtain ⟨u',h1,h2⟩:=hc i xs[i] (List.getElem?_eq_getElem hlt);rw [hu] at h1;simp at h1;subst h1;exact Rel.single h2
theorem junkR {x:RV} {v:Value} (h:RelR A S w x v):∃y,RelR A S' w y v:=by
 cases x with
 | v x=>obtain ⟨y,hy⟩:=junkW (S':=S') h;exact ⟨.v y,hy⟩
 | tup xs=>
  obtain ⟨vs,rfl,hl,hc⟩:=h;have hex:∀i:Nat,∃y:RW,∀x,xs[i]? =some x→∃u,vs[i]? =some u∧RelW A S' w y u:=by
   intro i;cases hx:xs[i]? with
   | none=>exact ⟨.agg [],by simp⟩
   | some x=>
    obtain ⟨u,h1,h2⟩:=hc i x hx;obtain ⟨y,hy⟩:=junkW (S':=S') h2;exact ⟨y,fun x' _=>⟨u,h1,hy⟩⟩
  let f:Nat→RW:=fun i=>Classical.choose (hex i)
  refine ⟨.tup ((List.range xs.length).map f),vs,rfl,by simp [hl],fun i x hi=> ?_⟩
  grind
theorem mixR_get {J:Nat→RV}:∀{rs rs':List RV} {i:Nat} {lv:List Bool},mixR π J i lv rs=some rs'→rs'.length=rs.length∧∀(k:Nat) r',rs'[k]? =some r'→∃r,rs[k]? =some r∧(renR π r=some r'∨r'=J (i+k))
 | [],rs',i,lv,h=>by
  have:rs'=[]:=by cases lv<;>(simp [mixR] at h;exact h)
  simp_all
 | r::rs,rs',i,lv,h=>by
  have dead:∀{l},(match mixR π J (i+1) l rs with
    | some rs'=>some (J i::rs')
    | none=>none)=some rs'→rs'.length=(r::rs).length∧∀(k:Nat) r',rs'[k]? =some r'→∃r0,(r::rs)[k]? =some r0∧(renR π r0=some r'∨r'=J (i+k)):=by
   intro l h;split at h
   ·rename_i rs2 h2;simp at h;subst h;obtain ⟨k1,k2⟩:=mixR_get h2
    grind
   ·simp at h
  match lv with
  | []=>simp only [mixR] at h;exact dead h
  | false::l=>simp only [mixR] at h;exact dead h
  | true::l=>
   simp only [mixR] at h;split at h
   ·rename_i r1 rs2 h1 h2;simp at h;subst h;obtain ⟨k1,k2⟩:=mixR_get h2
    grind
   ·simp at h
theorem renOb_mut {o o':Ob} (h:renOb π o=some o'):mutOb o'=mutOb o∧liveOb o'=liveOb o:=by
 cases o<;>simp only [renOb] at h
 ·split at h
  ·simp at h;subst h;exact ⟨rfl,rfl⟩
  ·simp at h
 ·split at h
  ·simp at h;subst h;exact ⟨rfl,rfl⟩
  ·simp at h
 ·simp_all
 ·simp at h
 ·simp_all
 ·split at h
  ·simp at h;subst h;exact ⟨rfl,rfl⟩
  ·simp at h
theorem renOb_rel (hπ:∀b b',π b=some b'→S' b'=S b) {b b':Nat} {o o':Ob} (hb:S' b'=S b) (h:renOb π o=some o') (hr:ObRel A S w b o):ObRel A S' w b' o':=by
 cases o with
 | cells cs fz=>
  simp only [renOb] at h;split at h
  ·rename_i l hl;simp at h;subst h;obtain ⟨B,d,c,e,fr,h1,h2,h3,h4,h5,h6⟩:=hr;obtain ⟨k1,k2⟩:=mapOpt_inv hl;refine ⟨B,d,c,e,fr,hb.trans h1,h2,by omega,h4,h5,fun i x hi=> ?_⟩;obtain ⟨x0,q1,q2⟩:=k2 i x hi;obtain ⟨v,u1,u2⟩:=h6 i x0 q1;exact ⟨v,u1,renL_rel hπ q2 u2⟩
  ·simp at h
 | map es=>
  simp only [renOb] at h;split at h
  ·rename_i l hl;simp at h;subst h;obtain ⟨B,d,ents,clock,h1,h2,h3,h4⟩:=hr;obtain ⟨k1,k2⟩:=mapOpt_inv hl;refine ⟨B,d,ents,clock,hb.trans h1,h2,h3.trans k1.symm,fun i k x hi=> ?_⟩;obtain ⟨⟨k0,x0⟩,q1,q2⟩:=k2 i _ hi;unfold renEnt at q2;split at q2
   ·rename_i y hy;simp at q2;obtain ⟨rfl,rfl⟩:=q2;obtain ⟨e,u1,u2,u3⟩:=h4 i _ _ q1;exact ⟨e,u1,u2,renW_rel hπ hy u3⟩
   ·simp at q2
  ·simp at h
 | iter s p=>
  simp [renOb] at h;subst h;obtain ⟨B,h1,h2⟩:=hr;exact ⟨B,hb.trans h1,h2⟩
 | gone=>simp [renOb] at h;subst h;trivial
 | loop r=>simp [renOb] at h
 | tc t cs f=>
  simp only [renOb] at h;split at h
  ·rename_i l hl;simp at h;subst h;obtain ⟨B,c,fr,h1,h2,h3,h4,h5,h6⟩:=hr;obtain ⟨k1,k2⟩:=mapOpt_inv hl;refine ⟨B,c,fr,hb.trans h1,h2,by omega,by simp_all,by omega,fun i x hi=> ?_⟩;obtain ⟨x0,q1,q2⟩:=k2 i x hi;obtain ⟨v,u1,u2⟩:=h6 i x0 q1;exact ⟨v,u1,renL_rel hπ q2 u2⟩
  ·simp at h
theorem AbsP.ren {n:Nat} {regs:List RV} {hp hp':List Ob} {f:(Nat→RV)→List RV} (keep:List Nat) (lv:List Bool) (hk:keepOk n keep=true) (hh:renH n keep hp=some hp')
  (hm:∀J,mixR (posOf n keep) J 0 lv regs=some (f J)):AbsP G n ⟨regs,hp⟩ fun st'=>∃J,st'=⟨f J,hp'⟩:=by
 intro A S w t hs hr hn;simp only at hs hr hn;unfold keepOk at hk;rw [Bool.and_eq_true,decide_eq_true_eq] at hk;obtain ⟨hge,hnd⟩:=hk;have hge:∀b∈keep,n≤b:=fun b hb=>by simp_all
 let S':Where:=fun b=>if b<n then S b else match keep[b - n]? with
  | some b0=>S b0
  | none=>none
 have hπ:∀b b',posOf n keep b=some b'→S' b'=S b:=by
  intro b b' h;unfold posOf at h;split at h
  ·rename_i hb;rw [Nat.blt_eq] at hb
   grind
  ·simp only [Option.map_eq_some_iff] at h;obtain ⟨k,h1,rfl⟩:=h;simp [S',place_get h1,Nat.not_lt.2 (Nat.le_add_right n k)]
 obtain ⟨hl',hg'⟩:=mapOpt_inv hh;have hlen:hp'.length=n+keep.length:=by rw [hl'];simp
 have hget:∀{b':Nat} {o':Ob},hp'[b']? =some o'→∃b o,(List.range n++keep)[b']? =some b∧hp[b]? =some o∧renOb (posOf n keep) o=some o'∧S' b'=S b:=by
  intro b' o' h;obtain ⟨b,h1,h2⟩:=hg' b' o' h;unfold renAt at h2;split at h2
  ·grind
  ·simp at h2
 have hnd':(List.range n++keep).Nodup:=by
  rw [List.nodup_append];refine ⟨List.nodup_range,hnd,fun a ha b hb=> ?_⟩;have:=List.mem_range.1 ha;have:=hge b hb;omega
 have hown:∀B,Owned S' hp' B→Owned S hp B:=by
  rintro B ⟨b',o',d,h1,h2,h3⟩;obtain ⟨b,o,q1,q2,q3,q4⟩:=hget h1;exact ⟨b,o,d,q2,by rw [← (renOb_mut q3).1];exact h2,by simp_all⟩
 let J:Nat→RV:=fun i=>match Classical.propDecidable (∃r',RelR A S' w r' (t.getD i undef)) with
  | .isTrue h=>Classical.choose h
  | .isFalse _=>undefR
 have hJ:∀i,(∃r',RelR A S' w r' (t.getD i undef))→RelR A S' w (J i) (t.getD i undef):=by
  intro i h
  show RelR A S' w (match Classical.propDecidable (∃r',RelR A S' w r' (t.getD i undef)) with
   | .isTrue h=>Classical.choose h
   | .isFalse _=>undefR) _
  split
  ·rename_i h' _;exact Classical.choose_spec h'
  ·rename_i h' _;exact absurd h h'
 refine ⟨⟨f J,hp'⟩,S',⟨J,rfl⟩,by simp_all,?_,?_,fun b hb=>by simp [S',hb],hown⟩
 ·refine ⟨fun b' o' h=> ?_,fun B hA ho=>hs.dis B hA (hown B ho),hs.lt,fun b1 b2 o1 o2 B d d' hne h1 h2 h3 h4 h5 h6=> ?_,fun b B d h=> ?_,hs.gl⟩
  ·obtain ⟨b,o,q1,q2,q3,q4⟩:=hget h;exact renOb_rel hπ q4 q3 (hs.ob b o q2)
  ·obtain ⟨c1,p1,q1,q2,q3,q4⟩:=hget h1;obtain ⟨c2,p2,u1,u2,u3,u4⟩:=hget h3;refine hs.inj c1 c2 p1 p2 B d d' ?_ q2 (by rw [← (renOb_mut q3).1];exact h2) u2 (by rw [← (renOb_mut u3).2];exact h4) (by simp_all) (by simp_all);rintro rfl;exact hne ((List.getElem?_inj (List.getElem?_eq_some_iff.1 q1).1 hnd').1 (q1.trans u1.symm))
  grind
 ·obtain ⟨k1,k2⟩:=mixR_get (hm J);refine ⟨hr.1.trans k1.symm,fun i r' hi=> ?_⟩;obtain ⟨r,q1,q2⟩:=k2 i r' hi;obtain ⟨v,u1,u2⟩:=hr.2 i r q1;refine ⟨v,u1,?_⟩
  rcases q2 with q2 | q2
  ·exact renR_rel hπ q2 u2
  ·have hv:t.getD i undef=v:=by simp [u1]
   rw [q2,Nat.zero_add,← hv];exact hJ i (by rw [hv];exact junkR u2)
end
end Go.Sx
namespace Go.Sx
def Fin (P:Program) (G:Globs) (n:Nat) (fn:FuncId) (todo:List Item) (st:St) (Q:St→Prop):Prop:=
 ∀⦃A:Nat→Prop⦄ ⦃S:Where⦄ ⦃w:World⦄ ⦃t:Array Value⦄ ⦃b:Frame⦄ ⦃cs:List Frame⦄ ⦃base:Bs⦄,n≤st.hp.length→Sim G A S st.hp w→RelRs A S w st.regs t→b.fn=fn→b.roundOf=none→
  Marks A S st.hp w base b.defers→base.n≤w.heap.size→
  ∃st' t' A' S' w' ds todo',Q st'∧Steps P (lone (Fr b t todo) cs w) (lone {Fr {b with defers:=ds} t' todo' with mode:= .returning} cs w')∧RelRs A' S' w' st'.regs t'∧Sim G A' S' st'.hp w'∧ExtW n A S st.hp w A' S' st'.hp w'∧Marks A' S' st'.hp w' base ds
section
variable {P:Program} {T:Tab} {G:Globs} {n:Nat} {fn:FuncId} {k:List Item} {st:St} {Q:St→Prop}
theorem Fin.step {todo todo':List Item} (hst:∀(b:Frame) (t:Array Value) (cs:List Frame) (w:World),step P (lone (Fr b t todo) cs w)= .next (lone (Fr b t todo') cs w)) (h:Fin P G n fn todo' st Q):Fin P G n fn todo st Q:=by
 intro A S w t b cs base hn hs hr hf hro hm hb;obtain ⟨st',t',A',S',w',ds,td,h1,h2,h3⟩:=h (b:=b) (cs:=cs) hn hs hr hf hro hm hb;exact ⟨st',t',A',S',w',ds,td,h1,.head (hst b t cs w) h2,h3⟩
theorem Fin.ret (h:Q st):Fin P G n fn (.code .ret::k) st Q:=by
 intro A S w t b cs base hn hs hr hf hro hm hb;refine ⟨st,t,A,S,w,b.defers,.code .ret::k,h,Steps.one' (fr_ret hro),hr,hs,?_,hm⟩;exact (Ext.refl).weak hn
theorem Fin.done (h:Q st):Fin P G n fn [] st Q:=by
 intro A S w t b cs base hn hs hr hf hro hm hb;exact ⟨st,t,A,S,w,b.defers,[],h,Steps.one' (fr_end hro),hr,hs,(Ext.refl).weak hn,hm⟩
theorem Fin.abs {todo:List Item} {F:St→Prop} (ha:AbsP G n st F) (h:∀st',F st'→Fin P G n fn todo st' Q):Fin P G n fn todo st Q:=by
 intro A S w t b cs base hn hs hr hf hro hm hb;obtain ⟨st',S',hF,hlen,hs',hr',h1,h2⟩:=ha A S w t hs hr hn;have hx:ExtW n A S st.hp w A S' st'.hp w:=AbsP.extW hlen h1 h2;obtain ⟨st2,t2,A2,S2,w2,ds,td,q1,q2,q3,q4,q5,q6⟩:=h st' hF (b:=b) (cs:=cs) hlen hs' hr' hf hro (hm.extW hx) hb;exact ⟨st2,t2,A2,S2,w2,ds,td,q1,q2,q3,q4,hx.trans q5,q6⟩
theorem Fin.go {todo todo':List Item} {F:St→Prop}
  (hgo:∀{A:Nat→Prop} {S:Where} {w:World} {t:Array Value} {b:Frame} {cs:List Frame},Sim G A S st.hp w→RelRs A S w st.regs t→b.fn=fn→
   ∃st' t' A' S' w',F st'∧Steps P (lone (Fr b t todo) cs w) (lone (Fr b t' todo') cs w')∧RelRs A' S' w' st'.regs t'∧Sim G A' S' st'.hp w'∧Ext A S st.hp w A' S' st'.hp w')
  (h:∀st',F st'→Fin P G n fn todo' st' Q):Fin P G n fn todo st Q:=by
 intro A S w t b cs base hn hs hr hf hro hm hb;obtain ⟨st',t',A',S',w',hF,hst,hr',hs',hx⟩:=hgo (cs:=cs) hs hr hf;have hxw:=hx.weak hn;obtain ⟨st2,t2,A2,S2,w2,ds,td,q1,q2,q3,q4,q5,q6⟩:=h st' hF (b:=b) (cs:=cs) hxw.len hs' hr' hf hro (hm.extW hxw) (Nat.le_trans hb hx.size);exact ⟨st2,t2,A2,S2,w2,ds,td,q1,hst.trans q2,q3,q4,hxw.trans q5,q6⟩
theorem Fin.op [TOk P T] (hwf:WFP T) {ops:Array Oper} {i:Nat} {is:List Nat} {o:Oper} (ho:ops[i]? =some o) (hw:wantedR ops st.regs o=some true) (h:opK P T G (CalOk P G) o st fun st'=>Fin P G n fn (.inRegion ops is::k) st' Q):
  Fin P G n fn (.inRegion ops (i::is)::k) st Q:=by
 refine Fin.go (F:=fun st'=>Fin P G n fn (.inRegion ops is::k) st' Q) ?_ (fun _ h=>h);intro A S w t b cs hs hr hf;exact opK_sound hwf ho (wantedR_ok hr hw) hs hr h
theorem Fin.skipOp {ops:Array Oper} {i:Nat} {is:List Nat} {o:Oper} (ho:ops[i]? =some o) (hw:wantedR ops st.regs o=some false) (h:Fin P G n fn (.inRegion ops is::k) ⟨putR st.regs o.dst undefR,st.hp⟩ Q):
  Fin P G n fn (.inRegion ops (i::is)::k) st Q:=by
 refine Fin.go (F:=fun st'=>st'=⟨putR st.regs o.dst undefR,st.hp⟩) ?_ (fun _ e=>by rw [e];exact h);intro A S w t b cs hs hr hf;have hwt:=wantedR_ok hr hw;have hskip:=fr_opSkip (P:=P) (b:=b) (t:=t) (k:=k) (cs:=cs) (w:=w) (ops:=ops) (i:=i) (rest:=is) (by simp [ho,hwt]);rw [ho] at hskip;simp only [Option.bind_some] at hskip;exact ⟨_,_,A,S,w,rfl,Steps.one' hskip,hr.put undefR_rel,hs,Ext.refl⟩
theorem Fin.cond {c:Operand} {x y:Code} {u:Bool} (hc:goodX c=true) (hu:evR st.regs c=atR (.bool u)) (h:Fin P G n fn (.code (if u then x else y)::k) st Q):Fin P G n fn (.code (.cond c x y)::k) st Q:=by
 refine Fin.go (F:=fun st'=>st'=st) ?_ (fun _ e=>by rw [e];exact h);intro A S w t b cs hs hr hf;have hrc:=evR_rel hr hc;rw [hu] at hrc;have hv:evT t c= .bool u:=by
  generalize evT t c=v at hrc;cases hrc;rfl
 exact ⟨st,t,A,S,w,rfl,Steps.one' (fr_cond hv),hr,hs,Ext.refl⟩
theorem Fin.draw {id:Nat} {ops:Array Oper} (h:DrawOk P G ops st fun st'=>Fin P G n fn k st' Q):Fin P G n fn (.code (.region id ops true)::k) st Q:=by
 refine Fin.go (F:=fun st'=>Fin P G n fn k st' Q) ?_ (fun _ h=>h);intro A S w t b cs hs hr hf;exact h A S w t b k cs id hs hr
theorem Fin.ind {α:Type} (I:α→Prop) (μ:α→Nat) (s:α→(Nat→RV)→St) {todo:List Item} (h:∀x,I x→(∀x',I x'→μ x'<μ x→∀J,Fin P G n fn todo (s x' J) Q)→∀J,Fin P G n fn todo (s x J) Q):∀x,I x→∀J,Fin P G n fn todo (s x J) Q:=by
 have key:∀(m:Nat) x,μ x<m→I x→∀J,Fin P G n fn todo (s x J) Q:=by
  intro m
  induction m with
  | zero=>omega
  | succ m ih=>grind
 grind
def advS (P:Program) (T:Tab) (G:Globs):List Item→St→Option (List Item×St)
 | .code .skip::k,st=>some (k,st)
 | .code (.label _)::k,st=>some (k,st)
 | .code (.seq a b)::k,st=>some (.code a:: .code b::k,st)
 | .code (.block id c)::k,st=>some (.code c:: .inBlock id::k,st)
 | .code (.cond c x y)::k,st=>match goodX c with
  | true=>match evR st.regs c with
   | .v (.one (.p (.vl (.bool u))))=>match u with
    | true=>some (.code x::k,st)
    | false=>some (.code y::k,st)
   | _=>none
  | false=>none
 | .code (.exit id)::k,st=>match exitTo id k with
  | some k'=>some (k',st)
  | none=>none
 | .code (.region _ ops false)::k,st=>some (.inRegion ops (List.range ops.size)::k,st)
 | .inBlock _::k,st=>some (k,st)
 | .code (.loop c)::k,st=>some (.code c:: .inLoop c::k,st)
 | .inLoop c::k,st=>some (.code c:: .inLoop c::k,st)
 | .inRegion _ []::k,st=>some (k,st)
 | .inRegion ops (i::is)::k,st=>match ops[i]? with
  | some o=>match wantedR ops st.regs o with
   | some false=>some (.inRegion ops is::k,⟨putR st.regs o.dst undefR,st.hp⟩)
   | some true=>match goodO o with
    | true=>match callOf o.op with
     | none=>match opA P T G (evR st.regs) o st.hp with
      | some (r,hp)=>some (.inRegion ops is::k,⟨putR st.regs o.dst r,hp⟩)
      | none=>none
     | some _=>none
    | false=>none
   | none=>none
  | none=>none
 | _,_=>none
theorem Fin.advS [TOk P T] (hwf:WFP T) {todo todo':List Item} {st':St} (h:advS P T G todo st=some (todo',st')) (hf:Fin P G n fn todo' st' Q):Fin P G n fn todo st Q:=by
 unfold Sx.advS at h;split at h
 ·simp at h;obtain ⟨rfl,rfl⟩:=h;exact Fin.step (fun _ _ _ _=>fr_skip) hf
 ·simp at h;obtain ⟨rfl,rfl⟩:=h;exact Fin.step (fun _ _ _ _=>fr_label) hf
 ·simp at h;obtain ⟨rfl,rfl⟩:=h;exact Fin.step (fun _ _ _ _=>fr_seq) hf
 ·simp at h;obtain ⟨rfl,rfl⟩:=h;exact Fin.step (fun _ _ _ _=>fr_block) hf
 ·split at h
  ·rename_i hg;split at h
   ·rename_i u hu;split at h
    ·simp at h;obtain ⟨rfl,rfl⟩:=h;exact Fin.cond hg hu hf
    ·simp at h;obtain ⟨rfl,rfl⟩:=h;exact Fin.cond hg hu hf
   ·simp at h
  ·simp at h
 ·split at h
  ·rename_i k' he;simp at h;obtain ⟨rfl,rfl⟩:=h;exact Fin.step (fun _ _ _ _=>fr_exit he) hf
  ·simp at h
 ·simp at h;obtain ⟨rfl,rfl⟩:=h;exact Fin.step (fun _ _ _ _=>fr_region) hf
 ·simp at h;obtain ⟨rfl,rfl⟩:=h;exact Fin.step (fun _ _ _ _=>fr_inBlock) hf
 ·simp at h;obtain ⟨rfl,rfl⟩:=h;exact Fin.step (fun _ _ _ _=>fr_loop) hf
 ·simp at h;obtain ⟨rfl,rfl⟩:=h;exact Fin.step (fun _ _ _ _=>fr_inLoop) hf
 ·simp at h;obtain ⟨rfl,rfl⟩:=h;exact Fin.step (fun _ _ _ _=>fr_regionEnd) hf
 ·split at h
  ·rename_i o ho;split at h
   ·rename_i hw;simp at h;obtain ⟨rfl,rfl⟩:=h;exact Fin.skipOp ho hw hf
   ·rename_i hw;split at h
    ·rename_i hg;split at h
     ·rename_i hc;split at h
      ·rename_i r hp hop;simp at h;obtain ⟨rfl,rfl⟩:=h;exact Fin.op hwf ho hw (opK_plain hg hc hop hf)
      ·simp at h
     ·simp at h
    ·simp at h
   ·simp at h
  ·simp at h
 ·simp at h
noncomputable def adv (P:Program) (T:Tab) (G:Globs) (m:Nat):List Item→St→List Item×St:=
 Nat.rec (motive:=fun _=>List Item→St→List Item×St) (fun todo st=>(todo,st)) (fun _ ih todo st=>match advS P T G todo st with
  | some (todo',st')=>ih todo' st'
  | none=>(todo,st)) m
theorem Fin.adv [TOk P T] (hwf:WFP T):∀(m:Nat) {todo todo':List Item} {st st':St},adv P T G m todo st=(todo',st')→Fin P G n fn todo' st' Q→Fin P G n fn todo st Q
 | 0,todo,todo',st,st',h,hf=>by
  have:(todo,st)=(todo',st'):=h
  simp_all
 | m+1,todo,todo',st,st',h,hf=>by
  have h:(match Sx.advS P T G todo st with
   | some (todo',st')=>Sx.adv P T G m todo' st'
   | none=>(todo,st))=(todo',st'):=h
  split at h
  ·rename_i td s hs;exact Fin.advS hwf hs (Fin.adv hwf m h hf)
  simp_all
theorem Fin.call [TOk P T] (hwf:WFP T) {ops:Array Oper} {i:Nat} {is:List Nat} {o:Oper} {f:Operand} {args:List Operand} {c:Cal} {as:List RV} (ho:ops[i]? =some o) (hw:wantedR ops st.regs o=some true) (hg:goodO o=true) (hc:callOf o.op=some (f,args))
  (hcal:calOf (evR st.regs f) (args.map (evR st.regs))=some (c,as)) (h:CalOk P G c as st.hp fun r hp=>Fin P G n fn (.inRegion ops is::k) ⟨putR st.regs o.dst r,hp⟩ Q):Fin P G n fn (.inRegion ops (i::is)::k) st Q:=
 Fin.op hwf ho hw (opK_call hg hc hcal h)
theorem CalOk.of_fin [TOk P T] {f:FuncId} {fn:Func} {c:Code} {args:List RV} {L:List Ob} {Q:RV→List Ob→Prop} (hf:P.funcs[f]? =some fn) (hb:fn.body=some c) (hn:fn.name≠ "runtime.NumGoroutine")
  (h:Fin P G L.length f [.code c] ⟨regs0 fn args,L⟩ fun st=>∃r,resultsR T G fn st=some r∧Q r st.hp):CalOk P G (.fn f) args L Q:=by
 refine .inl ⟨⟨fn,hf,by simp [hb],hn⟩,fun A S w vs hs hvs c' cs=> ?_⟩
 let b:Frame:={fn:=f,tmps:=#[],todo:=[],defers:=[],mode:= .run,kind:= .normal,roundOf:=none}
 have henter:Frame.enter P f vs.toArray .normal=Fr b (vs.toArray++Array.replicate (fn.ntmps - vs.toArray.size) undef) [.code c]:=by
  simp [Frame.enter,Fr,hf,hb,b]
 rw [henter];have hm0:Marks A S L w ⟨w.heap.size,[]⟩ b.defers:=⟨[],rfl,List.Pairwise.nil,fun d hd=>by cases hd⟩
 obtain ⟨st,t,A',S',w',ds,td,⟨r,hres,hQ⟩,hst,hr',hs',hx,hm⟩:=h (b:=b) (cs:=c'::cs) (Nat.le_refl _) hs (regs0_rel hvs) rfl rfl hm0 (Nat.le_refl _);have hx:=hx.strong hs;obtain ⟨w2,k1,k2,k3,k4⟩:=marks_taken (P:=P) (fr:={Fr {b with defers:=ds} t td with mode:= .returning}) (cs:=c'::cs) rfl (Nat.le_refl _) ds w' rfl hm hs' hr' hx;obtain ⟨v,hv,hrel⟩:=resultsR_ok (P:=P) (fn:=fn) (regs:=st.regs) k2 k3 hres;have hleave:({{Fr {b with defers:=ds} t td with mode:= .returning} with defers:=[]}:Frame).leaving P w2 (.returned v):=⟨rfl,rfl,rfl,fn,hf,hv⟩
 exact ⟨r,st.hp,v,A',S',w2,hQ,hst.trans (k1.trans (Steps.one' (step_leave_returned hleave))),hrel,k2,k4⟩
theorem Calls.of_fin [TOk P T] {f:FuncId} {fn:Func} {c:Code} {args:List RV} {vs:List Value} {A:Nat→Prop} {S:Where} {w:World} {Q:RV→Prop} (hf:P.funcs[f]? =some fn) (hb:fn.body=some c)
  (hs:Sim G A S [] w) (hvs:RelV A S w args vs)
  (h:Fin P G 0 f [.code c] ⟨regs0 fn args,[]⟩ fun st=>∃r,resultsR T G fn st=some r∧Q r):
  Calls P f vs.toArray w fun e w'=>∃r v A' S',e= .returned v∧Q r∧RelR A' S' w' r v∧Same w w':=by
 intro cs
 let b:Frame:={fn:=f,tmps:=#[],todo:=[],defers:=[],mode:= .run,kind:= .normal,roundOf:=none}
 have henter:Frame.enter P f vs.toArray .normal=Fr b (vs.toArray++Array.replicate (fn.ntmps - vs.toArray.size) undef) [.code c]:=by
  simp [Frame.enter,Fr,hf,hb,b]
 rw [henter];have hm0:Marks A S [] w ⟨w.heap.size,[]⟩ b.defers:=⟨[],rfl,List.Pairwise.nil,fun d hd=>by cases hd⟩
 obtain ⟨st,t,A',S',w',ds,td,⟨r,hres,hQ⟩,hst,hr',hs',hx,hm⟩:=h (b:=b) (cs:=cs) (Nat.le_refl _) hs (regs0_rel hvs) rfl rfl hm0 (Nat.le_refl _);have hx:=ExtW.strong (L:=[]) hs hx;obtain ⟨w2,k1,k2,k3,k4⟩:=marks_taken (P:=P) (fr:={Fr {b with defers:=ds} t td with mode:= .returning}) (cs:=cs) rfl (Nat.le_refl _) ds w' rfl hm hs' hr' hx;obtain ⟨v,hv,hrel⟩:=resultsR_ok (P:=P) (fn:=fn) (regs:=st.regs) k2 k3 hres;have hleave:({{Fr {b with defers:=ds} t td with mode:= .returning} with defers:=[]}:Frame).leaving P w2 (.returned v):=⟨rfl,rfl,rfl,fn,hf,hv⟩
 exact ⟨.returned v,w2,_,⟨r,v,A',S',rfl,hQ,hrel,k4.same⟩,hst.trans k1,rfl,hleave⟩
end
end Go.Sx
namespace Go.Sx
def posT:Code→List Nat→List Item→List Item
 | .seq a b,0::p,k=>posT a p (.code b::k)
 | .seq _ b,_::p,k=>posT b p k
 | .block id c,_::p,k=>posT c p (.inBlock id::k)
 | .loop c,_::p,k=>posT c p (.inLoop c::k)
 | .cond _ x _,0::p,k=>posT x p k
 | .cond _ _ y,_::p,k=>posT y p k
 | .region _ ops _,j::_,k=> .inRegion ops (List.range' j (ops.size - j))::k
 | c,_,k=> .code c::k
def lookR (i:Nat):List (Nat×RV)→Option RV
 | []=>none
 | (j,r)::l=>match Nat.beq i j with
  | true=>some r
  | false=>lookR i l
def regsOf (n:Nat) (l:List (Nat×RV)) (J:Nat→RV):List RV:=(List.range n).map fun i=>match lookR i l with
 | some r=>r
 | none=>J i
def lvOf (n:Nat) (l:List Nat):List Bool:=(List.range n).map fun i=>l.contains i
section
variable {P:Program} {T:Tab} {G:Globs} {n:Nat} {fn:FuncId} {st:St} {Q:St→Prop} {todo:List Item}
noncomputable def cut (P:Program) (T:Tab) (G:Globs) (m n:Nat) (keep live:List Nat) (J:Nat→RV) (todo:List Item) (st:St):Option (List Item×St):=
 match adv P T G m todo st with
 | (todo',st')=>match mixR (posOf n keep) J 0 (lvOf st'.regs.length live) st'.regs,renH n keep st'.hp with
  | some r,some h=>some (todo',⟨r,h⟩)
  | _,_=>none
theorem Fin.cut [TOk P T] (hwf:WFP T) (m:Nat) (keep live:List Nat) (hk:keepOk n keep=true) {todo':List Item} {f:(Nat→RV)→List RV} {hp':List Ob} (h:∀J,cut P T G m n keep live J todo st=some (todo',⟨f J,hp'⟩))
  (hf:∀J,Fin P G n fn todo' ⟨f J,hp'⟩ Q):Fin P G n fn todo st Q:=by
 cases ha:Sx.adv P T G m todo st with
 | mk td s=>
  have key:∀J,td=todo'∧mixR (posOf n keep) J 0 (lvOf s.regs.length live) s.regs=some (f J)∧renH n keep s.hp=some hp':=by
   intro J;have:=h J;unfold Sx.cut at this;rw [ha] at this;simp only at this;split at this
   ·simp_all
   ·simp at this
  obtain ⟨rfl,_,h3⟩:=key fun _=>undefR;refine Fin.adv hwf m ha ?_;refine Fin.abs (AbsP.ren keep (lvOf s.regs.length live) hk h3 (fun J=>(key J).2.1)) ?_
  simp_all
def isEnd:List Item→Bool
 | []=>true
 | .code .ret::_=>true
 | _=>false
theorem Fin.fin (he:isEnd todo=true) (h:Q st):Fin P G n fn todo st Q:=by
 unfold isEnd at he;split at he
 ·exact Fin.done h
 ·exact Fin.ret h
 ·simp at he
def callAt:List Item→St→Option (FuncId×List RV×List Nat×Option Tmp×List Item)
 | .inRegion ops (i::is)::k,st=>match ops[i]? with
  | some o=>match wantedR ops st.regs o with
   | some true=>match goodO o with
    | true=>match callOf o.op with
     | some (f,args)=>match calOf (evR st.regs f) (args.map (evR st.regs)) with
      | some (.fn g,as)=>match fzRs st.hp as with
       | some (as',ts)=>some (g,as',ts,o.dst,.inRegion ops is::k)
       | none=>none
      | _=>none
     | none=>none
    | false=>none
   | _=>none
  | none=>none
 | _,_=>none
theorem Fin.callV [TOk P T] (hwf:WFP T) {g:FuncId} {ags:List RV} {ts:List Nat} {dst:Option Tmp} {todo':List Item} {F:RV→Prop} (h:callAt todo st=some (g,ags,ts,dst,todo')) (hv:ValC P G g ags F)
  (hf:∀r,F r→persR r=true→Fin P G n fn todo' ⟨putR st.regs dst r,if scalarR r then st.hp else fzObs ts st.hp⟩ Q):Fin P G n fn todo st Q:=by
 unfold callAt at h;split at h
 ·split at h
  ·rename_i o ho;split at h
   ·rename_i hw;split at h
    ·rename_i hg;split at h
     ·rename_i f args hc;split at h
      ·rename_i g' as0 hcal;split at h
       ·rename_i as' ts' hz;simp only [Option.some.injEq,Prod.mk.injEq] at h;obtain ⟨rfl,rfl,rfl,rfl,rfl⟩:=h;exact Fin.call hwf ho hw hg hc hcal (CalOk.of_val hz hv fun r hr hp=>hf r hr hp)
       ·simp at h
      ·simp at h
     ·simp at h
    ·simp at h
   ·simp at h
  ·simp at h
 ·simp at h
theorem ValC.of_fin [TOk P T] {f:FuncId} {fn:Func} {c:Code} {args:List RV} {Q:RV→Prop} (hf:P.funcs[f]? =some fn) (hb:fn.body=some c) (hn:fn.name≠ "runtime.NumGoroutine")
  (h:Fin P G 0 f [.code c] ⟨regs0 fn args,[]⟩ fun st=>∃r,resultsR T G fn st=some r∧∃r' ts,fzR st.hp r=some (r',ts)∧Q r'):ValC P G f args Q:=
 CalOk.of_fin (L:=[]) hf hb hn h
end
end Go.Sx
namespace Go.Sx
def trueV (P:Program) (G:Globs):ValR:=⟨fun g as r=>ValC P G g as (·=r),fun c as h r L1=>CalOk P G c as h fun r' L'=>r'=r∧L'=L1⟩
theorem trueV_ok {P:Program} {G:Globs}:(trueV P G).Ok P G:=⟨fun _ _ _ h=>h,fun _ _ _ _ _ h=>h⟩
theorem DoM.monoV {P:Program} {T:Tab} {G:Globs} {V V':ValR} (hv:∀g as r,V.v g as r→V'.v g as r) (hov:∀c as h r L1,V.o c as h r L1→V'.o c as h r L1) {sl:Option Nat} {o:Oper} {ρ:Operand→RV} {h:List Ob} {r:RV} {e:Eff}
  (hd:DoM P T G V sl o ρ h r e):DoM P T G V' sl o ρ h r e:=by
 unfold DoM at*
 grind
def DW (P:Program) (T:Tab) (G:Globs) (ops:Array Oper) (pl:Plan) (l:List Nat) (st:St) (Q:St→Prop):Prop:=∃stE,RunM P T G (trueV P G) ops pl l st stE∧Q stE
def planW (T:Tab) (ops:Array Oper) (base:Nat) (ws:List (List Nat)):Plan:=⟨slots (freshIdx ops) base,maskM ops.size (befs [] ops.toList) ws,fun k=>ws.getD k [],louF T ops⟩
noncomputable def confW (P:Program) (T:Tab) (G:Globs):Conf:={P:=P,T:=T,G:=G,func:=fun _=>none,own:=fun _=>false,val:=fun _ _=>none}
def nocall:CallR:=fun _ _ _=>none
def subN (a b:List Nat):Bool:=a.all fun x=>b.contains x
noncomputable def stepD1 (P:Program) (T:Tab) (G:Globs) (ops:Array Oper) (pl:Plan) (i:Nat) (st:St):Option St:=match ops[i]? with
 | some o=>match wantedR ops st.regs o with
  | some false=>some ⟨putR st.regs o.dst undefR,st.hp⟩
  | some true=>match goodO o with
   | true=>match callOf o.op with
    | some _=>none
    | none=>match effM (confW P T G) nocall (pl.sl i) o (evR st.regs) (msk (pl.M i) st.hp) with
     | some (r,e)=>match preB e st.hp with
      | true=>match subN e.wr (pl.wr i) with
       | true=>some ⟨putR st.regs o.dst r,e.ap st.hp⟩
       | false=>none
      | false=>none
     | none=>none
   | false=>none
  | none=>none
 | none=>none
noncomputable def advD (P:Program) (T:Tab) (G:Globs) (ops:Array Oper) (pl:Plan) (m:Nat):List Nat→St→List Nat×St:=
 Nat.rec (motive:=fun _=>List Nat→St→List Nat×St) (fun l st=>(l,st)) (fun _ ih l st=>match l with
  | []=>([],st)
  | i::is=>match stepD1 P T G ops pl i st with
   | some st'=>ih is st'
   | none=>(i::is,st)) m
section
variable {P:Program} {T:Tab} {G:Globs} {ops:Array Oper} {pl:Plan} {Q:St→Prop} {n:Nat} {fn:FuncId}
theorem stepD1_ok (hlou:∀i o,ops[i]? =some o→louO T o=true→pl.lou i=true) {i:Nat} {st st':St} (h:stepD1 P T G ops pl i st=some st'):StepM P T G (trueV P G) ops pl i st st':=by
 unfold stepD1 at h;split at h
 ·rename_i o ho;split at h
  ·rename_i hw;simp at h;subst h;exact ⟨o,undefR,.non,ho,.inl ⟨hw,rfl,rfl⟩,trivial,by simp [Eff.wr],by simp [Eff.loud],rfl⟩
  ·rename_i hw;split at h
   ·rename_i hg;split at h
    ·simp at h
    ·split at h
     ·rename_i r e he;split at h
      ·rename_i hp;split at h
       ·rename_i hs;simp at h;subst h;obtain ⟨k1,k2,k3⟩:=effM_ok he;refine ⟨o,r,e,ho,.inr ⟨hw,hg,?_⟩,preB_ok k2 hp,fun b hb=> ?_,fun hl=>hlou i o ho (k3 hl),rfl⟩
        ·refine DoM.monoV ?_ ?_ k1
         ·intro g as r h';simp [callV,valOf,nocall] at h'
         ·intro c as h'' r L1 h';simp [callV,nocall] at h'
        ·have:=List.all_eq_true.1 hs b hb
         simp_all
       ·simp at h
      ·simp at h
     ·simp at h
   ·simp at h
  ·simp at h
 ·simp at h
theorem DW.adv (hlou:∀i o,ops[i]? =some o→louO T o=true→pl.lou i=true):∀(m:Nat) {l l':List Nat} {st st':St},advD P T G ops pl m l st=(l',st')→DW P T G ops pl l' st' Q→DW P T G ops pl l st Q
 | 0,l,l',st,st',h,hd=>by
  have:(l,st)=(l',st'):=h
  simp_all
 | m+1,l,l',st,st',h,hd=>by
  cases l with
  | nil=>
   have h:(([]:List Nat),st)=(l',st'):=h
   simp_all
  | cons i is=>
   have h:(match stepD1 P T G ops pl i st with
    | some st'=>advD P T G ops pl m is st'
    | none=>(i::is,st))=(l',st'):=h
   split at h
   ·rename_i s hs;obtain ⟨stE,h1,h2⟩:=DW.adv hlou m h hd;exact ⟨stE,⟨s,stepD1_ok hlou hs,h1⟩,h2⟩
   simp_all
theorem DW.done {st:St} (h:Q st):DW P T G ops pl [] st Q:=⟨st,rfl,h⟩
def callD (ops:Array Oper) (pl:Plan) (i:Nat) (st:St):Option (FuncId×List RV×List Nat×Option Tmp):=match ops[i]? with
 | some o=>match wantedR ops st.regs o with
  | some true=>match goodO o with
   | true=>match callOf o.op with
    | some (f,args)=>match calOf (evR st.regs f) (args.map (evR st.regs)) with
     | some (.fn g,as)=>match fzRs (msk (pl.M i) st.hp) as with
      | some (as',ts)=>some (g,as',ts,o.dst)
      | none=>none
     | _=>none
    | none=>none
   | false=>none
  | _=>none
 | none=>none
theorem DW.call (hlou:∀i o,ops[i]? =some o→louO T o=true→pl.lou i=true) {i:Nat} {is:List Nat} {st:St} {g:FuncId} {ags:List RV} {ts:List Nat} {dst:Option Tmp} {r:RV} (h:callD ops pl i st=some (g,ags,ts,dst)) (hv:ValC P G g ags (·=r))
  (hd:DW P T G ops pl is ⟨putR st.regs dst r,if scalarR r then st.hp else fzObs ts st.hp⟩ Q):DW P T G ops pl (i::is) st Q:=by
 obtain ⟨stE,h1,h2⟩:=hd;refine ⟨stE,⟨_,?_,h1⟩,h2⟩;unfold callD at h;split at h
 ·rename_i o ho;split at h
  ·rename_i hw;split at h
   ·rename_i hg;split at h
    ·rename_i f args hc;split at h
     ·rename_i g' as0 hcal;split at h
      ·rename_i as' ts' hz;simp only [Option.some.injEq,Prod.mk.injEq] at h;obtain ⟨rfl,rfl,rfl,rfl⟩:=h;refine ⟨o,r,if scalarR r then .non else .fz ts',ho,.inr ⟨hw,hg,?_⟩,?_,?_,fun _=>hlou i o ho (by unfold louO;simp [hc]),?_⟩
       ·unfold DoM;simp only [hc];exact .inl ⟨g',as0,as',ts',hcal,hz,hv,rfl⟩
       ·split<;>trivial
       ·intro b hb;split at hb<;>simp [Eff.wr] at hb
       ·split<;>rfl
      ·simp at h
     ·simp at h
    ·simp at h
   ·simp at h
  ·simp at h
 ·simp at h
theorem DrawOk.of_ws [TOk P T] (hwf:WFP T) (hmix:P.follows .mixedOrders=true) {st:St} (ws:List (List Nat)) (hst:statOk T ops=true) (hdis:disjOk ops.size (befs [] ops.toList) ws=true)
  (h:DW P T G ops (planW T ops st.hp.length ws) (List.range ops.size) (padded (freshIdx ops) st) Q):DrawOk P G ops st Q:=by
 obtain ⟨stE,hrun,hQ⟩:=h;obtain ⟨hback,hpairs⟩:=statOk_spec hst;refine DrawOk.of_plan hwf trueV_ok (freshIdx ops) (planW T ops st.hp.length ws) rfl hback (fun i j hji hi=> ?_) hmix hrun hQ
 by_cases hbit:((befs [] ops.toList).getD i 0).testBit j=true
 ·exact .inl hbit
 ·rcases hpairs i j hji hi with hb | hb
  ·exact .inl hb
  ·have hne:Nat.beq i j=false:=by
    cases hq:Nat.beq i j with
    | false=>rfl
    | true=>simp_all
   have hne':Nat.beq j i=false:=by
    cases hq:Nat.beq j i with
    | false=>rfl
    | true=>simp_all
   have u1:unordB (befs [] ops.toList) i j=true:=by
    have:Nat.blt j i=true:=by simpa [Nat.blt_eq] using hji
    simp only [unordB,hne,this]
    simpa using hbit
   have u2:unordB (befs [] ops.toList) j i=true:=by
    have:Nat.blt i j=false:=by
     cases hq:Nat.blt i j with
     | false=>rfl
     | true=>rw [Nat.blt_eq] at hq;omega
    simp only [unordB,hne',this]
    simpa using hbit
   refine .inr (Ind.of_pair hb ⟨fun b hb=>mask_mem (by omega) u1 hb,fun b hb=>mask_mem hi u2 hb⟩ ?_)
   rcases disjOk_spec hdis hji hi with hd | hd
   ·simp_all
   ·exact disj_spec hd
def drawAt:List Item→Option (Array Oper×List Item)
 | .code (.region _ ops true)::k=>some (ops,k)
 | _=>none
theorem Fin.drawW [TOk P T] (hwf:WFP T) (hmix:P.follows .mixedOrders=true) {todo todo':List Item} {st:St} (ws:List (List Nat)) (hd:drawAt todo=some (ops,todo')) (hst:statOk T ops=true) (hdis:disjOk ops.size (befs [] ops.toList) ws=true)
  (h:DW P T G ops (planW T ops st.hp.length ws) (List.range ops.size) (padded (freshIdx ops) st) fun st'=>Fin P G n fn todo' st' Q):Fin P G n fn todo st Q:=by
 unfold drawAt at hd;split at hd
 ·simp at hd;obtain ⟨rfl,rfl⟩:=hd;exact Fin.draw (DrawOk.of_ws hwf hmix ws hst hdis h)
 ·simp at hd
theorem louW {base:Nat} {ws:List (List Nat)}:∀i o,ops[i]? =some o→louO T o=true→(planW T ops base ws).lou i=true:=louF_spec
def opsAt (c:Code) (p:List Nat):Array Oper:=match posT c p [] with
 | .code (.region _ ops _)::_=>ops
 | _=>#[]
end
end Go.Sx
namespace Go.Sx
section
variable {P:Program} {T:Tab} {G:Globs} {L:List Ob}
def RefC (P:Program) (G:Globs) (f:FuncId) (args:List RV) (cs:List LV) (Q:RV→List LV→Prop):Prop:=
 CalOk P G (.fn f) args [.cells cs false] fun r L=>∃r' ts cs',fzR L r=some (r',ts)∧0∉ts∧L[0]? =some (.cells cs' false)∧cs'.all persL=true∧Q r' cs'
def only (b:Nat) (k:Nat):Option Nat:=match Nat.beq k b with
 | true=>some 0
 | false=>none
theorem only_eq {b k k':Nat} (h:only b k=some k'):k=b∧k'=0:=by
 unfold only at h;split at h
 all_goals simp_all
theorem CalOk.of_ref1 {f:FuncId} {args args':List RV} {b:Nat} {cs:List LV} {Q:RV→List LV→Prop} (hb:L[b]? =some (.cells cs false)) (honly:∀(k:Nat) o,k≠b→L[k]? =some o→o= .gone) (hcs:cs.all persL=true)
  (hargs:mapOpt (renR (only b)) args=some args') (hv:RefC P G f args' cs Q):
  CalOk P G (.fn f) args L fun r L'=>∃cs',Q r cs'∧persR r=true∧cs'.all persL=true∧L'=L.set b (.cells cs' false):=by
 refine CalOk.lift hv ?_;intro A S w vs E hs hvs hv;obtain ⟨B0,d0,c0,e0,fr0,hS0,hB0,hsz0,hfr0,-,hc0⟩:=hs.ob b _ hb
 let S0:Where:=fun k=>if k=0 then S b else none
 have hS00:S0 0=some (B0,d0):=by simp [S0,hS0]
 have hown0:∀B,Owned S0 [.cells cs false] B→B=B0:=by
  rintro B ⟨k,ob,d,h1,h2,h3⟩;have:k=0:=by
   have:=(List.getElem?_eq_some_iff.1 h1).1;simp at this;exact this
  subst this;rw [hS00] at h3;simp at h3;exact h3.1.symm
 have hownL:Owned S L B0:=⟨b,_,d0,hb,rfl,hS0⟩
 have hs0:Sim G A S0 [.cells cs false] w:=by
  refine ⟨fun k o h=> ?_,fun B hA ho=> ?_,hs.lt,fun k k' o o' B d d' hne h1 h2 h3=> ?_,fun k B d h=> ?_,hs.gl⟩
  ·have hk:k=0:=by
    have:=(List.getElem?_eq_some_iff.1 h).1;simp at this;exact this
   subst hk;simp at h;subst h;refine ⟨B0,d0,c0,e0,fr0,hS00,hB0,hsz0,hfr0,fun h=>by simp at h,fun i x hi=> ?_⟩;obtain ⟨v,q1,q2⟩:=hc0 i x hi;exact ⟨v,q1,Rel.pers (fun _ h=>h) (List.all_eq_true.1 hcs x (List.mem_of_getElem? hi)) q2⟩
  ·rw [hown0 B ho] at hA;exact hs.dis B0 hA hownL
  ·grind
  ·grind
 have hvs0:RelV A S0 w args' vs:=by
  obtain ⟨hl,hg⟩:=mapOpt_inv hargs;refine ⟨by rw [hl,hvs.1],fun i y hi=> ?_⟩;obtain ⟨x,hx,hy⟩:=hg i y hi;obtain ⟨v,q1,q2⟩:=hvs.2 i x hx;refine ⟨v,q1,renR_rel (S':=S0) (fun k k' hk=> ?_) hy q2⟩;obtain ⟨rfl,rfl⟩:=only_eq hk;simp [S0]
 obtain ⟨r,L',v,A',S',w',⟨r',ts,cs',hr',h0,hL0,hp',hq⟩,hst,hrel,hsim,hext⟩:=hv A S0 hs0 hvs0;have hS'0:S' 0=some (B0,d0):=hext.wh 0 _ hS00;have hown':Owned S' L' B0:=⟨0,_,d0,hL0,rfl,hS'0⟩
 have hlt0:B0<w.heap.size:=(Array.getElem?_eq_some_iff.1 hB0).1
 let An:Nat→Prop:=fun B=>A B∨(w.heap.size≤B∧B<w'.heap.size)
 have hA':∀B,A' B→An B:=by
  intro B hB
  rcases hext.down B hB with h | h | h
  ·exact .inl h
  ·exact .inr ⟨h,hsim.lt B hB⟩
  ·rw [hown0 B h] at hB;exact (hsim.dis B0 hB hown').elim
 have hsub:∀B,Aplus A' S' ts B→An B:=by
  rintro B (hB | ⟨k,d,hk,hSk⟩)
  ·exact hA' B hB
  ·obtain ⟨ck,fz,hL⟩:=fzR_cells hr' k hk;obtain ⟨B',d',c',e,fr,h1,h2,h3,h4,h5,h6⟩:=hsim.ob k _ hL;rw [hSk] at h1;simp only [Option.some.injEq,Prod.mk.injEq] at h1;obtain ⟨rfl,rfl⟩:=h1;cases fz with
   | true=>simp_all
   | false=>
    rcases Nat.lt_or_ge B w.heap.size with hlt | hge
    ·have hB:=hown0 B (hext.own B hlt ⟨k,_,d,hL,rfl,hSk⟩);subst hB;exact (hsim.inj 0 k _ _ B d0 d (by grind) hL0 rfl hL rfl hS'0 hSk).elim
    grind
 have hpr:=fzR_pers hr';have hrel':=RelR.pers (S':=S) hsub hpr (fzR_enc (S':=S) hsim hr' hrel);have hbl:b<L.length:=(List.getElem?_eq_some_iff.1 hb).1;have get:∀{k:Nat} {o:Ob},(L.set b (.cells cs' false))[k]? =some o→(k=b∧o= .cells cs' false)∨o= .gone:=by
  intro k o h;rw [List.getElem?_set] at h;split at h
  ·simp_all
  ·grind
 have hbf:(L.set b (.cells cs' false))[b]? =some (.cells cs' false):=by simp [hbl]
 have hownF:∀B,Owned S (L.set b (.cells cs' false)) B→B=B0:=by
  rintro B ⟨k,ob,d,h1,h2,h3⟩
  rcases get h1 with ⟨rfl,rfl⟩ | rfl
  ·simp_all
  ·simp [mutOb] at h2
 have hnA:¬An B0:=by
  rintro (h | ⟨h,_⟩)
  ·exact hs.dis B0 h hownL
  ·omega
 refine ⟨r',_,v,An,S,w',⟨cs',hq,hpr,hp',rfl⟩,hst,hrel',?_,?_⟩
 ·refine ⟨fun k o h=> ?_,fun B hA ho=> ?_,fun B hB=> ?_,fun k k' o o' B d d' hne h1 h2 h3 h4=> ?_,fun k B d h=> ?_,fun g us hg=> ?_⟩
  ·rcases get h with ⟨rfl,rfl⟩ | rfl
   ·obtain ⟨B,d,c',e,fr,h1,h2,h3,h4,h5,h6⟩:=hsim.ob 0 _ hL0;rw [hS'0] at h1;simp only [Option.some.injEq,Prod.mk.injEq] at h1;obtain ⟨rfl,rfl⟩:=h1;refine ⟨B0,d0,c',e,fr,hS0,h2,h3,h4,fun h=>by simp at h,fun i x hi=> ?_⟩;obtain ⟨u,q1,q2⟩:=h6 i x hi;exact ⟨u,q1,Rel.pers hA' (List.all_eq_true.1 hp' x (List.mem_of_getElem? hi)) q2⟩
   ·trivial
  ·grind
  ·rcases hB with h | h
   ·exact Nat.lt_of_lt_of_le (hs.lt B h) hext.size
   ·exact h.2
  ·rcases get h1 with ⟨rfl,rfl⟩ | rfl
   ·rcases get h3 with ⟨rfl,rfl⟩ | rfl
    ·omega
    ·simp [liveOb] at h4
   ·simp [mutOb] at h2
  ·rw [List.length_set];exact hs.dom k B d h
  ·obtain ⟨h1,h2⟩:=hsim.gl g us hg
   grind
 ·exact {
   size:=hext.size
   os:=hext.os
   tape:=hext.tape
   output:=hext.output
   wh:=fun _ _ h=>h
   nw:=fun _ _ h=>h
   len:=by grind
   keep:=fun B hB hn=>hext.keep B hB fun ho=>hn (by grind)
   shp:=hext.shp
   up:=fun B h=> .inl h
   down:=fun B h=>h.imp id fun h=> .inl h.1
   own:=fun B hB ho=>by grind}
def allBut (b n:Nat):List Nat:=(List.range n).filter fun k=> !(k==b)
theorem CalOk.of_ref {f:FuncId} {args args':List RV} {b:Nat} {cs:List LV} {Q:RV→List LV→Prop} {Q':RV→List Ob→Prop} (hb:L[b]? =some (.cells cs false)) (hcs:cs.all persL=true)
  (hargs:mapOpt (renR (only b)) args=some args') (hv:RefC P G f args' cs Q)
  (hQ:∀r cs',Q r cs'→persR r=true→cs'.all persL=true→Q' r (L.set b (.cells cs' false))):CalOk P G (.fn f) args L Q':=by
 have hbl:b<L.length:=(List.getElem?_eq_some_iff.1 hb).1;have hnb:b∉allBut b L.length:=by simp [allBut]
 have hin:∀k,k≠b→k<L.length→k∈allBut b L.length:=fun k h1 h2=>by simp [allBut,h1,h2]
 have hm:(msk (allBut b L.length) L)[b]? =some (.cells cs false):=by rw [msk_out hnb,hb]
 refine CalOk.mono (CalOk.frame (M:=allBut b L.length) (fun k hk=>by simp [allBut] at hk;exact hk.1) (fun k o hk ho=> ?_) (CalOk.of_ref1 hm (fun k o hk ho=> ?_) hcs hargs hv)) ?_
 ·have:k=b:=Classical.byContradiction fun h=>hk (hin k h (List.getElem?_eq_some_iff.1 ho).1);subst this;rw [hb] at ho;simp at ho;subst ho;rfl
 ·have hkl:k<L.length:=by have:=(List.getElem?_eq_some_iff.1 ho).1;rwa [msk_length] at this
  rw [msk_in (hin k hk hkl),List.getElem?_eq_getElem hkl] at ho
  simp_all
 ·rintro r _ ⟨L1,⟨cs',h1,h2,h3,rfl⟩,rfl⟩;have e:over (allBut b L.length) L ((msk (allBut b L.length) L).set b (.cells cs' false))=L.set b (.cells cs' false):=by
   apply List.ext_getElem?;intro k
   by_cases hk:k∈allBut b L.length
   ·have hkl:k<L.length:=by simp [allBut] at hk;exact hk.1
    have hkb:b≠k:=by rintro rfl;exact hnb hk
    rw [over_in hk hkl (by rw [List.length_set,msk_length];exact hkl),List.getElem?_set_ne hkb]
   ·rw [over_out hk]
    by_cases hkb:b=k
    ·grind
    ·rw [List.getElem?_set_ne hkb,List.getElem?_set_ne hkb,msk_out hk]
  simp_all
def refAt (b:Nat) (hp:List Ob) (as:List RV):Option (List RV×List LV):=match hp[b]? with
 | some (.cells cs false)=>match cs.all persL with
  | true=>match mapOpt (renR (only b)) as with
   | some as'=>some (as',cs)
   | none=>none
  | false=>none
 | _=>none
theorem refAt_ok {b:Nat} {hp:List Ob} {as as':List RV} {cs:List LV} (h:refAt b hp as=some (as',cs)):hp[b]? =some (.cells cs false)∧cs.all persL=true∧mapOpt (renR (only b)) as=some as':=by
 unfold refAt at h
 grind
def callAtR (b:Nat):List Item→St→Option (FuncId×List RV×List LV×Option Tmp×List Item)
 | .inRegion ops (i::is)::k,st=>match ops[i]? with
  | some o=>match wantedR ops st.regs o with
   | some true=>match goodO o with
    | true=>match callOf o.op with
     | some (f,args)=>match calOf (evR st.regs f) (args.map (evR st.regs)) with
      | some (.fn g,as)=>match refAt b st.hp as with
       | some (as',cs)=>some (g,as',cs,o.dst,.inRegion ops is::k)
       | none=>none
      | _=>none
     | none=>none
    | false=>none
   | _=>none
  | none=>none
 | _,_=>none
theorem Fin.callR [TOk P T] (hwf:WFP T) {n:Nat} {fn:FuncId} {st:St} {Q:St→Prop} {todo:List Item} (b:Nat) {g:FuncId} {ags:List RV} {cs:List LV} {dst:Option Tmp} {todo':List Item} {F:RV→List LV→Prop} (h:callAtR b todo st=some (g,ags,cs,dst,todo')) (hv:RefC P G g ags cs F)
  (hf:∀r cs',F r cs'→persR r=true→cs'.all persL=true→Fin P G n fn todo' ⟨putR st.regs dst r,st.hp.set b (.cells cs' false)⟩ Q):Fin P G n fn todo st Q:=by
 unfold callAtR at h;split at h
 ·split at h
  ·rename_i o ho;split at h
   ·rename_i hw;split at h
    ·rename_i hg;split at h
     ·rename_i f args hc;split at h
      ·rename_i g' as0 hcal;split at h
       ·rename_i as' cs0 hz;simp only [Option.some.injEq,Prod.mk.injEq] at h;obtain ⟨rfl,rfl,rfl,rfl,rfl⟩:=h;obtain ⟨k1,k2,k3⟩:=refAt_ok hz;exact Fin.call hwf ho hw hg hc hcal (CalOk.of_ref k1 k2 k3 hv hf)
       ·simp at h
      ·simp at h
     ·simp at h
    ·simp at h
   ·simp at h
  ·simp at h
 ·simp at h
theorem RefC.of_fin [TOk P T] {f:FuncId} {fn:Func} {c:Code} {args:List RV} {cs:List LV} {Q:RV→List LV→Prop} (hf:P.funcs[f]? =some fn) (hb:fn.body=some c) (hn:fn.name≠ "runtime.NumGoroutine")
  (h:Fin P G 1 f [.code c] ⟨regs0 fn args,[.cells cs false]⟩ fun st=>∃r,resultsR T G fn st=some r∧∃r' ts cs',fzR st.hp r=some (r',ts)∧0∉ts∧st.hp[0]? =some (.cells cs' false)∧cs'.all persL=true∧Q r' cs'):RefC P G f args cs Q:=
 CalOk.of_fin (L:=[.cells cs false]) hf hb hn h
end
end Go.Sx
namespace Go.Sx
section
variable {P:Program} {T:Tab} {G:Globs} {n:Nat} {fn:FuncId} {st:St} {Q:St→Prop} {todo todo':List Item} {ops:Array Oper} {pl:Plan}
def opO (ops:Array Oper) (j:Nat):Oper:=match ops[j]? with
 | some o=>o
 | none=>{dst:=none,op:= .move (.tmp 0),type:=0,pos:=default,after:=#[],guard:=none}
def opAt:List Item→St→Option (Oper×List Item)
 | .inRegion ops (i::is)::k,st=>match ops[i]? with
  | some o=>match wantedR ops st.regs o with
   | some true=>match goodO o with
    | true=>match callOf o.op with
     | none=>some (o,.inRegion ops is::k)
     | some _=>none
    | false=>none
   | _=>none
  | none=>none
 | _,_=>none
end
end Go.Sx
namespace Go.Sx
section
variable {P:Program} {T:Tab} {G:Globs} {hp:List Ob} {t e:TypeId} {j:IntKind}
theorem wrap_id {n:Int} (h1: -9223372036854775808≤n) (h2:n<9223372036854775808):IntKind.i64.wrap n=n:=by
 simp [IntKind.wrap,IntKind.bits,IntKind.signed];omega
theorem indexAddrA_sl {n s:Nat} {cs:List PV} {k:Int} (hT:T.und t=some (.slice e)) (hs:szOf T e=some s) (h0:0≤k) (h1:k<n):
  indexAddrA T t (.v (.one (.p (.sl n cs)))) (.v (.one (.p (.vl (.int j k))))) hp=some (.v (.one (.pref cs (k.toNat*s))),hp):=by
 simp [indexAddrA,hT,intR,hs,h0,h1]
theorem indexAddrA_lsl {b o n s:Nat} {k:Int} (hT:T.und t=some (.slice e)) (hs:szOf T e=some s) (h0:0≤k) (h1:k<n):
  indexAddrA T t (.v (.one (.lsl b o n s))) (.v (.one (.p (.vl (.int j k))))) hp=some (.v (.one (.ref b (o+k.toNat*s))),hp):=by
 simp [indexAddrA,hT,intR,hs,h0,h1]
theorem indexQ_str {s:ByteArray} {k:Int} {x:UInt8} (hT:T.und t=some .string) (h0:0≤k) (h:s[k.toNat]? =some x):
  indexQ P T t (.v (.one (.p (.vl (.string s))))) (.v (.one (.p (.vl (.int j k))))) hp=some (atR (.int .u8 x.toNat),hp):=by
 obtain ⟨n,rfl⟩:=Int.eq_ofNat_of_zero_le h0;have h':s[n]? =some x:=h;simp only [indexQ,hT]
 simp_all
def byteAt (s:ByteArray) (k:Int):Int:=(((s[k.toNat]?).getD 0).toNat:Int)
theorem byteAt_bounds (s:ByteArray) (k:Int):0≤byteAt s k∧byteAt s k<256:=by
 unfold byteAt;have:=((s[k.toNat]?).getD 0).toNat_lt;omega
theorem indexQ_byte {s:ByteArray} {k:Int} (hT:T.und t=some .string) (h0:0≤k) (h1:k<s.size):
  indexQ P T t (.v (.one (.p (.vl (.string s))))) (.v (.one (.p (.vl (.int j k))))) hp=some (.v (.one (.p (.vl (.int .u8 (byteAt s k))))),hp):=by
 have hl:k.toNat<s.size:=by omega
 have hx:s[k.toNat]? =some s[k.toNat]:=by simp [hl]
 rw [indexQ_str hT h0 hx];simp [byteAt,hx,atR]
theorem sliceQ_str {s:ByteArray} {lo hi:Option RV} {l' h':Option Int} {l h:Nat} (hT:T.und t=some .string) (hl:optInt lo=some l') (hh:optInt hi=some h') (hb:bounds s.size l' h'=some (l,h)):
  sliceQ P T t (.v (.one (.p (.vl (.string s))))) lo hi none hp=some (atR (.string (s.extract l h)),hp):=by
 simp [sliceQ,hT,hl,hh,hb]
theorem binA_rem {x y:Operand} {a b:Int} (hb:b≠0):binA P T .rem t x y (.v (.one (.p (.vl (.int .i64 a))))) (.v (.one (.p (.vl (.int .i64 b))))) hp=some (.v (.one (.p (.vl (.int .i64 (a.tmod b))))),hp):=by
 have:pureOf P (do eqGuard .rem t x y (.int .i64 a) (.int .i64 b);binOp .rem t (.int .i64 a) (.int .i64 b))=some (.int .i64 (a.tmod b)):=by
  show pureOf P (Op.intDiv .rem .i64 a b)=_;unfold Op.intDiv;simp [hb];rfl
 simp only [binA,toVal,atomL,pureR,this];rfl
theorem binA_quo {x y:Operand} {a b:Int} (hb:b≠0):binA P T .quo t x y (.v (.one (.p (.vl (.int .i64 a))))) (.v (.one (.p (.vl (.int .i64 b))))) hp=some (.v (.one (.p (.vl (.int .i64 (IntKind.i64.wrap (a.tdiv b)))))),hp):=by
 have:pureOf P (do eqGuard .quo t x y (.int .i64 a) (.int .i64 b);binOp .quo t (.int .i64 a) (.int .i64 b))=some (.int .i64 (IntKind.i64.wrap (a.tdiv b))):=by
  show pureOf P (Op.intDiv .quo .i64 a b)=_;unfold Op.intDiv;simp [hb];rfl
 simp only [binA,toVal,atomL,pureR,this];rfl
theorem binA_shl {x y:Operand} {a b:Int} (hb:0≤b):binA P T .shl t x y (.v (.one (.p (.vl (.int .i64 a))))) (.v (.one (.p (.vl (.int j b))))) hp=some (.v (.one (.p (.vl (.int .i64 (IntKind.i64.wrap (a*2^min b.toNat 64)))))),hp):=by
 have hb':¬b<0:=by omega
 have:pureOf P (do eqGuard .shl t x y (.int .i64 a) (.int j b);binOp .shl t (.int .i64 a) (.int j b))=some (.int .i64 (IntKind.i64.wrap (a*2^min b.toNat 64))):=by
  show pureOf P (Op.shift .shl .i64 a j b)=_;unfold Op.shift;simp [hb'];rfl
 simp only [binA,toVal,atomL,pureR,this];rfl
theorem tmod_bounds (a:Int) {b:Int} (h:0<b): -b<a.tmod b∧a.tmod b<b:=by
 have h2:=Int.tmod_lt_of_pos a h;refine ⟨?_,h2⟩;have h3:=Int.tmod_lt_of_pos (-a) h;rw [Int.neg_tmod] at h3;omega
theorem tmod_nonneg' {a b:Int} (ha:0≤a) (h:0<b):0≤a.tmod b:=Int.tmod_nonneg b ha
end
end Go.Sx
