/- A part of the proof of MeaningEmpty. -/
import Derived.Orders
import Derived.Test.YtgnjilecndiffaaGreatDoorP4
set_option linter.all false
set_option maxRecDepth 1000000
set_option maxHeartbeats 0
namespace Go.Sx
section
variable {P:Program} {T:Tab} [TOk P T] {G:Globs} {A:Nat→Prop} {S:Where} {L:List Ob} {w:World}
def AllCells (L:List Ob) (ts:List Nat):Prop:=∀b∈ts,∃cs fz,L[b]? =some (.cells cs fz)
theorem AllCells.flat {α:Type} {L:List Ob} {f:α→List Nat} {l:List α} (h:∀x∈l,AllCells L (f x)):AllCells L (l.flatMap f):=by
 intro b hb;obtain ⟨x,hx,hbx⟩:=List.mem_flatMap.1 hb;exact h x hx b hbx
theorem mapOpt_mem {α β:Type} {f:α→Option β} {l:List α} {r:List β} (h:mapOpt f l=some r) {y:β} (hy:y∈r):∃x,x∈l∧f x=some y:=by
 obtain ⟨hl,hg⟩:=mapOpt_get h;obtain ⟨i,hi⟩:=List.mem_iff_getElem?.1 hy;have hlt:i<l.length:=by have:=(List.getElem?_eq_some_iff.1 hi).1;omega
 obtain ⟨z,e1,e2⟩:=hg i l[i] (List.getElem?_eq_getElem hlt)
 grind
theorem fzL_cells:∀(n:Nat) (x:LV) (p:PV) (ts:List Nat),fzL L n x=some (p,ts)→AllCells L ts
 | n,.p x,p,ts,h=>by cases n<;>(simp [fzL] at h;obtain ⟨rfl,rfl⟩:=h;intro b hb;simp at hb)
 | n+1,.lsl b o k z,p,ts,h=>by
  simp only [fzL] at h;split at h
  ·rename_i cs fz hL;split at h
   ·rename_i l hp;split at h
    ·rename_i ps hm;simp at h;obtain ⟨rfl,rfl⟩:=h;intro b' hb'
     rcases List.mem_cons.1 hb' with rfl | hb'
     ·simp_all
     ·obtain ⟨⟨p',ts'⟩,h1,h2⟩:=List.mem_flatMap.1 hb';obtain ⟨y,_,hy⟩:=mapOpt_mem hm h1;exact fzL_cells n y p' ts' hy b' h2
    ·simp at h
   ·simp at h
  ·simp at h
 | 0,.lsl b o k z,p,ts,h=>by simp [fzL] at h
 | n,.ref b o,p,ts,h=>by cases n<;>simp [fzL] at h
 | n,.pref b o,p,ts,h=>by cases n<;>simp [fzL] at h
 | n,.map b,p,ts,h=>by cases n<;>simp [fzL] at h
 | n,.fn f b,p,ts,h=>by cases n<;>simp [fzL] at h
 | n,.yld b,p,ts,h=>by cases n<;>simp [fzL] at h
 | n,.ifc t b o,p,ts,h=>by cases n<;>simp [fzL] at h
theorem fzW_cells {x y:RW} {ts:List Nat} (h:fzW L x=some (y,ts)):AllCells L ts:=by
 cases x with
 | one x=>
  simp only [fzW] at h;split at h
  ·rename_i p ts' hf;simp at h;obtain ⟨rfl,rfl⟩:=h;exact fzL_cells 12 _ _ _ hf
  ·simp at h
 | agg xs=>
  simp only [fzW] at h;split at h
  ·rename_i ps ts' hf;simp at h;obtain ⟨rfl,rfl⟩:=h;unfold fzLs at hf;split at hf
   ·rename_i qs hm;simp at hf;obtain ⟨rfl,rfl⟩:=hf;refine AllCells.flat fun q hq=> ?_;obtain ⟨y,_,hy⟩:=mapOpt_mem hm hq;exact fzL_cells 12 y q.1 q.2 hy
   ·simp at hf
  ·simp at h
theorem fzR_cells {x y:RV} {ts:List Nat} (h:fzR L x=some (y,ts)):AllCells L ts:=by
 cases x with
 | v x=>
  simp only [fzR] at h;split at h
  ·rename_i y' ts' hf;simp at h;obtain ⟨rfl,rfl⟩:=h;exact fzW_cells hf
  ·simp at h
 | tup xs=>
  simp only [fzR] at h;split at h
  ·rename_i ys hm;simp at h;obtain ⟨rfl,rfl⟩:=h;refine AllCells.flat fun q hq=> ?_;obtain ⟨y,_,hy⟩:=mapOpt_mem hm hq;exact fzW_cells hy
  ·simp at h
theorem Ext.freeze (hs:Sim G A S L w) {ts:List Nat} (hc:AllCells L ts):Ext A S L w (Aplus A S ts) S (fzObs ts L) w where
 size:=Nat.le_refl _
 os:=rfl
 tape:=rfl
 output:=rfl
 wh _ _ h:=h
 nw _ _ h:=h
 len:=by rw [fzObs_length];omega
 keep _ _ _:=rfl
 shp _ c _ fr h:=⟨c,⟨fr,h⟩,rfl⟩
 up _ h:= .inl h
 down B h:=by
  rcases h with h | ⟨b,d,hb,hS⟩
  ·exact .inl h
  ·obtain ⟨cs,fz,hL⟩:=hc b hb;cases fz with
   | false=>exact .inr (.inr ⟨b,_,d,hL,rfl,hS⟩)
   | true=>
    obtain ⟨B',d',c,e,fr,h1,h2,h3,h4,h5,h6⟩:=hs.ob b _ hL
    simp_all
 own B _ ho:=by
  obtain ⟨b,o,d,h1,h2,h3⟩:=ho;obtain ⟨o0,e1,e2⟩:=fzObs_get ts L b o h1;refine ⟨b,o0,d,e1,?_,h3⟩
  rcases e2 with ⟨rfl,_⟩ | ⟨rfl,_⟩
  ·exact h2
  ·exact fzOb_mut o0 h2
theorem Sim.freeze (hs:Sim G A S L w) {ts:List Nat} (hc:AllCells L ts):Sim G (Aplus A S ts) S (fzObs ts L) w where
 ob b o hb:=by
  obtain ⟨o0,e1,e2⟩:=fzObs_get ts L b o hb;have h0:=ObRel.ext hs (Ext.freeze hs hc) (hs.ob b o0 e1) fun _ _ _ _=>rfl
  rcases e2 with ⟨rfl,_⟩ | ⟨rfl,hm⟩
  ·exact h0
  ·obtain ⟨cs,fz,hL⟩:=hc b hm;rw [e1] at hL;simp at hL;subst hL;obtain ⟨B,d,c,e,fr,h1,h2,h3,h4,h5,h6⟩:=h0;exact ⟨B,d,c,e,fr,h1,h2,h3,h4,fun _=> .inr ⟨b,d,hm,h1⟩,h6⟩
 dis B hA ho:=by
  rcases hA with hA | ⟨b,d,hb,hS⟩
  ·exact hs.dis B hA ((Ext.freeze hs hc).own B (hs.lt B hA) ho)
  ·obtain ⟨b2,o2,d2,k1,k2,k3⟩:=ho;obtain ⟨o0,e1,e2⟩:=fzObs_get ts L b2 o2 k1;obtain ⟨cs,fz,hL⟩:=hc b hb;have hm0:mutOb o0=true:=by
    rcases e2 with ⟨rfl,_⟩ | ⟨rfl,_⟩
    ·exact k2
    ·exact fzOb_mut o0 k2
   by_cases hbb:b2=b
   ·subst hbb;rw [e1] at hL;simp at hL;subst hL
    rcases e2 with ⟨rfl,h | h⟩ | ⟨rfl,_⟩
    ·exact h hb
    ·cases fz with
     | false=>exact h cs rfl
     | true=>simp [mutOb] at k2
    ·simp [fzOb,mutOb] at k2
   ·exact hs.inj b2 b o0 _ B d2 d hbb e1 hm0 hL rfl k3 hS
 lt B hA:=by
  rcases hA with hA | ⟨b,d,hb,hS⟩
  ·exact hs.lt B hA
  ·obtain ⟨cs,fz,hL⟩:=hc b hb;exact hs.vl hL rfl hS
 inj b1 b2 x1 x2 B' d1 d2 hne h1 hm1 h2 hl h3 h4:=by
  obtain ⟨o1,e1,e2⟩:=fzObs_get ts L b1 x1 h1;obtain ⟨o2,e3,e4⟩:=fzObs_get ts L b2 x2 h2;refine hs.inj b1 b2 o1 o2 B' d1 d2 hne e1 ?_ e3 ?_ h3 h4
  ·rcases e2 with ⟨rfl,_⟩ | ⟨rfl,_⟩
   ·exact hm1
   ·exact fzOb_mut _ hm1
  ·rcases e4 with ⟨rfl,_⟩ | ⟨rfl,_⟩
   ·exact hl
   ·cases o2<;>simp_all [fzOb,liveOb]
 dom b B d h:=by rw [fzObs_length];exact hs.dom b B d h
 gl g vs hg:=⟨.inl (hs.gl g vs hg).1,(hs.gl g vs hg).2⟩
def ValC (P:Program) (G:Globs) (f:FuncId) (args:List RV) (Q:RV→Prop):Prop:=
 CalOk P G (.fn f) args [] fun r L=>∃r' ts,fzR L r=some (r',ts)∧Q r'
def persL:LV→Bool
 | .p _=>true
 | _=>false
def persW:RW→Bool
 | .one x=>persL x
 | .agg xs=>xs.all persL
def persR:RV→Bool
 | .v x=>persW x
 | .tup xs=>xs.all persW
theorem Rel.pers {A':Nat→Prop} {S':Where} (h:∀B,A B→A' B) {x:LV} {v:Value} (hp:persL x=true) (hr:Rel A S w x v):Rel A' S' w x v:=by
 cases x<;>simp [persL] at hp
 exact EncP.more h hr
theorem RelW.pers {A':Nat→Prop} {S':Where} (h:∀B,A B→A' B) {x:RW} {v:Value} (hp:persW x=true) (hr:RelW A S w x v):RelW A' S' w x v:=by
 cases x with
 | one x=>exact Rel.pers h hp hr
 | agg xs=>
  obtain ⟨vs,rfl,h1,h2⟩:=hr;refine ⟨vs,rfl,h1,fun i x hi=> ?_⟩;obtain ⟨u,q1,q2⟩:=h2 i x hi;exact ⟨u,q1,Rel.pers h (List.all_eq_true.1 hp x (List.mem_of_getElem? hi)) q2⟩
theorem RelR.pers {A':Nat→Prop} {S':Where} (h:∀B,A B→A' B) {x:RV} {v:Value} (hp:persR x=true) (hr:RelR A S w x v):RelR A' S' w x v:=by
 cases x with
 | v x=>exact RelW.pers h hp hr
 | tup xs=>
  obtain ⟨vs,rfl,h1,h2⟩:=hr;refine ⟨vs,rfl,h1,fun i x hi=> ?_⟩;obtain ⟨u,q1,q2⟩:=h2 i x hi;exact ⟨u,q1,RelW.pers h (List.all_eq_true.1 hp x (List.mem_of_getElem? hi)) q2⟩
theorem fzW_pers {x y:RW} {ts:List Nat} (h:fzW L x=some (y,ts)):persW y=true:=by
 cases x with
 | one x=>
  simp only [fzW] at h;split at h
  ·simp at h;obtain ⟨rfl,rfl⟩:=h;rfl
  ·simp at h
 | agg xs=>
  simp only [fzW] at h;split at h
  ·simp at h;obtain ⟨rfl,rfl⟩:=h;simp [persW,persL]
  ·simp at h
theorem fzR_pers {x y:RV} {ts:List Nat} (h:fzR L x=some (y,ts)):persR y=true:=by
 cases x with
 | v x=>
  simp only [fzR] at h;split at h
  ·rename_i y' ts' hf;simp at h;obtain ⟨rfl,rfl⟩:=h;exact fzW_pers hf
  ·simp at h
 | tup xs=>
  simp only [fzR] at h;split at h
  ·rename_i ys hm;simp at h;obtain ⟨rfl,rfl⟩:=h;simp only [persR,List.all_eq_true,List.mem_map];rintro x ⟨q,hq,rfl⟩;obtain ⟨y,_,hy⟩:=mapOpt_mem hm hq;exact fzW_pers hy
  ·simp at h
theorem RelV.fz {S':Where} {rs rs':List RV} {ts:List Nat} {vs:List Value} (hs:Sim G A S L w) (h:fzRs L rs=some (rs',ts)) (hr:RelV A S w rs vs):RelV (Aplus A S ts) S' w rs' vs∧AllCells L ts:=by
 unfold fzRs at h;split at h
 ·rename_i ys hm;simp at h;obtain ⟨rfl,rfl⟩:=h;obtain ⟨hl,hg⟩:=mapOpt_get hm;refine ⟨⟨by simp [hl,hr.1],fun i y hi=> ?_⟩,AllCells.flat fun q hq=> ?_⟩
  ·simp only [List.getElem?_map,Option.map_eq_some_iff] at hi;obtain ⟨⟨y',ts'⟩,e1,rfl⟩:=hi;have hlt:i<rs.length:=by have:=(List.getElem?_eq_some_iff.1 e1).1;omega
   obtain ⟨pt,e2,e3⟩:=hg i rs[i] (List.getElem?_eq_getElem hlt);rw [e1] at e2;simp at e2;subst e2;obtain ⟨u,q1,q2⟩:=hr.2 i rs[i] (List.getElem?_eq_getElem hlt);exact ⟨u,q1,RelR.pers (S:=S') (Aplus.mono fun b hb=>List.mem_flatMap.2 ⟨(y',ts'),List.mem_of_getElem? e1,hb⟩) (fzR_pers e3) (fzR_enc hs e3 q2)⟩
  ·obtain ⟨y,_,hy⟩:=mapOpt_mem hm hq;exact fzR_cells hy
 ·simp at h
theorem Rel.scalar {A':Nat→Prop} {S':Where} {w':World} {x:LV} {v:Value} (hp:scalarL x=true) (hr:Rel A S w x v):Rel A' S' w' x v:=by
 cases x with
 | p x=>cases x with
  | vl u=>cases hr;exact .vl _ ‹_›
  | sl n cs=>simp [scalarL] at hp
 | _=>simp [scalarL] at hp
theorem RelW.scalar {A':Nat→Prop} {S':Where} {w':World} {x:RW} {v:Value} (hp:scalarW x=true) (hr:RelW A S w x v):RelW A' S' w' x v:=by
 cases x with
 | one x=>exact Rel.scalar hp hr
 | agg xs=>
  obtain ⟨vs,rfl,h1,h2⟩:=hr;refine ⟨vs,rfl,h1,fun i x hi=> ?_⟩;obtain ⟨u,q1,q2⟩:=h2 i x hi;exact ⟨u,q1,Rel.scalar (List.all_eq_true.1 hp x (List.mem_of_getElem? hi)) q2⟩
theorem RelR.scalar {A':Nat→Prop} {S':Where} {w':World} {x:RV} {v:Value} (hp:scalarR x=true) (hr:RelR A S w x v):RelR A' S' w' x v:=by
 cases x with
 | v x=>exact RelW.scalar hp hr
 | tup xs=>
  obtain ⟨vs,rfl,h1,h2⟩:=hr;refine ⟨vs,rfl,h1,fun i x hi=> ?_⟩;obtain ⟨u,q1,q2⟩:=h2 i x hi;exact ⟨u,q1,RelW.scalar (List.all_eq_true.1 hp x (List.mem_of_getElem? hi)) q2⟩
theorem Rel.wide {A':Nat→Prop} (h:∀B,A B→A' B) {x:LV} {v:Value} (hr:Rel A S w x v):Rel A' S w x v:=by
 cases x with
 | p x=>exact EncP.more h hr
 | pref cs o=>
  obtain ⟨B,d,vs,rfl,hc⟩:=hr;refine ⟨B,d,vs,rfl,fun i c hi=> ?_⟩;obtain ⟨h1,h2,h3⟩:=hc i c hi;exact ⟨h B h1,h2,EncP.more h h3⟩
 | _=>exact hr
theorem RelW.wide {A':Nat→Prop} (h:∀B,A B→A' B) {x:RW} {v:Value} (hr:RelW A S w x v):RelW A' S w x v:=by
 cases x with
 | one x=>exact Rel.wide h hr
 | agg xs=>obtain ⟨vs,rfl,h1,h2⟩:=hr;exact ⟨vs,rfl,h1,fun i x hi=>let ⟨u,q1,q2⟩:=h2 i x hi;⟨u,q1,Rel.wide h q2⟩⟩
theorem RelR.wide {A':Nat→Prop} (h:∀B,A B→A' B) {x:RV} {v:Value} (hr:RelR A S w x v):RelR A' S w x v:=by
 cases x with
 | v x=>exact RelW.wide h hr
 | tup xs=>obtain ⟨vs,rfl,h1,h2⟩:=hr;exact ⟨vs,rfl,h1,fun i x hi=>let ⟨u,q1,q2⟩:=h2 i x hi;⟨u,q1,RelW.wide h q2⟩⟩
theorem Sim.wide {A':Nat→Prop} (hs:Sim G A S L w) (h:∀B,A B→A' B) (hd:∀B,A' B→¬Owned S L B) (hl:∀B,A' B→B<w.heap.size):Sim G A' S L w where
 ob b o hb:=by
  have h0:=hs.ob b o hb;cases o with
  | cells cs fz=>
   obtain ⟨B,d,c,e,fr,h1,h2,h3,h4,h5,h6⟩:=h0;exact ⟨B,d,c,e,fr,h1,h2,h3,h4,fun hf=>h B (h5 hf),fun i x hi=>let ⟨v,q1,q2⟩:=h6 i x hi;⟨v,q1,Rel.wide h q2⟩⟩
  | map es=>
   obtain ⟨B,d,ents,clock,h1,h2,h3,h4⟩:=h0;exact ⟨B,d,ents,clock,h1,h2,h3,fun i k x hi=>let ⟨e,q1,q2,q3⟩:=h4 i k x hi;⟨e,q1,q2,RelW.wide h q3⟩⟩
  | iter s pos=>exact h0
  | loop r=>
   obtain ⟨B,d,tmps,D,h1,h2,h3⟩:=h0;exact ⟨B,d,tmps,D,h1,h2,h3.1,fun i r hi=>let ⟨v,q1,q2⟩:=h3.2 i r hi;⟨v,q1,RelR.wide h q2⟩⟩
  | gone=>trivial
  | tc t cs buf=>
   obtain ⟨B,c,fr,h1,h2,h3,h4,h5,h6⟩:=h0;exact ⟨B,c,fr,h1,h2,h3,h4,h5,fun i x hi=>let ⟨v,q1,q2⟩:=h6 i x hi;⟨v,q1,Rel.wide h q2⟩⟩
 dis:=hd
 lt:=hl
 inj:=hs.inj
 dom:=hs.dom
 gl g vs hg:=⟨h g (hs.gl g vs hg).1,(hs.gl g vs hg).2⟩
theorem CalOk.lift {L0:List Ob} {f:FuncId} {args args0:List RV} {Q Q':RV→List Ob→Prop} (h:CalOk P G (.fn f) args0 L0 Q)
  (key:∀(A:Nat→Prop) (S:Where) (w:World) (vs:List Value) (E:Value→World→Prop),Sim G A S L w→RelV A S w args vs→
   (∀A0 S0,Sim G A0 S0 L0 w→RelV A0 S0 w args0 vs→∃r L' v A' S' w',Q r L'∧E v w'∧RelR A' S' w' r v∧Sim G A' S' L' w'∧Ext A0 S0 L0 w A' S' L' w')→
   ∃r L' v A' S' w',Q' r L'∧E v w'∧RelR A' S' w' r v∧Sim G A' S' L' w'∧Ext A S L w A' S' L' w'):CalOk P G (.fn f) args L Q':=by
 rcases h with ⟨hf,hv⟩ | hv
 ·exact .inl ⟨hf,fun A S w vs hs hvs c cs=>key A S w vs _ hs hvs fun A0 S0 h1 h2=>hv A0 S0 w vs h1 h2 c cs⟩
 ·exact .inr fun A S w vs hs hvs=>key A S w vs _ hs hvs fun A0 S0 h1 h2=>hv A0 S0 w vs h1 h2
theorem CalOk.of_val {f:FuncId} {args args':List RV} {ts:List Nat} {Q:RV→Prop} {Q':RV→List Ob→Prop} (hz:fzRs L args=some (args',ts)) (hv:ValC P G f args' Q)
  (hQ:∀r,Q r→persR r=true→Q' r (if scalarR r then L else fzObs ts L)):CalOk P G (.fn f) args L Q':=by
 suffices key:∀(A:Nat→Prop) (S:Where) (w:World) (vs:List Value) (E:Value→World→Prop),Sim G A S L w→RelV A S w args vs→
   (∀A0 S0,Sim G A0 S0 [] w→RelV A0 S0 w args' vs→∃r L' v A' S' w',(∃r' ts,fzR L' r=some (r',ts)∧Q r')∧E v w'∧RelR A' S' w' r v∧Sim G A' S' L' w'∧Ext A0 S0 [] w A' S' L' w')→
   ∃r L' v A' S' w',Q' r L'∧E v w'∧RelR A' S' w' r v∧Sim G A' S' L' w'∧Ext A S L w A' S' L' w' by
  rcases hv with ⟨hf,hv⟩ | hv
  ·exact .inl ⟨hf,fun A S w vs hs hvs c cs=>key A S w vs _ hs hvs fun A0 S0 h1 h2=>hv A0 S0 w vs h1 h2 c cs⟩
  ·exact .inr fun A S w vs hs hvs=>key A S w vs _ hs hvs fun A0 S0 h1 h2=>hv A0 S0 w vs h1 h2
 intro A S w vs E hs hvs hv;obtain ⟨hvs1,hcells⟩:=RelV.fz (S':=fun _=>none) hs hz hvs;have hfz:=hs.freeze hcells;have hs0:Sim G (Aplus A S ts) (fun _=>none) [] w:=hs.empty (fun B hB=> .inl hB) hfz.lt;obtain ⟨r,L',v,A',S',w',⟨r',ts',hr',hq⟩,hst,hrel,hsim,hext⟩:=hv (Aplus A S ts) (fun _=>none) hs0 hvs1;have hsame:=hext.same;have hp:=fzR_pers hr';have hrel':=fzR_enc (S':=S) hsim hr' hrel;have hq':=hQ r' hq hp;cases hsc:scalarR r' with
 | true=>
  rw [hsc] at hq';exact ⟨r',L,v,A,S,w',hq',hst,RelR.scalar hsc hrel',hs.of_same hsame,Ext.of_same hsame⟩
 | false=>
  rw [hsc] at hq';have hs2:=hfz.of_same hsame
  let An:Nat→Prop:=fun B=>Aplus A S ts B∨(w.heap.size≤B∧B<w'.heap.size)
  have hs3:Sim G An S (fzObs ts L) w':=hs2.wide (fun B hB=> .inl hB)
   (fun B hB ho=>by
    rcases hB with hB | ⟨h1,h2⟩
    ·exact hs2.dis B hB ho
    ·have:=Owned.lt hfz ho;omega)
   (fun B hB=>by
    rcases hB with hB | ⟨h1,h2⟩
    ·exact hs2.lt B hB
    ·exact h2)
  have hlt':∀B,Aplus A' S' ts' B→B<w'.heap.size:=(hsim.freeze (fzR_cells hr')).lt;have hsub:∀B,Aplus A' S' ts' B→An B:=by
   intro B hB
   rcases Nat.lt_or_ge B w.heap.size with hlt | hge
   ·left;have hnone:¬Owned (fun _=>none) [] B:=by rintro ⟨b,ob,d,h1,_⟩;simp at h1
    have hA':A' B→Aplus A S ts B:=by
     intro h
     rcases hext.down B h with h | h | h
     ·exact h
     ·omega
     ·simp_all
    rcases hB with hB | ⟨b,d,hb,hS⟩
    ·exact hA' hB
    ·obtain ⟨cs',fz,hL⟩:=fzR_cells hr' b hb;cases fz with
     | false=>exact (hnone (hext.own B hlt ⟨b,_,d,hL,rfl,hS⟩)).elim
     | true=>
      obtain ⟨B',d',c',e,fr,h1,h2,h3,h4,h5,h6⟩:=hsim.ob b _ hL
      simp_all
   ·grind
  refine ⟨r',fzObs ts L,v,An,S,w',hq',hst,RelR.pers hsub hp hrel',hs3,(Ext.freeze hs hcells).trans ?_⟩
  exact {
   size:=hsame.1
   os:=hsame.2.1
   tape:=hsame.2.2.1
   output:=hsame.2.2.2.1
   wh:=fun _ _ h=>h
   nw:=fun _ _ h=>h
   len:=Nat.le_refl _
   keep:=fun B hB _=>hsame.2.2.2.2 B hB
   shp:=fun B c e fr hc=>⟨c,⟨fr,by rw [hsame.2.2.2.2 B (not_lt_heap hc)];exact hc⟩,rfl⟩
   up:=fun B h=> .inl h
   down:=fun B h=>h.imp id fun h=> .inl h.1
   own:=fun _ _ h=>h}
end
end Go.Sx
namespace Go.Sx
def msk (M:List Nat) (hp:List Ob):List Ob:=M.foldl (fun h b=>h.set b .gone) hp
theorem msk_length:∀(M:List Nat) (hp:List Ob),(msk M hp).length=hp.length
 | [],hp=>rfl
 | b::M,hp=>by
  show (msk M (hp.set b .gone)).length=_;rw [msk_length M];simp
theorem msk_in:∀{M:List Nat} {hp:List Ob} {b:Nat},b∈M→(msk M hp)[b]? =(hp[b]?).map fun _=>Ob.gone
 | m::M,hp,b,h=>by
  show (msk M (hp.set m .gone))[b]? =_
  by_cases hb:b∈M
  ·rw [msk_in hb]
   grind
  ·have hm:b=m:=by simpa [hb] using h
   subst hm;have aux:∀(M:List Nat) (h:List Ob),b∉M→(msk M h)[b]? =h[b]? :=by
    intro M
    induction M with
    | nil=>intro h _;rfl
    | cons x M ih=>
     intro h hn;show (msk M (h.set x .gone))[b]? =_
     grind
   grind
theorem msk_out:∀{M:List Nat} {hp:List Ob} {b:Nat},b∉M→(msk M hp)[b]? =hp[b]?
 | [],hp,b,_=>rfl
 | m::M,hp,b,h=>by
  show (msk M (hp.set m .gone))[b]? =_;rw [msk_out (fun h'=>h (List.mem_cons_of_mem _ h')),List.getElem?_set_ne]
  grind
theorem msk_some {M:List Nat} {hp:List Ob} {b:Nat} {x:Ob} (h:(msk M hp)[b]? =some x) (hx:x≠.gone):b∉M∧hp[b]? =some x:=by
 by_cases hb:b∈M
 ·rw [msk_in hb] at h
  simp_all
 ·rw [msk_out hb] at h;simp_all
theorem msk_set {M:List Nat} {hp:List Ob} {b:Nat} {ob:Ob} (h:b∈M):Sx.msk M (hp.set b ob)=Sx.msk M hp:=by
 apply List.ext_getElem?;intro i
 by_cases hi:i∈M
 ·rw [msk_in hi,msk_in hi,List.getElem?_set]
  grind
 ·rw [msk_out hi,msk_out hi,List.getElem?_set_ne]
  grind
theorem msk_msk {M M':List Nat} {hp:List Ob} (h:∀b∈M,b<hp.length→b∈M'):Sx.msk M' (Sx.msk M hp)=Sx.msk M' hp:=by
 apply List.ext_getElem?;intro i
 by_cases hi:i∈M'
 ·rw [msk_in hi,msk_in hi]
  rcases Nat.lt_or_ge i hp.length with hl | hl
  ·rw [List.getElem?_eq_getElem hl,List.getElem?_eq_getElem (by rw [msk_length];exact hl)];rfl
  ·rw [List.getElem?_eq_none hl,List.getElem?_eq_none (by rw [msk_length];exact hl)]
 ·rw [msk_out hi,msk_out hi]
  by_cases hm:i∈M
  ·rcases Nat.lt_or_ge i hp.length with hl | hl
   ·simp_all
   ·rw [List.getElem?_eq_none hl,List.getElem?_eq_none (by rw [msk_length];exact hl)]
  ·rw [msk_out hm]
def over (M:List Nat) (L L1:List Ob):List Ob:=L1.mapIdx fun k o=>if k∈M then L.getD k .gone else o
theorem over_length {M:List Nat} {L L1:List Ob}:(over M L L1).length=L1.length:=by simp [over]
theorem over_in {M:List Nat} {L L1:List Ob} {k:Nat} (hk:k∈M) (h1:k<L.length) (h2:k<L1.length):(over M L L1)[k]? =L[k]? :=by
 simp [over,List.getElem?_mapIdx,List.getElem?_eq_getElem h2,List.getElem?_eq_getElem h1,hk]
theorem over_out {M:List Nat} {L L1:List Ob} {k:Nat} (hk:k∉M):(over M L L1)[k]? =L1[k]? :=by
 simp only [over,List.getElem?_mapIdx]
 simp_all
section
variable {P:Program} {T:Tab} {G:Globs} {A A':Nat→Prop} {S S':Where} {L L1:List Ob} {w w':World} {M:List Nat}
theorem mutOb_live {o:Ob} (h:mutOb o=true):liveOb o=true:=by cases o<;>simp_all [mutOb,liveOb]
theorem Sim.mask (hs:Sim G A S L w) (M:List Nat):Sim G A S (msk M L) w where
 ob b o h:=by
  by_cases hg:o= .gone
  ·subst hg;trivial
  ·exact hs.ob b o (msk_some h hg).2
 dis B hA ho:=by
  obtain ⟨b,ob,d,h1,h2,h3⟩:=ho;exact hs.dis B hA ⟨b,ob,d,(msk_some h1 (by rintro rfl;simp [mutOb] at h2)).2,h2,h3⟩
 lt:=hs.lt
 inj b b' o o' B d d' hne h1 h2 h3 h4 h5 h6:=hs.inj b b' o o' B d d' hne (msk_some h1 (by rintro rfl;simp [mutOb] at h2)).2 h2 (msk_some h3 (by rintro rfl;simp [liveOb] at h4)).2 h4 h5 h6
 dom b B d h:=by rw [msk_length];exact hs.dom b B d h
 gl:=hs.gl
theorem Owned.unmask {B:Nat} (h:Owned S (msk M L) B):∃b o d,b∉M∧L[b]? =some o∧mutOb o=true∧S b=some (B,d):=by
 obtain ⟨b,ob,d,h1,h2,h3⟩:=h;obtain ⟨k1,k2⟩:=msk_some h1 (by rintro rfl;simp [mutOb] at h2)
 grind
theorem liveOb_where (hs:Sim G A S L w) {b:Nat} {o:Ob} (h:L[b]? =some o) (hl:liveOb o=true):∃B d,S b=some (B,d)∧B<w.heap.size:=by
 have lt:∀{B:Nat} {x:Obj},w.heap[B]? =some x→B<w.heap.size:=fun h=>(Array.getElem?_eq_some_iff.1 h).1;have:=hs.ob b o h;cases o with
 | cells cs fz=>obtain ⟨B,d,c,e,fr,h1,h2,_⟩:=this;simp_all
 | map es=>obtain ⟨B,d,ents,clock,h1,h2,_⟩:=this;simp_all
 | iter s pos=>obtain ⟨B,h1,h2⟩:=this;simp_all
 | loop r=>obtain ⟨B,d,tm,D,h1,h2,_⟩:=this;simp_all
 | gone=>simp [liveOb] at hl
 | tc t cs buf=>obtain ⟨B,c,fr,h1,h2,_⟩:=this;simp_all
theorem masked_kept (hs:Sim G A S L w) (hx:Ext A S (msk M L) w A' S' L1 w') {b:Nat} {o:Ob} (hb:b∈M) (h:L[b]? =some o) (hl:liveOb o=true) {B d:Nat} (hS:S b=some (B,d)):¬Owned S (msk M L) B:=by
 intro ho;obtain ⟨b2,o2,d2,k1,k2,k3,k4⟩:=Owned.unmask ho;exact hs.inj b2 b o2 o B d2 d (by grind) k2 k3 h hl k4 hS
theorem ObRel.frame (hs:Sim G A S L w) (hx:Ext A S (msk M L) w A' S' L1 w') {b:Nat} {o:Ob} (hb:b∈M) (h:L[b]? =some o):ObRel A' S' w' b o:=by
 have hm:=hs.mask M
 by_cases hl:liveOb o=true
 ·obtain ⟨B,d,hS,hlt⟩:=liveOb_where hs h hl;have hk:=hx.keep B hlt (masked_kept hs hx hb h hl hS);have hS':=hx.wh b _ hS;have:=hs.ob b o h;cases o with
  | cells cs fz=>
   obtain ⟨B',d',c,e,fr,h1,h2,h3,h4,h5,h6⟩:=this;rw [hS] at h1;simp only [Option.some.injEq,Prod.mk.injEq] at h1;obtain ⟨rfl,rfl⟩:=h1;refine ⟨B,d,c,e,fr,hS',hk.trans h2,h3,h4,fun hf=>hx.up B (h5 hf),fun i x hi=> ?_⟩;obtain ⟨v,q1,q2⟩:=h6 i x hi;exact ⟨v,q1,hm.rel hx q2⟩
  | map es=>
   obtain ⟨B',d',ents,clock,h1,h2,h3,h4⟩:=this;rw [hS] at h1;simp only [Option.some.injEq,Prod.mk.injEq] at h1;obtain ⟨rfl,rfl⟩:=h1;refine ⟨B,d,ents,clock,hS',hk.trans h2,h3,fun i k x hi=> ?_⟩;obtain ⟨e,q1,q2,q3⟩:=h4 i k x hi;exact ⟨e,q1,q2,hm.relW hx q3⟩
  | iter s pos=>
   obtain ⟨B',h1,h2⟩:=this;rw [hS] at h1;simp only [Option.some.injEq,Prod.mk.injEq] at h1;obtain ⟨rfl,rfl⟩:=h1;exact ⟨B,hS',hk.trans h2⟩
  | loop r=>
   obtain ⟨B',d',tm,D,h1,h2,h3⟩:=this;rw [hS] at h1;simp only [Option.some.injEq,Prod.mk.injEq] at h1;obtain ⟨rfl,rfl⟩:=h1;exact ⟨B,d,tm,D,hS',hk.trans h2,hm.relRs hx h3⟩
  | gone=>simp [liveOb] at hl
  | tc t cs buf=>
   obtain ⟨B',c,fr,h1,h2,h3,h4,h5,h6⟩:=this;rw [hS] at h1;simp only [Option.some.injEq,Prod.mk.injEq] at h1;obtain ⟨rfl,rfl⟩:=h1;refine ⟨B,c,fr,hS',hk.trans h2,h3,h4,h5,fun i x hi=> ?_⟩;obtain ⟨v,q1,q2⟩:=h6 i x hi;exact ⟨v,q1,hm.rel hx q2⟩
 ·cases o<;>simp [liveOb] at hl
  trivial
theorem frame_ext (hs:Sim G A S L w) (hlen:L.length≤L1.length) (hM:∀b∈M,b<L.length) (hx:Ext A S (msk M L) w A' S' L1 w') (hs1:Sim G A' S' L1 w'):Ext A S L w A' S' (over M L L1) w' where
 size:=hx.size
 os:=hx.os
 tape:=hx.tape
 output:=hx.output
 wh:=hx.wh
 nw b hb hn:=hx.nw b (by rw [msk_length];exact hb) hn
 len:=by rw [over_length];exact hlen
 keep B hB hn:=hx.keep B hB fun ho=>by
  obtain ⟨b,o,d,_,k2,k3,k4⟩:=Owned.unmask ho;exact hn ⟨b,o,d,k2,k3,k4⟩
 shp:=hx.shp
 up:=hx.up
 down B hB:=by
  rcases hx.down B hB with h | h | h
  ·exact .inl h
  ·omega
  ·obtain ⟨b,o,d,_,k2,k3,k4⟩:=Owned.unmask h;exact .inr (.inr ⟨b,o,d,k2,k3,k4⟩)
 own B hB ho:=by
  obtain ⟨b,o,d,h1,h2,h3⟩:=ho
  by_cases hb:b∈M
  ·rw [over_in hb (hM b hb) (Nat.lt_of_lt_of_le (hM b hb) hlen)] at h1;obtain ⟨B0,d0,hS,_⟩:=liveOb_where hs h1 (mutOb_live h2);have:=hx.wh b _ hS;rw [h3] at this;simp only [Option.some.injEq,Prod.mk.injEq] at this;obtain ⟨rfl,rfl⟩:=this;exact ⟨b,o,d,h1,h2,hS⟩
  ·rw [over_out hb] at h1;obtain ⟨b2,o2,d2,_,k2,k3,k4⟩:=Owned.unmask (hx.own B hB ⟨b,o,d,h1,h2,h3⟩);exact ⟨b2,o2,d2,k2,k3,k4⟩
theorem frame_sim (hs:Sim G A S L w) (hlen:L.length≤L1.length) (hM:∀b∈M,b<L.length) (hlive:∀(b:Nat) o,b∉M→L[b]? =some o→liveOb o=true)
  (hx:Ext A S (msk M L) w A' S' L1 w') (hs1:Sim G A' S' L1 w'):Sim G A' S' (over M L L1) w':=by
 have get:∀{b:Nat} {o:Ob},(over M L L1)[b]? =some o→(b∈M∧L[b]? =some o)∨(b∉M∧L1[b]? =some o):=by
  intro b o h
  by_cases hb:b∈M
  ·rw [over_in hb (hM b hb) (Nat.lt_of_lt_of_le (hM b hb) hlen)] at h;simp_all
  ·rw [over_out hb] at h;simp_all
 have wher:∀{b:Nat} {o:Ob} {B d:Nat},L[b]? =some o→liveOb o=true→S' b=some (B,d)→S b=some (B,d)∧B<w.heap.size:=by
  intro b o B d h hl h3;obtain ⟨B0,d0,hS,hlt⟩:=liveOb_where hs h hl;have:=hx.wh b _ hS;rw [h3] at this;simp only [Option.some.injEq,Prod.mk.injEq] at this;obtain ⟨rfl,rfl⟩:=this;exact ⟨hS,hlt⟩
 have nown:∀{b:Nat} {o:Ob} {B d:Nat},b∈M→L[b]? =some o→liveOb o=true→S b=some (B,d)→B<w.heap.size→¬Owned S' L1 B:=by
  intro b o B d hb h hl hS hlt ho;exact masked_kept hs hx hb h hl hS (hx.own B hlt ho)
 have nA:∀{b:Nat} {o:Ob} {B d:Nat},b∈M→L[b]? =some o→mutOb o=true→S b=some (B,d)→B<w.heap.size→¬A' B:=by
  intro b o B d hb h hm hS hlt hA
  rcases hx.down B hA with h' | h' | h'
  ·exact hs.dis B h' ⟨b,o,d,h,hm,hS⟩
  ·omega
  ·exact masked_kept hs hx hb h (mutOb_live hm) hS h'
 refine ⟨fun b o h=> ?_,fun B hA ho=> ?_,hs1.lt,fun b b' o o' B d d' hne h1 h2 h3 h4 h5 h6=> ?_,fun b B d h=> ?_,hs1.gl⟩
 ·rcases get h with ⟨hb,h'⟩ | ⟨hb,h'⟩
  ·exact ObRel.frame hs hx hb h'
  ·exact hs1.ob b o h'
 ·obtain ⟨b,o,d,h1,h2,h3⟩:=ho
  rcases get h1 with ⟨hb,h'⟩ | ⟨hb,h'⟩
  ·obtain ⟨k1,k2⟩:=wher h' (mutOb_live h2) h3
   grind
  ·exact hs1.dis B hA ⟨b,o,d,h',h2,h3⟩
 ·rcases get h1 with ⟨hb,q1⟩ | ⟨hb,q1⟩
  ·obtain ⟨k1,k2⟩:=wher q1 (mutOb_live h2) h5
   rcases get h3 with ⟨hb',q3⟩ | ⟨hb',q3⟩
   ·obtain ⟨k3,k4⟩:=wher q3 h4 h6;exact hs.inj b b' o o' B d d' hne q1 h2 q3 h4 k1 k3
   ·rcases Nat.lt_or_ge b' L.length with hlt | hge
    ·have hl0:∃o0,L[b']? =some o0:=⟨_,List.getElem?_eq_getElem hlt⟩
     obtain ⟨o0,ho0⟩:=hl0;have hlv:=hlive b' o0 hb' ho0;obtain ⟨k3,k4⟩:=wher ho0 hlv h6;exact hs.inj b b' o o0 B d d' hne q1 h2 ho0 hlv k1 k3
    ·cases hm:mutOb o' with
     | true=>exact nown hb q1 (mutOb_live h2) k1 k2 ⟨b',o',d',q3,hm,h6⟩
     | false=>
      cases o' with
      | cells cs fz=>
       simp [mutOb] at hm;subst hm;obtain ⟨B',d2,c,e,fr,g1,g2,g3,g4,g5,g6⟩:=hs1.ob b' _ q3
       grind
      | gone=>simp [liveOb] at h4
      | _=>simp [mutOb] at hm
  ·rcases get h3 with ⟨hb',q3⟩ | ⟨hb',q3⟩
   ·obtain ⟨k3,k4⟩:=wher q3 h4 h6;exact nown hb' q3 h4 k3 k4 ⟨b,o,d,q1,h2,h5⟩
   ·exact hs1.inj b b' o o' B d d' hne q1 h2 q3 h4 h5 h6
 ·rw [over_length];exact hs1.dom b B d h
theorem CalOk.mono {c:Cal} {args:List RV} {Q Q':RV→List Ob→Prop} (h:CalOk P G c args L Q) (hq:∀r L,Q r L→Q' r L):CalOk P G c args L Q':=by
 cases c with
 | fn f=>
  rcases h with ⟨h1,h2⟩ | h
  ·exact .inl ⟨h1,fun A S w vs hs hvs=>(h2 A S w vs hs hvs).mono hq⟩
  ·exact .inr fun A S w vs hs hvs=>let ⟨r,L',v,A',S',w',k1,k2⟩:=h A S w vs hs hvs;⟨r,L',v,A',S',w',hq _ _ k1,k2⟩
 | yl b=>exact ⟨h.1,fun A S w vs B d lr hs hvs hS hlr=>let ⟨k1,k2⟩:=h.2 A S w vs B d lr hs hvs hS hlr;⟨k1,k2.mono hq⟩⟩
theorem CalOk.frame {c:Cal} {args:List RV} {Q:RV→List Ob→Prop} (hM:∀b∈M,b<L.length) (hlive:∀(b:Nat) o,b∉M→L[b]? =some o→liveOb o=true)
  (h:CalOk P G c args (msk M L) Q):CalOk P G c args L fun r L'=>∃L1,Q r L1∧L'=over M L L1:=by
 have ret:∀{A:Nat→Prop} {S:Where} {w:World} {fr:Frame},Sim G A S L w→RetOk P G A S (msk M L) w fr Q→RetOk P G A S L w fr fun r L'=>∃L1,Q r L1∧L'=over M L L1:=by
  intro A S w fr hs hr c cs;obtain ⟨r,L1,v,A',S',w',q,hst,hrel,hs1,hx⟩:=hr c cs;have hlen:L.length≤L1.length:=by have:=hx.len;rw [msk_length] at this;exact this
  exact ⟨r,over M L L1,v,A',S',w',⟨L1,q,rfl⟩,hst,hrel,frame_sim hs hlen hM hlive hx hs1,frame_ext hs hlen hM hx hs1⟩
 cases c with
 | fn f=>
  rcases h with ⟨h1,h2⟩ | h
  ·exact .inl ⟨h1,fun A S w vs hs hvs=>ret hs (h2 A S w vs (hs.mask M) hvs)⟩
  ·refine .inr fun A S w vs hs hvs=> ?_;obtain ⟨r,L1,v,A',S',w',q,hst,hrel,hs1,hx⟩:=h A S w vs (hs.mask M) hvs;have hlen:L.length≤L1.length:=by have:=hx.len;rw [msk_length] at this;exact this
   exact ⟨r,over M L L1,v,A',S',w',⟨L1,q,rfl⟩,hst,hrel,frame_sim hs hlen hM hlive hx hs1,frame_ext hs hlen hM hx hs1⟩
 | yl b=>
  obtain ⟨⟨r,h1⟩,h2⟩:=h;refine ⟨⟨r,(msk_some h1 (by simp)).2⟩,fun A S w vs B d lr hs hvs hS hlr=> ?_⟩;obtain ⟨k1,k2⟩:=h2 A S w vs B d lr (hs.mask M) hvs hS hlr
  simp_all
end
end Go.Sx
namespace Go.Sx
section
variable {G:Globs} {A A':Nat→Prop} {S S':Where} {L L':List Ob} {w w':World} {n s:Nat}
theorem lget_set {l:List Ob} {i j:Nat} {x y:Ob} (h:(l.set i x)[j]? =some y):(j=i∧y=x)∨(j≠i∧l[j]? =some y):=by
 grind
theorem ExtN.pushAt (hs:Sim G A S L w) (hn:S s=none) (hle:n≤s) (ob:Ob) (o:Obj) (d:Nat):
  ExtN n A S L w A (S.put s (w.heap.size,d)) (L.set s ob) (pushW w o) where
 size:=by simp [pushW]
 os:=rfl
 tape:=rfl
 output:=rfl
 wh b p hp:=by rw [Where.put_ne _ _ (fun e=>by simp_all)];exact hp
 nw b hb h:=by rw [Where.put_ne _ _ (by omega)];exact h
 len:=by simp
 keep B hB _:=pushW_old w o hB
 shp B c e fr hc:=⟨c,⟨fr,by rw [pushW_old w o (not_lt_heap hc)];exact hc⟩,rfl⟩
 up _ h:=h
 down _ h:= .inl h
 own B hB ho:=by
  obtain ⟨b,ob',d',h1,h2,h3⟩:=ho
  rcases lget_set h1 with ⟨rfl,_⟩ | ⟨h4,h5⟩
  ·simp_all
  ·exact ⟨b,ob',d',h5,h2,by rwa [Where.put_ne _ _ h4] at h3⟩
theorem Sim.pushAt (hs:Sim G A S L w) (hn:S s=none) (hlt:s<L.length) (ob:Ob) (o:Obj) (d:Nat) (hob:ObRel A (S.put s (w.heap.size,d)) (pushW w o) s ob):
  Sim G A (S.put s (w.heap.size,d)) (L.set s ob) (pushW w o) where
 ob b x hb:=by
  rcases lget_set hb with ⟨rfl,rfl⟩ | ⟨h4,h5⟩
  ·exact hob
  ·refine ObRel.ext hs (ExtN.pushAt (n:=0) hs hn (Nat.zero_le _) ob o d) (hs.ob b x h5) fun hl B d' hB=> ?_;obtain ⟨B',d2,o',h8,h9⟩:=(hs.ob b x h5).live hl;rw [hB] at h8;simp only [Option.some.injEq,Prod.mk.injEq] at h8;obtain ⟨rfl,rfl⟩:=h8;exact pushW_old w o (not_lt_heap h9)
 dis B hA ho:=by
  obtain ⟨b,ob',d',h1,h2,h3⟩:=ho
  rcases lget_set h1 with ⟨rfl,_⟩ | ⟨h4,h5⟩
  ·simp at h3;have:=hs.lt B hA;omega
  ·exact hs.dis B hA ⟨b,ob',d',h5,h2,by rwa [Where.put_ne _ _ h4] at h3⟩
 lt B hA:=by have:=hs.lt B hA;simp [pushW];omega
 inj b b' x x' B d1 d2 hne hb hm hb' hl h1 h2:=by
  rcases lget_set hb with ⟨rfl,rfl⟩ | ⟨h4,h5⟩<;>rcases lget_set hb' with ⟨rfl,rfl⟩ | ⟨h6,h7⟩
  ·exact hne rfl
  ·rw [Where.put_ne _ _ h6] at h2;simp at h1;obtain ⟨B',d',o',h8,h9⟩:=(hs.ob b' x' h7).live hl
   simp_all
  ·rw [Where.put_ne _ _ h4] at h1;simp at h2;have:=Owned.lt hs ⟨b,x,d1,h5,hm,h1⟩;omega
  ·rw [Where.put_ne _ _ h4] at h1;rw [Where.put_ne _ _ h6] at h2;exact hs.inj b b' x x' B d1 d2 hne h5 hm h7 hl h1 h2
 dom b B d' h:=by
  by_cases hb:b=s
  ·simp;omega
  ·rw [Where.put_ne _ _ hb] at h;have:=hs.dom b B d' h;simp;omega
 gl g vs hg:=by
  obtain ⟨h1,h2⟩:=hs.gl g vs hg;refine ⟨h1,fun i v hi=> ?_⟩;obtain ⟨h3,h4⟩:=h2 i v hi;refine ⟨?_,h4⟩;unfold World.cell? at*;rw [pushW_old w o (hs.lt g h1)];exact h3
end
section
variable {P:Program} {T:Tab} [TOk P T] {G:Globs} {A:Nat→Prop} {S:Where} {L:List Ob} {w:World} {n s:Nat}
theorem newRowAt_ok (hs:Sim G A S L w) (hn:S s=none) (hlt:s<L.length) {cs:List LV} {vs:Array Value} (e:TypeId) (hr:RelL A S w cs vs.toList):
  (newRow e vs).run P w= .ok ⟨w.heap.size,0,none⟩ (pushW w (.cells vs e))∧
   Sim G A (S.put s (w.heap.size,0)) (L.set s (.cells cs false)) (pushW w (.cells vs e)):=by
 refine ⟨by rfl,hs.pushAt hn hlt _ _ 0 ?_⟩;have hl:=hr.1;simp at hl;refine ⟨w.heap.size,0,vs,e,(0,0),Where.put_same _ _ _,pushW_new w _,by omega,fun i _ h=>by simp at h,fun h=>by simp at h,fun i x hi=> ?_⟩;obtain ⟨v,h1,h2⟩:=hr.2 i x hi;exact ⟨v,by simpa using h1,hs.rel (ExtN.pushAt (n:=0) hs hn (Nat.zero_le _) (.cells cs false) (.cells vs e) 0) h2⟩
theorem buildSliceAt_ok (hs:Sim G A S L w) (hn:S s=none) (hlt:s<L.length) {t:TypeId} {len:Nat} {ps:List (Nat×RV)} {vs:List (Nat×Value)} {b o n z:Nat} {ob:Ob} (h:buildSliceA T t len ps []=some (.v (.one (.lsl b o n z)),[ob]))
  (hk:ps.map (·.1)=vs.map (·.1)) (hr:RelV A S w (ps.map (·.2)) (vs.map (·.2))):
  ∃v w',(Instr.buildSlice t len vs.toArray).run P w= .ok v w'∧RelR A (S.put s (w.heap.size,0)) w' (.v (.one (.lsl s 0 n z))) v∧Sim G A (S.put s (w.heap.size,0)) (L.set s ob) w'∧∀k,k≤s→ExtN k A S L w A (S.put s (w.heap.size,0)) (L.set s ob) w':=by
 unfold buildSliceA at h;split at h
 ·rename_i e hu;split at h
  ·rename_i sz zero hsz hz;split at h
   ·rename_i hb;split at h
    ·rename_i cs hf;simp at h;obtain ⟨⟨rfl,rfl,rfl,rfl⟩,rfl⟩:=h;obtain ⟨zv,hz1,hz2⟩:=zeroOf_rel (P:=P) hz;have hzs:zv.cells.size=sz:=by have:=(hz2 (A:=A) (S:=S) (w:=w)).1;simp at this;omega
     let base:Array Value:=(Array.range (len*sz)).map (fun i=>(if len*sz=0 then #[] else zv.cells)[i%(if len*sz=0 then (#[]:Array Value) else zv.cells).size]!)
     have hbase:base.toList=(List.replicate len zv.cells.toList).flatten:=by
      show ((Array.range (len*sz)).map _).toList=_
      by_cases h0:len*sz=0
      ·simp only [h0,if_true];have:len=0∨zv.cells.toList=[]:=by
        rcases Nat.mul_eq_zero.1 h0 with h | h
        ·exact .inl h
        ·simp_all
       rcases this with h | h
       all_goals simp_all
      ·simp only [h0,if_false];rw [← hzs];exact range_zeros zv.cells len
     obtain ⟨cv',q1,q2⟩:=fill_ok (cv:=base) hf hk hr (by rw [hbase];exact relL_flat hz2 len);obtain ⟨k1,k3⟩:=newRowAt_ok (P:=P) hs hn hlt e q2;refine ⟨.slice (some ⟨w.heap.size,0,none⟩) len len,_,?_,?_,k3,fun k hle=>ExtN.pushAt hs hn hle _ _ 0⟩
     ·have hle:¬(len*sz>2^24):=by omega
      have hq:Instr.fill (fun i=>some (i*sz,sz)) ((Array.range (len*sz)).map (fun i=>(if len*sz=0 then #[] else zv.cells)[i%(if len*sz=0 then (#[]:Array Value) else zv.cells).size]!)) vs=some cv':=q1;simp only [Instr.buildSlice,Sem.run_bind,run_und hu,Result.andThen_ok,run_sz hsz,Sem.run_ite,hle,if_false,Sem.run_pure,hz1]
      by_cases h0:len*sz=0
      all_goals simp_all
     ·refine ⟨w.heap.size,0,0,len,Where.put_same _ _ _,by simp,Nat.le_refl _,fun _=>⟨by simp,cv',e,(0,0),pushW_new w _,?_⟩⟩;have h1:=q2.1;simp at h1;have h2:cs.length=len*sz:=by
       rw [fillL_length hf];have:=hb.2;simp [this]
      omega
    ·simp at h
   ·simp at h
  ·simp at h
 ·simp at h
def freshA (T:Tab) (ρ:Operand→RV) (o:Oper) (s:Nat):Option (RV×Ob):=
 match o.op with
 | .alloc t=>match zeroOf T t with
  | some cs=>some (.v (.one (.ref s 0)),.cells cs false)
  | none=>none
 | .box _ x=>match cellsR (ρ x) with
  | some cs=>some (.v (.one (.ref s 0)),.cells cs false)
  | none=>none
 | .buildSlice t len parts=>match buildSliceA T t len (parts.toList.map fun p=>(p.1,ρ p.2)) [] with
  | some (.v (.one (.lsl _ _ n z)),[ob])=>some (.v (.one (.lsl s 0 n z)),ob)
  | _=>none
 | _=>none
def AtOk (P:Program) (G:Globs) (A:Nat→Prop) (S:Where) (L:List Ob) (w:World) (s:Nat) (sem:Sem Next) (r:RV) (ob:Ob):Prop:=
 ∃v w',sem.run P w= .ok (.value v) w'∧RelR A (S.put s (w.heap.size,0)) w' r v∧Sim G A (S.put s (w.heap.size,0)) (L.set s ob) w'∧∀n,n≤s→ExtN n A S L w A (S.put s (w.heap.size,0)) (L.set s ob) w'
theorem freshA_ok (hs:Sim G A S L w) (hn:S s=none) (hlt:s<L.length) {ρ:Operand→RV} {ρ':Operand→Value} {o:Oper} {r:RV} {ob:Ob} (hρ:∀x∈o.op.operands,RelR A S w (ρ x) (ρ' x)) (h:freshA T ρ o s=some (r,ob)):
  AtOk P G A S L w s (execOp ρ' o) r ob:=by
 obtain ⟨dst,op,type,pos,after,guard⟩:=o;cases op with
 | alloc t=>
  simp only [freshA] at h;split at h
  ·rename_i cs hz;simp at h;obtain ⟨rfl,rfl⟩:=h;obtain ⟨v,hv,hr⟩:=zeroOf_rel (P:=P) hz;obtain ⟨h1,h2⟩:=newRowAt_ok (P:=P) hs hn hlt t (hr (A:=A) (S:=S) (w:=w));refine ⟨.pointer (some ⟨w.heap.size,0,none⟩),_,?_,⟨_,_,Where.put_same _ _ _,rfl⟩,h2,fun n hle=>ExtN.pushAt hs hn hle _ _ 0⟩;show (Sem.run P (do pure (Next.value (← Instr.alloc t true (.tuple #[])))) w)=_;simp [Instr.alloc,hv,newVar,h1]
  ·simp at h
 | box t x=>
  simp only [freshA] at h;split at h
  ·rename_i cs hz;simp at h;obtain ⟨rfl,rfl⟩:=h;obtain ⟨h1,h2⟩:=newRowAt_ok (P:=P) hs hn hlt t (cellsR_rel hz (hρ x (by simp [Op.operands])));refine ⟨.pointer (some ⟨w.heap.size,0,none⟩),_,?_,⟨_,_,Where.put_same _ _ _,rfl⟩,h2,fun n hle=>ExtN.pushAt hs hn hle _ _ 0⟩;rfl
  ·simp at h
 | buildSlice t len parts=>
  simp only [freshA] at h;split at h
  ·rename_i b o n z ob' hb;simp at h;obtain ⟨rfl,rfl⟩:=h
   obtain ⟨v,w',k1,k2,k3,k4⟩:=buildSliceAt_ok (P:=P) (vs:=parts.toList.map fun p=>(p.1,ρ' p.2)) hs hn hlt hb (by simp_all) (by
    simp only [List.map_map]
    exact RelV.mapMem _ _ _ fun p hp=>hρ p.2 (by simp [Op.operands];grind))
   have e:(parts.toList.map fun p=>(p.1,ρ' p.2)).toArray=parts.map fun (i,x)=>(i,ρ' x):=by
    apply Array.ext';simp
   rw [e] at k1;refine ⟨v,w',?_,k2,k3,k4⟩;show (Sem.run P (do pure (Next.value (← Instr.buildSlice t len (parts.map fun (i,x)=>(i,ρ' x))))) w)=_;simp [k1]
  ·simp at h
 | _=>simp [freshA] at h
end
end Go.Sx
namespace Go.Sx
def wantedR (ops:Array Oper) (regs:List RV) (o:Oper):Option Bool:=
 match o.guard with
 | none=>some true
 | some g=>guardR ops regs g
structure ValR where
 v:FuncId→List RV→RV→Prop
 o:Cal→List RV→List Ob→RV→List Ob→Prop
structure ValR.Ok (V:ValR) (P:Program) (G:Globs):Prop where
 v:∀g as r,V.v g as r→ValC P G g as (·=r)
 o:∀c as h r L1,V.o c as h r L1→CalOk P G c as h fun r' L'=>r'=r∧L'=L1
def callOf:Op→Option (Operand×List Operand)
 | .call {callee:= .value f,args,..}=>some (f,args.toList)
 | _=>none
def place:List Nat→Nat→Option Nat
 | [],_=>none
 | a::as,i=>if a=i then some 0 else (place as i).map (·+1)
theorem place_lt:∀{as:List Nat} {i k:Nat},place as i=some k→k<as.length
 | [],i,k,h=>by simp [place] at h
 | a::as,i,k,h=>by
  simp only [place] at h;split at h
  ·grind
  ·simp only [Option.map_eq_some_iff] at h;obtain ⟨k',h',rfl⟩:=h;have:=place_lt h';simp;omega
theorem place_inj:∀{as:List Nat} {i j k:Nat},place as i=some k→place as j=some k→i=j
 | [],i,j,k,h,_=>by simp [place] at h
 | a::as,i,j,k,h,h'=>by
  simp only [place] at h h';split at h
  ·rename_i e;simp at h;subst h
   simp_all
  ·simp only [Option.map_eq_some_iff] at h;obtain ⟨k',h1,rfl⟩:=h;split at h'
   ·simp at h'
   ·simp only [Option.map_eq_some_iff] at h';obtain ⟨k2,h2,e⟩:=h';have:k2=k':=by omega
    subst this;exact place_inj h1 h2
def ActD (P:Program) (T:Tab) (G:Globs) (V:ValR) (sl:Option Nat) (o:Oper) (ρ:Operand→RV) (hp:List Ob) (r:RV) (hp':List Ob):Prop:=
 match callOf o.op with
 | some (f,args)=>(∃g as as' ts,calOf (ρ f) (args.map ρ)=some (.fn g,as)∧fzRs hp as=some (as',ts)∧V.v g as' r∧hp'=if scalarR r then hp else fzObs ts hp)∨
  (∃c as M L1,calOf (ρ f) (args.map ρ)=some (c,as)∧V.o c as (msk M hp) r L1∧(∀b∈M,b<hp.length)∧(∀(b:Nat) o,b∉M→hp[b]? =some o→liveOb o=true)∧hp'=over M hp L1)
 | none=>match sl with
  | some s=>∃ob,freshA T ρ o s=some (r,ob)∧hp[s]? =some .gone∧hp'=hp.set s ob
  | none=>opA P T G ρ o hp=some (r,hp')
def StepD (P:Program) (T:Tab) (G:Globs) (V:ValR) (ops:Array Oper) (sl:Nat→Option Nat) (i:Nat) (st st':St):Prop:=
 ∃o,ops[i]? =some o∧
  ((wantedR ops st.regs o=some false∧st'=⟨putR st.regs o.dst undefR,st.hp⟩)∨
  (wantedR ops st.regs o=some true∧goodO o=true∧∃r hp,ActD P T G V (sl i) o (evR st.regs) st.hp r hp∧st'=⟨putR st.regs o.dst r,hp⟩))
def AnyD (P:Program) (T:Tab) (G:Globs) (V:ValR) (md:Region.Mode) (ops:Array Oper) (sl:Nat→Option Nat) (Q:St→Prop):Nat→Array Bool→St→Prop
 | 0,listed,st=>Q st
 | n+1,listed,st=>(Region.ready md ops listed=[]→Q st)∧
  ∀i∈Region.ready md ops listed,∃st',StepD P T G V ops sl i st st'∧AnyD P T G V md ops sl Q n (listed.setIfInBounds i true) st'
section
variable {P:Program} {T:Tab} [TOk P T] {G:Globs} {V:ValR} {ops:Array Oper} {sl:Nat→Option Nat} {md:Region.Mode} {A:Nat→Prop} {S:Where} {w:World}
theorem wantedR_ok {regs:List RV} {t:Array Value} (h:RelRs A S w regs t) {o:Oper} {c:Bool} (hc:wantedR ops regs o=some c):Region.wanted o (yielded ops t)=c:=by
 unfold wantedR at hc;split at hc
 ·rename_i hg;simp at hc;subst hc;simp [Region.wanted,hg]
 ·rename_i g hg;exact guardR_ok h hg hc
theorem StepD.sound (hwf:WFP T) (hV:V.Ok P G) {i:Nat} {rest:List Nat} {b:Frame} {t:Array Value} {k:List Item} {cs:List Frame} {st st':St} {n:Nat}
  (hs:Sim G A S st.hp w) (hr:RelRs A S w st.regs t) (hsl:∀s,sl i=some s→S s=none∧n≤s) (hn:n≤st.hp.length) (h:StepD P T G V ops sl i st st'):
  ∃t' A' S' w',Steps P (lone (Fr b t (.inRegion ops (i::rest)::k)) cs w) (lone (Fr b t' (.inRegion ops rest::k)) cs w')∧RelRs A' S' w' st'.regs t'∧Sim G A' S' st'.hp w'∧ExtN n A S st.hp w A' S' st'.hp w'∧
   ∀b,b<st.hp.length→S b=none→sl i≠some b→S' b=none:=by
 obtain ⟨o,ho,h⟩:=h
 rcases h with ⟨hw,rfl⟩ | ⟨hw,hgood,r,hp,hact,rfl⟩
 ·have hwt:=wantedR_ok hr hw;have hskip:=fr_opSkip (P:=P) (b:=b) (t:=t) (k:=k) (cs:=cs) (w:=w) (ops:=ops) (i:=i) (rest:=rest) (by simp [ho,hwt]);rw [ho] at hskip;simp only [Option.bind_some] at hskip;exact ⟨_,A,S,w,Steps.one' hskip,hr.put undefR_rel,hs,ExtN.refl,fun b _ h _=>h⟩
 ·have hwt:=wantedR_ok hr hw;have strong:∀{A' S' L' w'},Ext A S st.hp w A' S' L' w'→ExtN n A S st.hp w A' S' L' w':=fun hx=>{hx with nw:=fun b hb=>hx.nw b (Nat.lt_of_lt_of_le hb hn)}
  have viaK:(∃st'',opK P T G (CalOk P G) o st (fun s=>s=st'')∧st''=⟨putR st.regs o.dst r,hp⟩)→∃t' A' S' w',Steps P (lone (Fr b t (.inRegion ops (i::rest)::k)) cs w) (lone (Fr b t' (.inRegion ops rest::k)) cs w')∧RelRs A' S' w' (putR st.regs o.dst r) t'∧Sim G A' S' hp w'∧ExtN n A S st.hp w A' S' hp w'∧
   ∀b,b<st.hp.length→S b=none→sl i≠some b→S' b=none:=by
   rintro ⟨_,hk,rfl⟩;obtain ⟨st1,t1,A1,S1,w1,rfl,hst,hr1,hs1,hx1⟩:=opK_sound (b:=b) (k:=k) (cs:=cs) (rest:=rest) hwf ho hwt hs hr hk;exact ⟨t1,A1,S1,w1,hst,hr1,hs1,strong hx1,fun b hb h _=>hx1.nw b hb h⟩
  unfold ActD at hact;split at hact
  ·rename_i f args hcall;apply viaK;refine ⟨_,?_,rfl⟩;obtain ⟨dst,op,type,pos,after,guard⟩:=o;cases op with
   | call c=>
    obtain ⟨callee,cargs,ats⟩:=c;cases callee with
    | value f'=>
     simp only [callOf,Option.some.injEq,Prod.mk.injEq] at hcall;obtain ⟨rfl,rfl⟩:=hcall;unfold opK;simp only [hgood]
     rcases hact with ⟨g,as,as',ts,h1,h2,h3,h4⟩ | ⟨c,as,M,L1,h1,h2,h3,h4,h5⟩
     ·rw [h1];refine CalOk.of_val h2 (hV.v _ _ _ h3) ?_
      simp_all
     ·rw [h1];refine CalOk.mono (CalOk.frame h3 h4 (hV.o _ _ _ _ _ h2)) ?_
      simp_all
    | _=>simp [callOf] at hcall
   | _=>simp [callOf] at hcall
  ·rename_i hcall;split at hact
   ·rename_i s hsli;obtain ⟨ob,h1,h2,rfl⟩:=hact;obtain ⟨hnone,hle⟩:=hsl s hsli;have hlt:=(List.getElem?_eq_some_iff.1 h2).1;obtain ⟨v,w',k1,k2,k3,k4⟩:=freshA_ok (P:=P) (ρ':=evT t) hs hnone hlt (fun x hx=>evR_rel hr (goodO_mem hgood x hx)) h1;have hnd:notDefer o.op=true:=by
     cases hop:o.op<;>first | rfl | (simp [freshA,hop] at h1)
    refine ⟨_,A,_,w',Steps.one' (fr_opValue ho hwt hnd k1),(hs.relRs (k4 n hle) hr).put k2,k3,k4 n hle,fun b hb h hne=> ?_⟩;rw [Where.put_ne _ _ (fun e=>hne (by rw [e,hsli]))];exact h
   ·rename_i hsli;apply viaK;refine ⟨_,?_,rfl⟩;unfold opK;simp only [hgood];split
    ·rename_i f args ats hop;rw [hop] at hcall;simp [callOf] at hcall
    ·rw [hact]
theorem AnyD.sound (hwf:WFP T) (hV:V.Ok P G) {Q:St→Prop} {b:Frame} {k:List Item} {cs:List Frame} {n m:Nat} (hsl:∀i s,sl i=some s→n≤s∧s<m) (hinj:∀i j s,sl i=some s→sl j=some s→i=j):
  ∀(fuel r:Nat) (listed:Array Bool) (st:St) {A:Nat→Prop} {S:Where} {w:World} {t:Array Value},Sim G A S st.hp w→RelRs A S w st.regs t→n≤st.hp.length→m≤st.hp.length→
  (∀i s,sl i=some s→listed.getD i true=false→S s=none)→AnyD P T G V md ops sl Q fuel listed st→
  ∃st' t' A' S' w',Q st'∧Steps P (lone (Fr b t (.inRegion ops (Region.linearise.go md ops fuel r listed [])::k)) cs w) (lone (Fr b t' k) cs w')∧RelRs A' S' w' st'.regs t'∧Sim G A' S' st'.hp w'∧ExtN n A S st.hp w A' S' st'.hp w'
 | 0,r,listed,st,A,S,w,t,hs,hr,hn,hm,hfree,h=>by
  refine ⟨st,t,A,S,w,h,?_,hr,hs,ExtN.refl⟩;simp only [Region.linearise.go,List.reverse_nil];exact Steps.one' fr_regionEnd
 | fuel+1,r,listed,st,A,S,w,t,hs,hr,hn,hm,hfree,h=>by
  obtain ⟨hend,hall⟩:=h;simp only [Region.linearise.go]
  show ∃st' t' A' S' w',Q st'∧Steps P (lone (Fr b t (.inRegion ops (match (Region.ready md ops listed)[r%(Region.ready md ops listed).length]? with
   | some i=>Region.linearise.go md ops fuel (r /(Region.ready md ops listed).length) (listed.setIfInBounds i true) [i]
   | none=>[].reverse)::k)) cs w) _∧_
  split
  ·rename_i i hi;have hmem:i∈Region.ready md ops listed:=List.mem_of_getElem? hi;obtain ⟨st1,hstep,hrest⟩:=hall i hmem;have hunl:=(mem_ready.1 hmem).1;rw [linearise_go_acc];simp only [List.reverse_singleton,List.singleton_append];obtain ⟨t1,A1,S1,w1,hst,hr1,hs1,hx1,hfr1⟩:=StepD.sound (b:=b) (k:=k) (cs:=cs) (rest:=Region.linearise.go md ops fuel (r /(Region.ready md ops listed).length) (listed.setIfInBounds i true) []) hwf hV hs hr (fun s hsi=>⟨hfree i s hsi hunl,(hsl i s hsi).1⟩) hn hstep;have hlen:=hx1.len
   obtain ⟨st2,t2,A2,S2,w2,hQ,hst2,hr2,hs2,hx2⟩:=AnyD.sound hwf hV hsl hinj fuel (r /(Region.ready md ops listed).length) (listed.setIfInBounds i true) st1 hs1 hr1 (by omega) (by omega) (fun j s hj hl=>by
    by_cases hji:j=i
    ·simp_all
    ·rw [getD_set_ne true (Ne.symm hji)] at hl
     grind) hrest
   exact ⟨st2,t2,A2,S2,w2,hQ,hst.trans hst2,hr2,hs2,hx1.trans' hx2 (Nat.le_refl _)⟩
  ·rename_i hnone;have hnil:Region.ready md ops listed=[]:=by
    cases hR:Region.ready md ops listed with
    | nil=>rfl
    | cons x xs=>
     rw [hR] at hnone;have:r%(x::xs).length<(x::xs).length:=Nat.mod_lt _ (by simp)
     grind
   refine ⟨st,t,A,S,w,hend hnil,?_,hr,hs,ExtN.refl⟩;exact Steps.one' fr_regionEnd
def slots (as:List Nat) (base:Nat):Nat→Option Nat:=fun i=>(place as i).map (base+·)
def padded (as:List Nat) (st:St):St:=⟨st.regs,st.hp++List.replicate as.length .gone⟩
theorem Sim.pad {L:List Ob} (hs:Sim G A S L w) (k:Nat):Sim G A S (L++List.replicate k .gone) w:=by
 have old:∀{b:Nat} {o:Ob},(L++List.replicate k .gone)[b]? =some o→L[b]? =some o∨o= .gone:=by
  intro b o h
  rcases Nat.lt_or_ge b L.length with hb | hb
  ·grind
  ·grind
 refine ⟨fun b o hb=> ?_,fun B hA ho=> ?_,hs.lt,fun b b' o o' B d d' hne h1 h2 h3 h4 h5 h6=> ?_,fun b B d h=> ?_,hs.gl⟩
 ·rcases old hb with h | rfl
  ·exact hs.ob b o h
  ·trivial
 ·obtain ⟨b,ob,d,h1,h2,h3⟩:=ho
  rcases old h1 with h | rfl
  ·exact hs.dis B hA ⟨b,ob,d,h,h2,h3⟩
  ·simp [mutOb] at h2
 ·rcases old h1 with h | rfl
  ·rcases old h3 with h' | rfl
   ·exact hs.inj b b' o o' B d d' hne h h2 h' h4 h5 h6
   ·simp [liveOb] at h4
  ·simp [mutOb] at h2
 ·have:=hs.dom b B d h;simp;omega
theorem Ext.pad {L:List Ob} (k:Nat):Ext A S L w A S (L++List.replicate k .gone) w where
 size:=Nat.le_refl _
 os:=rfl
 tape:=rfl
 output:=rfl
 wh _ _ h:=h
 nw _ _ h:=h
 len:=by simp
 keep _ _ _:=rfl
 shp _ c _ fr h:=⟨c,⟨fr,h⟩,rfl⟩
 up _ h:=h
 down _ h:= .inl h
 own B _ ho:=by
  obtain ⟨b,ob,d,h1,h2,h3⟩:=ho
  rcases Nat.lt_or_ge b L.length with hb | hb
  ·rw [List.getElem?_append_left hb] at h1;exact ⟨b,ob,d,h1,h2,h3⟩
  ·rw [List.getElem?_append_right hb] at h1;have:=(List.mem_replicate.1 (List.mem_of_getElem? h1)).2;subst this;simp [mutOb] at h2
theorem DrawOk.of_any (hwf:WFP T) (hV:V.Ok P G) {Q:St→Prop} {st:St} (as:List Nat)
  (hany:AnyD P T G V .any ops (slots as st.hp.length) Q ops.size (Array.replicate ops.size false) (padded as st))
  (hmix:P.follows .mixedOrders=true):DrawOk P G ops st Q:=by
 intro A S w t b k cs id hs hr;have hs1:Sim G A S (padded as st).hp {w with drawn:=w.drawn+1}:=(hs.drew).pad _;have hx0:Ext A S st.hp w A S st.hp {w with drawn:=w.drawn+1}:=Ext.drew;have hr1:RelRs A S {w with drawn:=w.drawn+1} (padded as st).regs t:=hs.relRs hx0 hr;have hx1:Ext A S st.hp {w with drawn:=w.drawn+1} A S (padded as st).hp {w with drawn:=w.drawn+1}:=Ext.pad _;have key:∀(md:Region.Mode) (r:Nat),AnyD P T G V md ops (slots as st.hp.length) Q ops.size (Array.replicate ops.size false) (padded as st)→
   ∃st' t' A' S' w',Q st'∧Steps P (lone (Fr b t (.inRegion ops (Region.linearise md ops r)::k)) cs {w with drawn:=w.drawn+1}) (lone (Fr b t' k) cs w')∧RelRs A' S' w' st'.regs t'∧Sim G A' S' st'.hp w'∧Ext A S st.hp w A' S' st'.hp w':=by
  intro md r h
  obtain ⟨st2,t2,A2,S2,w2,hQ,hst,hr2,hs2,hx2⟩:=AnyD.sound (b:=b) (k:=k) (cs:=cs) (n:=st.hp.length) (m:=st.hp.length+as.length) hwf hV (fun i s hi=>by
    simp only [slots,Option.map_eq_some_iff] at hi;obtain ⟨q,hq,rfl⟩:=hi;have:=place_lt hq;omega) (fun i j s hi hj=>by
    simp only [slots,Option.map_eq_some_iff] at hi hj;obtain ⟨q,hq,rfl⟩:=hi;obtain ⟨q',hq',e⟩:=hj;have:q'=q:=by omega
    subst this;exact place_inj hq hq') ops.size r _ _ hs1 hr1 (by simp [padded]) (by simp [padded]) (fun i s hi _=>by
    simp only [slots,Option.map_eq_some_iff] at hi;obtain ⟨q,hq,rfl⟩:=hi;cases hS:S (st.hp.length+q) with
    | none=>rfl
    | some p=>
     have:=hs.dom _ p.1 p.2 hS
     omega) h
  exact ⟨st2,t2,A2,S2,w2,hQ,hst,hr2,hs2,hx0.trans' (hx1.trans' hx2 (Nat.le_refl _)) (Nat.le_refl _)⟩
 have hsched:∃(md:Region.Mode) (r:Nat),Region.schedule (P.follows .mixedOrders) ops (w.tape w.drawn (.order b.fn id))=Region.linearise md ops r∧
   AnyD P T G V md ops (slots as st.hp.length) Q ops.size (Array.replicate ops.size false) (padded as st):=by
  unfold Region.schedule;rw [hmix];exact ⟨.any,w.tape w.drawn (.order b.fn id),by simp,hany⟩
 obtain ⟨md,r,e,h⟩:=hsched;obtain ⟨st2,t2,A2,S2,w2,hQ,hst,hrest⟩:=key md r h;refine ⟨st2,t2,A2,S2,w2,hQ,.head fr_draw ?_,hrest⟩
 simp_all
end
end Go.Sx
namespace Go.Sx
inductive Kind where
 | mute
 | read
 | call
 | alloc
 | other
 deriving DecidableEq
def kindOp (T:Tab):Op→Kind
 | .move _=> .mute
 | .assign _=> .mute
 | .pick _ _ _=> .mute
 | .build _ _=> .mute
 | .nilCheck _=> .mute
 | .binOp _ _ _ _ _=> .mute
 | .unOp _ _ _=> .mute
 | .makeInterface _ _=> .mute
 | .fieldAddr _ _ _=> .mute
 | .field _ _ _=> .mute
 | .indexAddr _ _ _=> .mute
 | .index _ _ _=> .mute
 | .extract _ _=> .mute
 | .load _ _=> .read
 | .slice _ _ _ _ _=> .read
 | .convert _ d _=>match T.und d with
  | some (.int _)=> .read
  | some .string=> .read
  | _=> .other
 | .call {callee:= .builtin .len,..}=> .read
 | .call {callee:= .builtin .min,..}=> .mute
 | .call {callee:= .builtin .max,..}=> .mute
 | .call {callee:= .value _,..}=> .call
 | _=> .other
def Like (x y:Ob):Prop:=x=y∨∃cs f f',x= .cells cs f∧y= .cells cs f'
def Up (hp hp2:List Ob):Prop:=∀(b:Nat) x,hp[b]? =some x→x≠.gone→∃y,hp2[b]? =some y∧Like x y
theorem Up.refl (hp:List Ob):Up hp hp:=fun b x h _=>⟨x,h,.inl rfl⟩
theorem Up.cells {hp hp2:List Ob} (h:Up hp hp2) {b:Nat} {cs:List LV} {f:Bool} (hb:hp[b]? =some (.cells cs f)):∃f',hp2[b]? =some (.cells cs f'):=by
 obtain ⟨y,h1,h2⟩:=h b _ hb (by simp)
 rcases h2 with rfl | ⟨cs',g,g',e,rfl⟩
 all_goals simp_all
theorem Up.tc {hp hp2:List Ob} (h:Up hp hp2) {b:Nat} {t:TypeId} {cs:List LV} {f:Bool} (hb:hp[b]? =some (.tc t cs f)):hp2[b]? =some (.tc t cs f):=by
 obtain ⟨y,h1,h2⟩:=h b _ hb (by simp)
 rcases h2 with rfl | ⟨cs',g,g',e,rfl⟩
 all_goals simp_all
theorem Up.map {hp hp2:List Ob} (h:Up hp hp2) {b:Nat} {es:List (Value×RW)} (hb:hp[b]? =some (.map es)):hp2[b]? =some (.map es):=by
 obtain ⟨y,h1,h2⟩:=h b _ hb (by simp)
 rcases h2 with rfl | ⟨cs',g,g',e,rfl⟩
 all_goals simp_all
theorem fzOb_like (o:Ob):Like o (fzOb o)∧Like (fzOb o) o:=by
 cases o with
 | cells cs f=>exact ⟨.inr ⟨cs,f,true,rfl,rfl⟩,.inr ⟨cs,true,f,rfl,rfl⟩⟩
 | _=>exact ⟨.inl rfl,.inl rfl⟩
theorem Up.freeze (ts:List Nat) (hp:List Ob):Up hp (fzObs ts hp):=by
 intro b x hb hx;have hlt:=(List.getElem?_eq_some_iff.1 hb).1;have:b<(fzObs ts hp).length:=by rw [fzObs_length];exact hlt
 obtain ⟨o0,h1,h2⟩:=fzObs_get ts hp b _ (List.getElem?_eq_getElem this);rw [hb] at h1;simp at h1;subst h1;refine ⟨_,List.getElem?_eq_getElem this,?_⟩
 rcases h2 with ⟨e,_⟩ | ⟨e,_⟩
 ·rw [e];exact .inl rfl
 ·rw [e];exact (fzOb_like x).1
section
variable {P:Program} {T:Tab} {G:Globs} {ρ:Operand→RV}
theorem mapSnd_inv {x:Option RV} {hp:List Ob} {r:RV} {hp':List Ob} (h:(match x with | some r=>some (r,hp) | none=>none)=some (r,hp')):hp'=hp∧∀hp2:List Ob,(match (generalizing:=false) x with | some r=>some (r,hp2) | none=>none)=some (r,hp2):=by
 cases x with
 | none=>simp at h
 | some y=>simp_all
theorem partA_inv {t:TypeId} {cs:List LV} {o:Nat} {hp hp':List Ob} {r:RV} (h:partA T t cs o hp=some (r,hp')):hp'=hp∧∀hp2,partA T t cs o hp2=some (r,hp2):=by
 unfold partA at*
 repeat' split at h
 all_goals simp_all
theorem refEq_inv {op:BinOp} {t:TypeId} {a b:RV} {hp hp':List Ob} {r:RV} (h:refEq T op t a b hp=some (r,hp')):hp'=hp∧∀hp2,refEq T op t a b hp2=some (r,hp2):=by
 unfold refEq at*
 repeat' split at h
 all_goals simp_all
theorem binA_inv {op:BinOp} {t:TypeId} {x y:Operand} {a b:RV} {hp hp':List Ob} {r:RV} (h:binA P T op t x y a b hp=some (r,hp')):hp'=hp∧∀hp2,binA P T op t x y a b hp2=some (r,hp2):=by
 unfold binA at h ⊢
 cases hu:toVal a with
 | some u=>
  cases hv:toVal b with
  | some v=>
   grind
  | none=>
   simp only [hu,hv] at h ⊢
   split at h
   ·grind
   ·rename_i hn;simp only [hn,if_false];exact refEq_inv h
 | none=>
  simp only [hu] at h ⊢
  split at h
  ·grind
  ·rename_i hn;simp only [hn,if_false];exact refEq_inv h
theorem indexA_inv {t:TypeId} {a b:RV} {hp hp':List Ob} {r:RV} (h:indexA P T t a b hp=some (r,hp')):hp'=hp∧∀hp2,indexA P T t a b hp2=some (r,hp2):=by
 unfold indexA at h ⊢
 have rest:∀{hp hp':List Ob},(match (generalizing:=false) T.und t,a,intR b with
   | some (.array n e),.v (.agg cs),some i=>match szOf T e with
    | some s=>if 0≤i∧i<n then partA T e cs (i.toNat*s) hp else none
    | none=>none
   | _,_,_=>none)=some (r,hp')→hp'=hp∧∀hp2,(match (generalizing:=false) T.und t,a,intR b with
   | some (.array n e),.v (.agg cs),some i=>match szOf T e with
    | some s=>if 0≤i∧i<n then partA T e cs (i.toNat*s) hp2 else none
    | none=>none
   | _,_,_=>none)=some (r,hp2):=by
  intro hp hp' h;split at h
  ·split at h
   ·split at h
    ·rename_i hi;simp only [hi,and_self,if_true];exact partA_inv h
    ·simp at h
   ·simp at h
  ·simp at h
 cases hu:toVal a with
 | some u=>
  cases hv:toVal b with
  | some v=>
   grind
  | none=>
   simp only [hu,hv] at h ⊢
   exact rest h
 | none=>
  simp only [hu] at h ⊢
  exact rest h
theorem indexQ_inv {t:TypeId} {a b:RV} {hp hp':List Ob} {r:RV} (h:indexQ P T t a b hp=some (r,hp')):hp'=hp∧∀hp2,indexQ P T t a b hp2=some (r,hp2):=by
 unfold indexQ at h ⊢
 split at h
 ·split at h
  ·split at h
   all_goals simp_all
  ·simp at h
 ·exact indexA_inv h
theorem mute_inv {o:Oper} (hk:kindOp T o.op= .mute) {hp hp':List Ob} {r:RV} (h:opA P T G ρ o hp=some (r,hp')):hp'=hp∧∀hp2,opA P T G ρ o hp2=some (r,hp2):=by
 obtain ⟨dst,op,type,pos,after,guard⟩:=o;cases op with
 | move x=>simp [opA] at h ⊢;simp_all
 | assign x=>simp [opA] at h ⊢;simp_all
 | pick c a b=>
  simp only [opA] at h ⊢
  split at h
  all_goals simp_all
 | build t parts=>
  simp only [opA,buildA] at h ⊢
  repeat' split at h
  all_goals simp_all
 | nilCheck x=>
  simp only [opA,nilCheckA] at h ⊢
  repeat' split at h
  all_goals simp_all
 | binOp op t x y yt=>exact binA_inv h
 | unOp op t x=>
  simp only [opA] at h ⊢
  split at h
  ·exact mapSnd_inv h
  ·simp at h
 | makeInterface t x=>
  simp only [opA,ifaceA] at h ⊢
  repeat' split at h
  all_goals simp_all
 | fieldAddr s x f=>
  simp only [opA,fieldAddrA] at h ⊢
  repeat' split at h
  all_goals simp_all
 | field t x f=>
  simp only [opA,fieldA] at h ⊢
  split at h
  ·split at h
   ·exact partA_inv h
   ·simp at h
  ·simp at h
 | indexAddr t x ix=>
  simp only [opA,indexAddrA] at h ⊢
  repeat' split at h
  all_goals simp_all
 | index t x ix=>exact indexQ_inv h
 | extract t i=>
  simp only [opA] at h ⊢
  repeat' split at h
  all_goals simp_all
 | call c=>
  obtain ⟨callee,args,ats⟩:=c;cases callee with
  | builtin b=>
   cases b with
   | min=>
    simp only [opA,builtinA] at h ⊢
    split at h
    ·simp only [Option.map_eq_some_iff] at h ⊢
     grind
    ·simp at h
   | max=>
    simp only [opA,builtinA] at h ⊢
    split at h
    ·simp only [Option.map_eq_some_iff] at h ⊢
     grind
    ·simp at h
   | _=>simp [kindOp] at hk
  | _=>simp [kindOp] at hk
 | convert s d x=>
  simp only [kindOp] at hk
  grind
 | _=>simp [kindOp] at hk
end
end Go.Sx
