/- A part of the proof of MeaningEmpty. -/
import Derived.Laws.Cells
import Derived.Laws.Sem
import Derived.Laws.Tables
import Derived.Laws.World
import Derived.Test.YtgnjilecndiffaaGreatDoorP0
set_option linter.all false
set_option maxRecDepth 1000000
set_option maxHeartbeats 0
namespace Go.Sx
section
variable {P:Program} {T:Tab} [TOk P T] {G:Globs} {A:Nat→Prop} {S:Where} {L:List Ob} {w:World}
def ValOk (P:Program) (G:Globs) (A:Nat→Prop) (S:Where) (L:List Ob) (w:World) (s:Sem Value) (r:RV) (L':List Ob):Prop:=
 ∃v w' A' S',s.run P w= .ok v w'∧RelR A' S' w' r v∧Sim G A' S' L' w'∧Ext A S L w A' S' L' w'
theorem ValOk.still (hs:Sim G A S L w) {s:Sem Value} {r:RV} {v:Value} (h:s.run P w= .ok v w) (hr:RelR A S w r v):ValOk P G A S L w s r L:=
 ⟨v,w,A,S,h,hr,hs,Ext.refl⟩
theorem run_und {t:TypeId} {d:TypeDesc} (h:T.und t=some d):(underlying t).run P w= .ok d w:=by simp [underlying,TOk.und (P:=P) t d h]
theorem run_info {t:TypeId} {i:TypeInfo} (h:T.info t=some i):(typeInfo t).run P w= .ok i w:=by simp [typeInfo,TOk.info (P:=P) t i h]
theorem run_sz {t:TypeId} {n:Nat} (h:szOf T t=some n):(sizeOf t).run P w= .ok n w:=by
 unfold szOf at h;cases hi:T.info t with
 | none=>simp [hi] at h
 | some i=>simp [hi] at h;subst h;simp [Go.sizeOf,run_info hi]
theorem run_isAgg {t:TypeId} {g:Bool} (h:isAggB T t=some g):(isAgg t).run P w= .ok g w:=by
 unfold isAggB at h;cases hd:T.und t with
 | none=>simp [hd] at h
 | some d=>cases d<;>simp [hd] at h<;>subst h<;>simp [isAgg,run_und hd]
theorem RelL.nil:RelL A S w [] []:=⟨rfl,fun i x h=>by simp at h⟩
theorem RelL.cons {x:LV} {v:Value} {xs:List LV} {vs:List Value} (h:Rel A S w x v) (hs:RelL A S w xs vs):RelL A S w (x::xs) (v::vs):=by
 refine ⟨by simp [hs.1],fun i y hi=> ?_⟩;cases i with
 | zero=>simp_all
 | succ i=>simp at hi;obtain ⟨u,h1,h2⟩:=hs.2 i y hi;simp_all
theorem RelL.uncons {x:LV} {xs:List LV} {vs:List Value} (h:RelL A S w (x::xs) vs):∃v vs',vs=v::vs'∧Rel A S w x v∧RelL A S w xs vs':=by
 obtain ⟨hl,hc⟩:=h;cases vs with
 | nil=>simp at hl
 | cons v vs=>
  obtain ⟨u,h1,h2⟩:=hc 0 x rfl;simp at h1;subst h1;exact ⟨v,vs,rfl,h2,by simpa using hl,fun i y hi=>by obtain ⟨u,h1,h2⟩:=hc (i+1) y (by simpa using hi);simp_all⟩
theorem RelL.nil_inv {vs:List Value} (h:RelL A S w [] vs):vs=[]:=by
 have:=h.1;simp_all
theorem atomL_rel {x:LV} {u v:Value} (h:atomL x=some u) (hr:Rel A S w x v):v=u:=by
 cases x with
 | p y=>
  cases y with
  | vl a=>simp [atomL] at h;subst h;cases hr;rfl
  | sl n cs=>simp [atomL] at h
 | _=>simp [atomL] at h
theorem atomsL_rel:∀{xs:List LV} {us vs:List Value},atomsL xs=some us→RelL A S w xs vs→vs=us
 | [],us,vs,h,hr=>by simp [atomsL] at h;subst h;exact hr.nil_inv
 | x::xs,us,vs,h,hr=>by
  obtain ⟨v,vs',rfl,h1,h2⟩:=hr.uncons;cases ha:atomL x with
  | none=>simp [atomsL,ha] at h
  | some a=>
   cases hb:atomsL xs with
   | none=>simp [atomsL,ha,hb] at h
   | some b=>
    simp [atomsL,ha,hb] at h;subst h;rw [atomL_rel ha h1,atomsL_rel hb h2]
theorem toVal_rel {r:RV} {u v:Value} (h:toVal r=some u) (hr:RelR A S w r v):v=u:=by
 cases r with
 | v x=>
  cases x with
  | one x=>exact atomL_rel h hr
  | agg xs=>
   obtain ⟨vs,rfl,hl⟩:=hr;simp only [toVal] at h;cases ha:atomsL xs with
   | none=>simp [ha] at h
   | some us=>
    simp [ha] at h;subst h;have:=atomsL_rel ha hl;rw [← this]
 | tup xs=>simp [toVal] at h
theorem relL_atoms:∀{vs:List Value},allSingle vs=true→RelL A S w (vs.map fun v=> .p (.vl v)) vs
 | [],_=>RelL.nil
 | v::vs,h=>by
  simp only [allSingle,Bool.and_eq_true] at h;exact RelL.cons (.vl v h.1) (relL_atoms h.2)
theorem ofVal_rel {v:Value} {r:RV} (h:ofVal v=some r):RelR A S w r v:=by
 unfold ofVal at h;split at h
 ·rename_i cs;split at h
  ·rename_i hs;simp at h;subst h;exact ⟨cs,rfl,relL_atoms hs⟩
  ·simp at h
 ·rename_i vs;split at h
  ·rename_i hs;simp at h;subst h;refine ⟨vs,rfl,by simp,fun i x hi=> ?_⟩;have hr:=relL_atoms (A:=A) (S:=S) (w:=w) hs;simp only [List.getElem?_map,Option.map_eq_some_iff] at hi;obtain ⟨u,hu,rfl⟩:=hi;obtain ⟨u',h1,h2⟩:=hr.2 i (.p (.vl u)) (by simp [hu]);exact ⟨u',by simpa using h1,h2⟩
  ·simp at h
 ·rename_i h1 h2;simp at h;subst h;refine EncP.vl v ?_;cases v<;>first | rfl | simp_all | simp_all
theorem pureR_ok (hs:Sim G A S L w) {s:Sem Value} {r:RV} (h:pureR P s=some r):ValOk P G A S L w s r L:=by
 unfold pureR at h;cases hp:pureOf P s with
 | none=>simp [hp] at h
 | some v=>simp [hp] at h;exact ValOk.still hs (pureOf_run hp w) (ofVal_rel h)
theorem addr_add (B o k:Nat):Addr.add ⟨B,o,none⟩ k=⟨B,o+k,none⟩:=by
 unfold Addr.add;simp_all
theorem part_some {α:Type} {l r:List α} {o n:Nat} (h:part l o n=some r):r.length=n∧∀i,i<n→l[o+i]? =r[i]? :=by
 unfold part at h
 grind
theorem part_get {α:Type} {l r:List α} {o n:Nat} (h:part l o n=some r) {i:Nat} {x:α} (hi:r[i]? =some x):l[o+i]? =some x:=by
 obtain ⟨h1,h2⟩:=part_some h
 grind
theorem list_of {α β:Type} (r:List α) (Q:α→Nat→β→Prop) (h:∀(i:Nat) x,r[i]? =some x→∃v,Q x i v):
  ∃vs:List β,vs.length=r.length∧∀(i:Nat) x,r[i]? =some x→∃v,vs[i]? =some v∧Q x i v:=by
 induction r generalizing Q with
 | nil=>simp_all
 | cons a r ih=>
  obtain ⟨v,hv⟩:=h 0 a rfl;obtain ⟨vs,hl,hc⟩:=ih (fun x i v=>Q x (i+1) v) (fun i x hi=>h (i+1) x (by simpa using hi));refine ⟨v::vs,by simp [hl],fun i x hi=> ?_⟩
  grind
theorem cell_of_heap {c:Array Value} {e:TypeId} {fr:Nat×Nat} {B i:Nat} {v:Value} (h:w.heap[B]? =some (.cells c e fr)) (hc:c[i]? =some v):w.cell? ⟨B,i,none⟩=some v:=by
 simp [World.cell?,h,hc]
theorem readC_ok (hs:Sim G A S L w) {a:LV} {n:Nat} {cs:List LV} {v:Value} (h:readC G L a n=some cs) (hr:Rel A S w a v):
  ∃B o vs,v= .pointer (some ⟨B,o,none⟩)∧cs.length=n∧RelL A S w cs vs∧∀(j:Nat) u,vs[j]? =some u→w.cell? ⟨B,o+j,none⟩=some u:=by
 cases a with
 | ref b o=>
  obtain ⟨B,d,hb,rfl⟩:=hr;simp only [readC] at h;cases hl:L[b]? with
  | none=>simp [hl] at h
  | some ob=>
   cases ob with
   | cells l fz=>
    simp only [hl] at h;obtain ⟨B',d',c,e,fr,h1,h2,_,_,_,h6⟩:=hs.ob b _ hl;rw [hb] at h1;simp only [Option.some.injEq,Prod.mk.injEq] at h1;obtain ⟨rfl,rfl⟩:=h1;obtain ⟨vs,hvl,hv⟩:=list_of cs (fun x i v=>c[d+(o+i)]? =some v∧Rel A S w x v) fun i x hi=>h6 (o+i) x (part_get h hi);refine ⟨B,d+o,vs,rfl,(part_some h).1,⟨hvl,fun i x hi=>let ⟨u,q1,q2⟩:=hv i x hi;⟨u,q1,q2.2⟩⟩,fun j u hj=> ?_⟩;have hlt:j<cs.length:=by have:=(List.getElem?_eq_some_iff.1 hj).1;omega
    obtain ⟨u',q1,q2,_⟩:=hv j cs[j] (List.getElem?_eq_getElem hlt);rw [hj] at q1;simp at q1;subst q1;exact cell_of_heap h2 (by grind)
   | tc t l buf=>
    simp only [hl] at h;obtain ⟨B',c,fr,h1,h2,_,_,_,h6⟩:=hs.ob b _ hl;rw [hb] at h1;simp only [Option.some.injEq,Prod.mk.injEq] at h1;obtain ⟨rfl,rfl⟩:=h1;obtain ⟨vs,hvl,hv⟩:=list_of cs (fun x i v=>c[o+i]? =some v∧Rel A S w x v) fun i x hi=>h6 (o+i) x (part_get h hi);refine ⟨B,0+o,vs,rfl,(part_some h).1,⟨hvl,fun i x hi=>let ⟨u,q1,q2⟩:=hv i x hi;⟨u,q1,q2.2⟩⟩,fun j u hj=> ?_⟩;have hlt:j<cs.length:=by have:=(List.getElem?_eq_some_iff.1 hj).1;omega
    obtain ⟨u',q1,q2,_⟩:=hv j cs[j] (List.getElem?_eq_getElem hlt);rw [hj] at q1;simp at q1;subst q1;exact cell_of_heap h2 (by simp_all)
   | _=>simp [hl] at h
 | pref l o=>
  obtain ⟨B,d,vf,rfl,hc⟩:=hr;simp only [readC] at h;cases hp:part l o n with
  | none=>simp [hp] at h
  | some r=>
   simp [hp] at h;subst h;obtain ⟨vs,hvl,hv⟩:=list_of r (fun x i v=>w.cell? ⟨B,d+(o+i),none⟩=some v∧EncP A w x v) fun i x hi=>
    ⟨_,(hc (o+i) x (part_get hp hi)).2⟩
   refine ⟨B,d+o,vs,rfl,by simp [(part_some hp).1],⟨by simp [hvl],fun i x hi=> ?_⟩,fun j u hj=> ?_⟩
   ·simp only [List.getElem?_map,Option.map_eq_some_iff] at hi;obtain ⟨y,hy,rfl⟩:=hi;obtain ⟨u,q1,q2⟩:=hv i y hy;exact ⟨u,q1,q2.2⟩
   ·have hlt:j<r.length:=by have:=(List.getElem?_eq_some_iff.1 hj).1;omega
    obtain ⟨u',q1,q2,_⟩:=hv j r[j] (List.getElem?_eq_getElem hlt)
    grind
 | p x=>
  cases x with
  | sl n cs=>simp [readC] at h
  | vl u=>
   cases hr with
   | vl _ hsg=>
   unfold readC at h;split at h
   ·simp_all
   ·simp_all
   ·rename_i g o heq;cases heq;cases hg:G g with
    | none=>simp [hg] at h
    | some gs=>
     simp only [hg] at h;cases hp:part gs o n with
     | none=>simp [hp] at h
     | some r=>
      simp [hp] at h;subst h;obtain ⟨hAg,hgl⟩:=hs.gl g gs hg;refine ⟨g,o,r,rfl,by simp [(part_some hp).1],⟨by simp,fun i x hi=> ?_⟩,fun j u hj=> ?_⟩
      ·simp only [List.getElem?_map,Option.map_eq_some_iff] at hi;obtain ⟨y,hy,rfl⟩:=hi;exact ⟨y,hy,.vl y (hgl (o+i) y (part_get hp hy)).2⟩
      ·exact (hgl (o+j) u (part_get hp hj)).1
   ·simp at h
 | _=>simp [readC] at h
theorem run_loadCells_at {B o n:Nat} {vs:List Value} (hl:vs.length=n) (h:∀(j:Nat) u,vs[j]? =some u→w.cell? ⟨B,o+j,none⟩=some u):
  (loadCells ⟨B,o,none⟩ n).run P w= .ok vs.toArray w:=by
 have:=run_loadCells_list (P:=P) (w:=w) ⟨B,o,none⟩ vs (fun j v hj=>by rw [addr_add];exact h j v hj)
 simp_all
theorem ofCells_rel {g:Bool} {cs:List LV} {vs:List Value} {r:RV} (h:ofCells g cs=some r) (hr:RelL A S w cs vs):
  (g=true∧RelR A S w r (.agg vs.toArray))∨(g=false∧∃v,vs=[v]∧RelR A S w r v):=by
 cases g with
 | true=>simp [ofCells] at h;subst h;exact .inl ⟨rfl,_,rfl,by simpa using hr⟩
 | false=>
  match cs,h with
  | [x],h=>
   simp [ofCells] at h;subst h;obtain ⟨v,vs',rfl,h1,h2⟩:=hr.uncons;have:=h2.nil_inv;subst this;exact .inr ⟨rfl,v,rfl,h1⟩
  | [],h=>simp [ofCells] at h
  | _::_::_,h=>simp [ofCells] at h
theorem loadA_val (hs:Sim G A S L w) {t:TypeId} {a r:RV} {va:Value} {L':List Ob} (h:loadA T G t a L=some (r,L')) (ha:RelR A S w a va):
  L'=L∧∃ad v,va= .pointer (some ad)∧(loadVar t ad).run P w= .ok v w∧RelR A S w r v:=by
 unfold loadA at h;split at h
 ·rename_i x n g h1 h2 h3;split at h
  ·rename_i hgn;split at h
   ·rename_i cs hc;split at h
    ·rename_i r' hr';simp at h;obtain ⟨rfl,rfl⟩:=h;refine ⟨rfl,?_⟩;cases a with
     | tup _=>simp [oneR] at h1
     | v y=>
      cases y with
      | agg _=>simp [oneR] at h1
      | one y=>
       simp [oneR] at h1;subst h1;obtain ⟨B,o,vs,rfl,hn,hrl,hcell⟩:=readC_ok hs hc ha
       rcases ofCells_rel hr' hrl with ⟨rfl,hrr⟩ | ⟨rfl,v,rfl,hrr⟩
       ·refine ⟨_,_,rfl,?_,hrr⟩;simp [loadVar,run_isAgg h3,run_sz h2,run_loadCells_at (P:=P) (hrl.1.trans hn) hcell]
       ·refine ⟨_,_,rfl,?_,hrr⟩;have:=hcell 0 v rfl;simp at this;simp [loadVar,run_isAgg h3,this]
    ·simp at h
   ·simp at h
  ·simp at h
 ·simp at h
theorem loadA_ok (hs:Sim G A S L w) {t:TypeId} {a r:RV} {va:Value} {L':List Ob} (h:loadA T G t a L=some (r,L')) (ha:RelR A S w a va):
  ValOk P G A S L w (Instr.loadAt t va) r L':=by
 obtain ⟨rfl,ad,v,rfl,h1,h2⟩:=loadA_val (P:=P) hs h ha;exact ValOk.still hs (by simp [Instr.loadAt,Instr.sureAddr,h1]) h2
end
end Go.Sx
namespace Go.Sx
section
variable {P:Program} {T:Tab} [TOk P T] {G:Globs} {A:Nat→Prop} {S:Where} {L:List Ob} {w:World}
theorem cellsR_rel {r:RV} {cs:List LV} {v:Value} (h:cellsR r=some cs) (hr:RelR A S w r v):RelL A S w cs v.cells.toList:=by
 cases r with
 | tup _=>simp [cellsR] at h
 | v x=>
  cases x with
  | one x=>
   simp [cellsR] at h;subst h;have hsg:=Rel.single hr;have:v.cells=#[v]:=by cases v<;>first | rfl | (simp [single] at hsg)
   rw [this];exact RelL.cons hr RelL.nil
  | agg xs=>
   simp [cellsR] at h;subst h;obtain ⟨vs,rfl,hl⟩:=hr
   simpa [Value.cells] using hl
theorem ObRel.new (hs:Sim G A S L w) {cs:List LV} {c:Array Value} {e:TypeId} (hl:cs.length≤c.size)
  (hc:∀(i:Nat) x,cs[i]? =some x→∃v,c[i]? =some v∧Rel A S w x v):
  ObRel A (S.put L.length (w.heap.size,0)) (pushW w (.cells c e)) L.length (.cells cs false):=by
 refine ⟨w.heap.size,0,c,e,(0,0),Where.put_same _ _ _,pushW_new w _,by simpa using hl,fun i _ h=>by simp at h,fun h=>by simp at h,fun i x hi=> ?_⟩;obtain ⟨v,h1,h2⟩:=hc i x hi;exact ⟨v,by simpa using h1,hs.rel (Ext.push hs (.cells cs false) (.cells c e) 0) h2⟩
theorem newRow_ok (hs:Sim G A S L w) {cs:List LV} {vs:Array Value} (e:TypeId) (hr:RelL A S w cs vs.toList):
  ∃S',(newRow e vs).run P w= .ok ⟨w.heap.size,0,none⟩ (pushW w (.cells vs e))∧S' L.length=some (w.heap.size,0)∧
   Sim G A S' (L++[.cells cs false]) (pushW w (.cells vs e))∧Ext A S L w A S' (L++[.cells cs false]) (pushW w (.cells vs e)):=by
 refine ⟨S.put L.length (w.heap.size,0),by rfl,Where.put_same _ _ _,hs.push _ _ 0 ?_,Ext.push hs _ _ 0⟩;refine ObRel.new hs (by have:=hr.1;simp_all) fun i x hi=> ?_;obtain ⟨v,h1,h2⟩:=hr.2 i x hi
 simp_all
theorem newRowT_ok (hs:Sim G A S L w) {cs:List LV} {vs:Array Value} (e:TypeId) (hr:RelL A S w cs vs.toList):
  ∃S',(newRow e vs).run P w= .ok ⟨w.heap.size,0,none⟩ (pushW w (.cells vs e))∧S' L.length=some (w.heap.size,0)∧
   Sim G A S' (L++[.tc e cs false]) (pushW w (.cells vs e))∧Ext A S L w A S' (L++[.tc e cs false]) (pushW w (.cells vs e)):=by
 refine ⟨S.put L.length (w.heap.size,0),by rfl,Where.put_same _ _ _,hs.push _ _ 0 ?_,Ext.push hs _ _ 0⟩;have hl:=hr.1;refine ⟨w.heap.size,vs,(0,0),Where.put_same _ _ _,pushW_new w _,by simp_all,fun _=>⟨by simpa using hl,fun i _ h=>by simp at h⟩,Nat.zero_le _,fun i x hi=> ?_⟩;obtain ⟨v,h1,h2⟩:=hr.2 i x hi;exact ⟨v,by simpa using h1,hs.rel (Ext.push hs (.tc e cs false) (.cells vs e) 0) h2⟩
theorem zeroOf_some {t:TypeId} {cs:List LV} (h:zeroOf T t=some cs):∃v,(∀w:World,(zeroValue t).run P w= .ok v w)∧allSingle v.cells.toList=true∧cs=v.cells.toList.map fun v=> .p (.vl v):=by
 unfold zeroOf at h;split at h
 ·rename_i i hi;split at h
  ·rename_i v hv;split at h
   ·rename_i hsg;simp at h;subst h;exact ⟨v,fun w=>by simp [zeroValue,run_info hi,hv],hsg,rfl⟩
   ·simp at h
  ·simp at h
 ·simp at h
theorem zeroOf_rel {t:TypeId} {cs:List LV} (h:zeroOf T t=some cs):∃v,(∀w:World,(zeroValue t).run P w= .ok v w)∧∀{A S w},RelL A S w cs v.cells.toList:=by
 obtain ⟨v,h1,h2,rfl⟩:=zeroOf_some (P:=P) h;exact ⟨v,h1,relL_atoms h2⟩
theorem allocA_ok (hs:Sim G A S L w) {t:TypeId} {r:RV} {L':List Ob} (h:allocA T t L=some (r,L')):
  ValOk P G A S L w (Instr.alloc t true (.tuple #[])) r L':=by
 unfold allocA at h;split at h
 ·rename_i cs hz;simp at h;obtain ⟨rfl,rfl⟩:=h;obtain ⟨v,hv,hr⟩:=zeroOf_rel (P:=P) hz;obtain ⟨S',h1,h2,h3,h4⟩:=newRow_ok (P:=P) hs t (hr (A:=A) (S:=S) (w:=w));refine ⟨_,_,A,S',by simp [Instr.alloc,hv,newVar,h1],⟨_,_,h2,rfl⟩,h3,h4⟩
 ·simp at h
theorem boxA_ok (hs:Sim G A S L w) {t:TypeId} {x r:RV} {v:Value} {L':List Ob} (h:boxA x L=some (r,L')) (hx:RelR A S w x v):
  ValOk P G A S L w (Instr.box t v) r L':=by
 unfold boxA at h;split at h
 ·rename_i cs hc;simp at h;obtain ⟨rfl,rfl⟩:=h;obtain ⟨S',h1,h2,h3,h4⟩:=newRow_ok (P:=P) hs t (cellsR_rel hc hx);refine ⟨_,_,A,S',by rfl,⟨_,_,h2,rfl⟩,h3,h4⟩
 ·simp at h
theorem allocT_ok (hs:Sim G A S L w) {t:TypeId} {r:RV} {L':List Ob} (h:allocT T t L=some (r,L')):
  ValOk P G A S L w (Instr.alloc t true (.tuple #[])) r L':=by
 unfold allocT at h;split at h
 ·rename_i cs hz;simp at h;obtain ⟨rfl,rfl⟩:=h;obtain ⟨v,hv,hr⟩:=zeroOf_rel (P:=P) hz;obtain ⟨S',h1,h2,h3,h4⟩:=newRowT_ok (P:=P) hs t (hr (A:=A) (S:=S) (w:=w));refine ⟨_,_,A,S',by simp [Instr.alloc,hv,newVar,h1],⟨_,_,h2,rfl⟩,h3,h4⟩
 ·simp at h
theorem boxT_ok (hs:Sim G A S L w) {t:TypeId} {x r:RV} {v:Value} {L':List Ob} (h:boxT t x L=some (r,L')) (hx:RelR A S w x v):
  ValOk P G A S L w (Instr.box t v) r L':=by
 unfold boxT at h;split at h
 ·rename_i cs hc;simp at h;obtain ⟨rfl,rfl⟩:=h;obtain ⟨S',h1,h2,h3,h4⟩:=newRowT_ok (P:=P) hs t (cellsR_rel hc hx);refine ⟨_,_,A,S',by rfl,⟨_,_,h2,rfl⟩,h3,h4⟩
 ·simp at h
theorem one_of_single {v:Value} (h:single v=true):v.oneCell'=true:=by cases v<;>first | rfl | (simp [single] at h)
theorem setCell_put {c:Array Value} {e:TypeId} {fr:Nat×Nat} {B i:Nat} {v:Value} (h:w.heap[B]? =some (.cells c e fr)):
  w.setCell ⟨B,i,none⟩ v=putW w B (.cells (c.setIfInBounds i v) e fr):=by
 have hlt:=not_lt_heap h;simp only [World.setCell,putW]
 congr 1
 grind
theorem putW_id {o:Obj} {B:Nat} (h:w.heap[B]? =some o):putW w B o=w:=by
 have hlt:=not_lt_heap h;simp only [putW]
 congr 1
 grind
theorem storeCells_run2 {B:Nat} {e:TypeId} {fr:Nat×Nat}:∀(vs:List Value) (o i:Nat) (c:Array Value) (w:World),w.heap[B]? =some (.cells c e fr)→o+i+vs.length≤c.size→
  (∀k,o+i≤k→k<c.size→¬(fr.1≤k∧k<fr.2))→(∀v∈vs,single v=true)→
  ∃c':Array Value,(storeCells ⟨B,o,none⟩ vs i).run P w= .ok () (putW w B (.cells c' e fr))∧c'.size=c.size∧
   ∀k,c'[k]? =if o+i≤k∧k<o+i+vs.length then vs[k - (o+i)]? else c[k]?
 | [],o,i,c,w,h,hl,hf,hv=>by
  refine ⟨c,?_,rfl,fun k=>by simp;omega⟩;have:putW w B (.cells c e fr)=w:=by
   have hlt:=not_lt_heap h;simp only [putW]
   congr 1
   apply Array.ext
   ·simp
   ·grind
  simp [storeCells,this]
 | v::vs,o,i,c,w,h,hl,hf,hv=>by
  simp only [List.length_cons] at hl;have hc:w.cell? ⟨B,o+i,none⟩=some (c[o+i]'(by omega)):=cell_of_heap h (Array.getElem?_eq_getElem (by omega));have hfr:w.frozen? ⟨B,o+i,none⟩=false:=by
   have:=hf (o+i) (Nat.le_refl _) (by omega);obtain ⟨lo,hi⟩:=fr;simp only [World.frozen?,h];simp only at this;simp only [Bool.and_eq_false_imp,decide_eq_true_eq,decide_eq_false_iff_not];intro h1 h2;exact this ⟨h1,h2⟩
  have h2:(putW w B (.cells (c.setIfInBounds (o+i) v) e fr)).heap[B]? =some (.cells (c.setIfInBounds (o+i) v) e fr):=putW_same w _ (not_lt_heap h);obtain ⟨c',h3,h4,h5⟩:=storeCells_run2 vs o (i+1) (c.setIfInBounds (o+i) v) _ h2 (by simp;omega) (fun k hk1 hk2=>hf k (by omega) (by simpa using hk2)) (fun u hu=>hv u (List.mem_cons_of_mem _ hu));refine ⟨c',?_,by simpa using h4,fun k=> ?_⟩
  ·have hst:=run_store P w ⟨B,o+i,none⟩ v .plain (one_of_single (hv v (List.mem_cons_self ..)));rw [hc] at hst;simp only [hfr,Bool.false_eq_true,if_false] at hst;simp only [storeCells,addr_add,Sem.run_bind,hst,Result.andThen_ok,setCell_put h,h3]
   congr 1
   simp [putW]
  grind
theorem storeCells_run {B:Nat} {e:TypeId} {fr:Nat×Nat} (vs:List Value) (o i:Nat) (c:Array Value) (w:World) (h:w.heap[B]? =some (.cells c e fr)) (hl:o+i+vs.length≤c.size)
  (hf:∀k,k<c.size→¬(fr.1≤k∧k<fr.2)) (hv:∀v∈vs,single v=true):
  ∃c':Array Value,(storeCells ⟨B,o,none⟩ vs i).run P w= .ok () (putW w B (.cells c' e fr))∧c'.size=c.size∧
   ∀k,c'[k]? =if o+i≤k∧k<o+i+vs.length then vs[k - (o+i)]? else c[k]? :=
 storeCells_run2 vs o i c w h hl (fun k _=>hf k) hv
theorem setPart_get {α:Type} (l vs:List α) (o k:Nat) (h:o+vs.length≤l.length):(setPart l o vs)[k]? =if o≤k∧k<o+vs.length then vs[k - o]? else l[k]? :=by
 unfold setPart
 by_cases h1:k<o
 all_goals grind
theorem setPart_length {α:Type} (l vs:List α) (o:Nat) (h:o+vs.length≤l.length):(setPart l o vs).length=l.length:=by
 unfold setPart;simp;omega
theorem RelL.singles {xs:List LV} {vs:List Value} (h:RelL A S w xs vs):∀v∈vs,single v=true:=by
 intro v hv;obtain ⟨i,hi⟩:=List.mem_iff_getElem?.1 hv;have hlt:i<xs.length:=by have:=(List.getElem?_eq_some_iff.1 hi).1;have:=h.1;omega
 obtain ⟨u,h1,h2⟩:=h.2 i xs[i] (List.getElem?_eq_getElem hlt);rw [hi] at h1;simp at h1;subst h1;exact h2.single
theorem writeC_ok (hs:Sim G A S L w) {a:LV} {va:Value} {xs:List LV} {vs:List Value} {L':List Ob} (h:writeC L a xs=some L') (ha:Rel A S w a va) (hv:RelL A S w xs vs):
  ∃B o w',va= .pointer (some ⟨B,o,none⟩)∧(storeCells ⟨B,o,none⟩ vs).run P w= .ok () w'∧Sim G A S L' w'∧Ext A S L w A S L' w':=by
 cases a with
 | ref b o=>
  obtain ⟨B,d,hb,rfl⟩:=ha;simp only [writeC] at h;split at h
  ·rename_i cs hl;split at h
   ·rename_i hle;simp at h;subst h;obtain ⟨B',d',c,e,fr,h1,h2,h3,h4,h5,h6⟩:=hs.ob b _ hl;rw [hb] at h1;simp only [Option.some.injEq,Prod.mk.injEq] at h1;obtain ⟨rfl,rfl⟩:=h1;have hlen:=hv.1;obtain ⟨c',k1,k2,k3⟩:=storeCells_run (P:=P) vs (d+o) 0 c w h2 (by omega) h4 hv.singles;have hshape:∀c1 e1 fr1,Obj.cells c e fr= .cells c1 e1 fr1→∃c2,Obj.cells c' e fr= .cells c2 e1 fr1∧c2.size=c1.size:=by
     intro c1 e1 fr1 he;cases he;exact ⟨c',rfl,k2⟩
    have hx:Ext A S L w A S (L.set b (.cells (setPart cs o xs) false)) (putW w B (.cells c' e fr)):=Ext.write hs hl rfl hb h2 hshape;refine ⟨B,d+o,_,rfl,k1,hs.write hl rfl hb h2 hshape rfl ?_,hx⟩;refine ⟨B,d,c',e,fr,hb,putW_same w _ (not_lt_heap h2),?_,by simp_all,fun hh=>by simp at hh,fun i x hi=> ?_⟩
    ·rw [setPart_length _ _ _ hle,k2];exact h3
    ·rw [setPart_get _ _ _ _ hle] at hi;rw [k3];split at hi
     ·rename_i hio;rw [if_pos (by omega)];obtain ⟨u,q1,q2⟩:=hv.2 _ _ hi;refine ⟨u,?_,hs.rel hx q2⟩
      grind
     ·rename_i hio;rw [if_neg (by omega)];obtain ⟨u,q1,q2⟩:=h6 i x hi;exact ⟨u,q1,hs.rel hx q2⟩
   ·simp at h
  ·rename_i t cs hl;split at h
   ·rename_i hle;simp at h;subst h;obtain ⟨B',c,fr,h1,h2,h3,h4,h5,h6⟩:=hs.ob b _ hl;rw [hb] at h1;simp only [Option.some.injEq,Prod.mk.injEq] at h1;obtain ⟨rfl,rfl⟩:=h1;obtain ⟨hsz,hun⟩:=h4 rfl;have hlen:=hv.1;obtain ⟨c',k1,k2,k3⟩:=storeCells_run (P:=P) vs (0+o) 0 c w h2 (by omega) hun hv.singles;have hshape:∀c1 e1 fr1,Obj.cells c t fr= .cells c1 e1 fr1→∃c2,Obj.cells c' t fr= .cells c2 e1 fr1∧c2.size=c1.size:=by
     intro c1 e1 fr1 he;cases he;exact ⟨c',rfl,k2⟩
    have hx:Ext A S L w A S (L.set b (.tc t (setPart cs o xs) false)) (putW w B (.cells c' t fr)):=Ext.write hs hl rfl hb h2 hshape;refine ⟨B,0+o,_,rfl,k1,hs.write hl rfl hb h2 hshape rfl ?_,hx⟩;refine ⟨B,c',fr,hb,putW_same w _ (not_lt_heap h2),?_,fun _=>⟨?_,by simp_all⟩,?_,fun i x hi=> ?_⟩
    ·rw [setPart_length _ _ _ hle,k2];exact h3
    ·rw [setPart_length _ _ _ hle,k2];exact hsz
    ·rw [setPart_length _ _ _ hle];exact h5
    ·rw [setPart_get _ _ _ _ hle] at hi;rw [k3];split at hi
     ·rename_i hio;rw [if_pos (by omega)];obtain ⟨u,q1,q2⟩:=hv.2 _ _ hi;refine ⟨u,?_,hs.rel hx q2⟩
      simp_all
     ·rename_i hio;rw [if_neg (by omega)];obtain ⟨u,q1,q2⟩:=h6 i x hi;exact ⟨u,q1,hs.rel hx q2⟩
   ·simp at h
  ·split at h
   ·simp at h;subst h;have:=hv.nil_inv;subst this;exact ⟨B,d+o,w,rfl,by rfl,hs,Ext.refl⟩
   ·simp at h
  ·simp at h
 | _=>simp [writeC] at h
def UnitOk (P:Program) (G:Globs) (A:Nat→Prop) (S:Where) (L:List Ob) (w:World) (s:Sem Unit) (L':List Ob):Prop:=
 ∃w' A' S',s.run P w= .ok () w'∧Sim G A' S' L' w'∧Ext A S L w A' S' L' w'
theorem storeA_ok (hs:Sim G A S L w) {t:TypeId} {a v r:RV} {va vv:Value} {L':List Ob} (h:storeA T t a v L=some (r,L')) (ha:RelR A S w a va) (hv:RelR A S w v vv):
  r=undefR∧UnitOk P G A S L w (Instr.storeAt t va vv) L':=by
 unfold storeA at h;split at h
 ·rename_i x n xs h1 h2 h3;split at h
  ·rename_i hn;split at h
   ·rename_i hp' hw;simp at h;obtain ⟨rfl,rfl⟩:=h;refine ⟨rfl,?_⟩;cases a with
    | tup _=>simp [oneR] at h1
    | v y=>
     cases y with
     | agg _=>simp [oneR] at h1
     | one y=>
      simp [oneR] at h1;subst h1;have hcs:=cellsR_rel h3 hv;obtain ⟨B,o,w',rfl,k1,k2,k3⟩:=writeC_ok (P:=P) hs hw ha hcs;refine ⟨w',A,S,?_,k2,k3⟩;have hsz:vv.cells.size=n:=by have:=hcs.1;simp at this;omega
      simp [Instr.storeAt,Instr.sureAddr,storeVar,run_sz h2,hsz,k1]
   ·simp at h
  ·simp at h
 ·simp at h
end
end Go.Sx
namespace Go.Sx
section
variable {P:Program} {T:Tab} [TOk P T] {G:Globs} {A:Nat→Prop} {S:Where} {L:List Ob} {w:World}
theorem ba_beq (a b:ByteArray):(a==b)=true↔a=b:=by
 obtain ⟨a⟩:=a;obtain ⟨b⟩:=b;have:((⟨a⟩:ByteArray)==⟨b⟩)=(a==b):=rfl
 simp_all
theorem Ext.heap {w':World} (hh:w'.heap=w.heap) (h1:w'.os=w.os) (h2:w'.tape=w.tape) (h3:w'.output=w.output):Ext A S L w A S L w' where
 size:=by simp_all
 os:=h1
 tape:=h2
 output:=h3
 wh _ _ h:=h
 nw _ _ h:=h
 len:=Nat.le_refl _
 keep B _ _:=by rw [hh]
 shp B c e fr h:=⟨c,⟨fr,by simp_all⟩,rfl⟩
 up _ h:=h
 down _ h:= .inl h
 own _ _ h:=h
theorem Sim.heap {w':World} (hs:Sim G A S L w) (hh:w'.heap=w.heap) (h1:w'.os=w.os) (h2:w'.tape=w.tape) (h3:w'.output=w.output):Sim G A S L w' where
 ob b o hb:=ObRel.ext hs (Ext.heap hh h1 h2 h3) (hs.ob b o hb) fun _ B d _=>by rw [hh]
 dis:=hs.dis
 lt B hA:=by rw [hh];exact hs.lt B hA
 inj:=hs.inj
 dom:=hs.dom
 gl g vs hg:=by
  obtain ⟨k1,k2⟩:=hs.gl g vs hg;refine ⟨k1,fun i v hi=> ?_⟩;have:=k2 i v hi;unfold World.cell? at*
  simp_all
theorem Sim.drew (hs:Sim G A S L w):Sim G A S L {w with drawn:=w.drawn+1}:=hs.heap rfl rfl rfl rfl
theorem Ext.drew:Ext A S L w A S L {w with drawn:=w.drawn+1}:=Ext.heap rfl rfl rfl rfl
theorem nilCheckA_ok {x r:RV} {v:Value} {L':List Ob} (h:nilCheckA x L=some (r,L')) (hx:RelR A S w x v):
  r=x∧L'=L∧((∃a,v= .pointer (some a))∨(∃f a b,v= .func (.func f) a b)∨∃l,v= .func (.yield l) #[] #[]):=by
 unfold nilCheckA at h;split at h
 ·simp at h;obtain ⟨rfl,rfl⟩:=h;obtain ⟨B,d,_,rfl⟩:=hx;simp_all
 ·simp at h;obtain ⟨rfl,rfl⟩:=h;obtain ⟨B,d,vs,rfl,_⟩:=hx;simp_all
 ·simp at h;obtain ⟨rfl,rfl⟩:=h;obtain ⟨ps,hv,_⟩:=hx;obtain ⟨g,a,b,e⟩:=fnVal_form ‹FuncId› ps.toArray;simp_all
 ·simp at h;obtain ⟨rfl,rfl⟩:=h;cases hx;exact ⟨rfl,rfl,.inr (.inl ⟨_,_,_,rfl⟩)⟩
 ·simp at h;obtain ⟨rfl,rfl⟩:=h;obtain ⟨B,d,_,rfl⟩:=hx;simp_all
 ·simp at h
theorem moveAddr_ok {x y:LV} {v:Value} {k:Nat} (h:moveAddr x k=some y) (hx:Rel A S w x v):
  ∃B o,v= .pointer (some ⟨B,o,none⟩)∧Rel A S w y (.pointer (some ⟨B,o+k,none⟩)):=by
 unfold moveAddr at h;split at h
 ·rename_i b o;simp at h;subst h;obtain ⟨B,d,h1,rfl⟩:=hx;exact ⟨B,d+o,rfl,B,d,h1,by grind⟩
 ·rename_i cs o;simp at h;subst h;obtain ⟨B,d,vs,rfl,h1⟩:=hx;exact ⟨B,d+o,rfl,B,d,vs,by grind,h1⟩
 ·rename_i g o;simp at h;subst h;cases hx;exact ⟨g,o,rfl,.vl _ rfl⟩
 ·simp at h
theorem fieldAddrA_ok (hs:Sim G A S L w) {s:TypeId} {x r:RV} {f:Nat} {v:Value} {L':List Ob} (h:fieldAddrA T s x f L=some (r,L')) (hx:RelR A S w x v):
  ValOk P G A S L w (Instr.fieldAt s v f) r L':=by
 unfold fieldAddrA at h;split at h
 ·rename_i fields y h1 h2;split at h
  ·rename_i fd hf;split at h
   ·rename_i n z h3 h4;simp at h;obtain ⟨rfl,rfl⟩:=h;have hy:Rel A S w y v:=by
     cases x with
     | tup _=>simp [oneR] at h2
     | v x=>cases x with
      | agg _=>simp [oneR] at h2
      | one x=>simp [oneR] at h2;subst h2;exact hx
    obtain ⟨B,o,rfl,hr⟩:=moveAddr_ok h4 hy;refine ValOk.still hs ?_ hr;simp [Instr.fieldAt,run_und h1,hf,Instr.sureAddr,fieldPlace,run_sz h3,addr_add]
   ·simp at h
  ·simp at h
 ·simp at h
theorem run_part {t:TypeId} {g:Bool} {n o:Nat} {cs l:List LV} {vs:List Value} {r:RV} (h1:isAggB T t=some g) (h2:szOf T t=some n) (h3:part cs o n=some l) (h4:ofCells g l=some r) (hg:(g || n==1)=true)
  (hr:RelL A S w cs vs):∃v,(Go.part t vs.toArray o).run P w= .ok v w∧RelR A S w r v:=by
 obtain ⟨hl,hc⟩:=part_some h3;have hrel:RelL A S w l ((vs.drop o).take n):=by
  have hlen:((vs.drop o).take n).length=l.length:=by
   have e1:=hr.1;have:n=0∨o+n≤cs.length:=by
    rcases Nat.eq_zero_or_pos n with h0 | h0
    ·exact .inl h0
    ·right;have:=hc (n - 1) (by omega)
     grind
   simp;omega
  refine ⟨hlen,fun i x hi=> ?_⟩;obtain ⟨u,q1,q2⟩:=hr.2 (o+i) x (part_get h3 hi);have hlt:i<n:=by have:=(List.getElem?_eq_some_iff.1 hi).1;omega
  exact ⟨u,by grind,q2⟩
 rcases ofCells_rel h4 hrel with ⟨rfl,hrr⟩ | ⟨rfl,v,hv,hrr⟩
 ·refine ⟨_,?_,hrr⟩;simp only [Go.part,Sem.run_bind,run_isAgg h1,Result.andThen_ok,Sem.run_ite,if_true,run_sz h2,Sem.run_pure]
  simp_all
 ·refine ⟨v,?_,hrr⟩;have hn:n=1:=by simpa using hg
  subst hn;have:vs[o]? =some v:=by
   have e:((vs.drop o).take 1)[0]? =some v:=by rw [hv];rfl
   grind
  simp [Go.part,run_isAgg h1,this]
theorem partA_ok (hs:Sim G A S L w) {t:TypeId} {cs:List LV} {o:Nat} {r:RV} {vs:List Value} {L':List Ob} (h:partA T t cs o L=some (r,L')) (hr:RelL A S w cs vs):
  ValOk P G A S L w (Go.part t vs.toArray o) r L':=by
 unfold partA at h;split at h
 ·rename_i g n h1 h2;split at h
  ·rename_i hg;split at h
   ·rename_i l h3;split at h
    ·rename_i r' h4;simp at h;obtain ⟨rfl,rfl⟩:=h;obtain ⟨v,k1,k2⟩:=run_part (P:=P) h1 h2 h3 h4 hg hr;exact ValOk.still hs k1 k2
    ·simp at h
   ·simp at h
  ·simp at h
 ·simp at h
theorem fieldA_ok (hs:Sim G A S L w) {t:TypeId} {x r:RV} {f:Nat} {v:Value} {L':List Ob} (h:fieldA T t x f L=some (r,L')) (hx:RelR A S w x v):
  ValOk P G A S L w (Instr.field t v f) r L':=by
 unfold fieldA at h;split at h
 ·rename_i fields cs h1;split at h
  ·rename_i fd hf;obtain ⟨vs,rfl,hl⟩:=hx;obtain ⟨u,w',A',S',k1,k2⟩:=partA_ok (P:=P) hs h hl;refine ⟨u,w',A',S',?_,k2⟩;simp at k1;simp [Instr.field,run_und h1,hf,asAgg,k1]
  ·simp at h
 ·simp at h
theorem intR_rel {r:RV} {n:Int} {v:Value} (h:intR r=some n) (hr:RelR A S w r v):∃k,v= .int k n:=by
 unfold intR at h;split at h
 ·rename_i k m;simp at h;subst h;cases hr
  simp_all
 ·simp at h
theorem indexAddrA_ok (hs:Sim G A S L w) {t:TypeId} {x ix r:RV} {v vi:Value} {L':List Ob} (h:indexAddrA T t x ix L=some (r,L')) (hx:RelR A S w x v) (hi:RelR A S w ix vi):
  ValOk P G A S L w (Instr.indexAt t v vi) r L':=by
 unfold indexAddrA at h;split at h
 ·rename_i n e x i h1 h2;split at h
  ·rename_i s h3;split at h
   ·rename_i hb;split at h
    ·rename_i y h4;simp at h;obtain ⟨rfl,rfl⟩:=h;obtain ⟨k,rfl⟩:=intR_rel h2 hi;obtain ⟨B,o,rfl,hr⟩:=moveAddr_ok h4 hx;refine ValOk.still hs ?_ hr;simp [Instr.indexAt,asIntOf,run_und h1,Instr.sureAddr,hb,run_sz h3,addr_add]
    ·simp at h
   ·simp at h
  ·simp at h
 ·rename_i e n cs i h1 h2;split at h
  ·rename_i s h3;split at h
   ·rename_i hb;simp at h;obtain ⟨rfl,rfl⟩:=h;obtain ⟨k,rfl⟩:=intR_rel h2 hi;cases hx with
    | sl _ _ B o cap vs hn hA hc he=>
    refine ValOk.still hs (v:= .pointer (some ⟨B,o+i.toNat*s,none⟩)) ?_ ⟨B,o,vs,rfl,fun j c hj=>⟨hA j c hj,hc j c hj,he j c hj⟩⟩;simp [Instr.indexAt,asIntOf,run_und h1,hb,run_sz h3,addr_add]
   ·simp at h
  ·simp at h
 ·rename_i e b o n z i h1 h2;split at h
  ·rename_i s h3;split at h
   ·rename_i hb;obtain ⟨rfl,hb⟩:=hb;simp at h;obtain ⟨rfl,rfl⟩:=h;obtain ⟨k,rfl⟩:=intR_rel h2 hi;obtain ⟨B,d,q,cap,q1,rfl,q2,q3⟩:=hx;obtain ⟨rfl,_⟩:=q3 (by omega);refine ValOk.still hs (v:= .pointer (some ⟨B,d+(o+i.toNat*z),none⟩)) ?_ ⟨B,d,q1,rfl⟩;simp [Instr.indexAt,asIntOf,run_und h1,hb,run_sz h3,addr_add,Nat.add_assoc]
   ·simp at h
  ·simp at h
 ·simp at h
theorem indexA_ok (hs:Sim G A S L w) {t:TypeId} {x ix r:RV} {v vi:Value} {L':List Ob} (h:indexA P T t x ix L=some (r,L')) (hx:RelR A S w x v) (hi:RelR A S w ix vi):
  ValOk P G A S L w (Instr.index t v vi) r L':=by
 unfold indexA at h;split at h
 ·rename_i u k h1 h2;split at h
  ·rename_i r' hr;simp at h;obtain ⟨rfl,rfl⟩:=h;rw [toVal_rel h1 hx,toVal_rel h2 hi];exact pureR_ok hs hr
  ·simp at h
 ·split at h
  ·rename_i n e cs i h1 h2 _;split at h
   ·rename_i s h3;split at h
    ·rename_i hb;obtain ⟨k,rfl⟩:=intR_rel h2 hi;obtain ⟨vs,rfl,hl⟩:=hx;obtain ⟨u,w',A',S',k1,k2⟩:=partA_ok (P:=P) hs h hl;refine ⟨u,w',A',S',?_,k2⟩;simp at k1;simp [Instr.index,asIntOf,run_und h1,hb,run_sz h3,k1]
    ·simp at h
   ·simp at h
  ·simp at h
theorem ifaceA_ok (hs:Sim G A S L w) {t:TypeId} {x r:RV} {v:Value} {L':List Ob} (h:ifaceA P T t x L=some (r,L')) (hx:RelR A S w x v):
  ValOk P G A S L w (Instr.makeInterface t v) r L':=by
 unfold ifaceA at h;split at h
 ·rename_i b o;split at h
  ·simp at h
  ·rename_i d hne h1;simp at h;obtain ⟨rfl,rfl⟩:=h;obtain ⟨B,d',q1,rfl⟩:=hx;refine ValOk.still hs ?_ ⟨B,d',q1,rfl⟩;cases d<;>first | (simp [Instr.makeInterface,run_und h1];done) | simp_all
  ·simp at h
 ·split at h
  ·rename_i u h1;split at h
   ·rename_i r' hr;simp at h;obtain ⟨rfl,rfl⟩:=h;rw [toVal_rel h1 hx];exact pureR_ok hs hr
   ·simp at h
  ·simp at h
end
end Go.Sx
namespace Go.Sx
section
variable {P:Program} {T:Tab} [TOk P T] {G:Globs} {A:Nat→Prop} {S:Where} {L:List Ob} {w:World}
theorem run_equal_nil {t:TypeId} {a b:RV} {u v:Value} (h1:nilLike a b=true) (h2:nilType T t b=true) (ha:RelR A S w a u) (hb:RelR A S w b v):
  (Op.equal t u v).run P w= .ok false w∧∀op x y,(eqGuard op t x y u v).run P w= .ok () w:=by
 have key:∀d,(Op.equalIn (d+1) t u v).run P w= .ok false w∧∀op x y,(eqGuard op t x y u v).run P w= .ok () w:=by
  intro d;unfold nilLike at h1;split at h1
  ·cases hb;unfold nilType at h2;split at h2<;>first | (rename_i heq;cases heq;rename_i hd;cases ha;refine ⟨by simp [Op.equalIn,run_und hd],fun op x y=>by unfold eqGuard;split<;>simp⟩) | simp_all | simp_all
  ·cases hb;unfold nilType at h2;split at h2<;>first | (rename_i heq;cases heq;rename_i hd;obtain ⟨B,d,q,cap,q1,rfl,q2,q3⟩:=ha;refine ⟨by simp [Op.equalIn,run_und hd],fun op x y=>by unfold eqGuard;split<;>simp⟩) | (simp at h2;done) | (rename_i heq;cases heq)
  ·cases hb;unfold nilType at h2;split at h2<;>first | (rename_i heq;cases heq;rename_i hd;obtain ⟨B,d,q1,rfl⟩:=ha;refine ⟨by simp [Op.equalIn,run_und hd],fun op x y=>by unfold eqGuard;split<;>simp⟩) | (simp at h2;done) | (rename_i heq;cases heq)
  ·cases hb;unfold nilType at h2;split at h2<;>first | (rename_i heq;cases heq;rename_i hd;obtain ⟨ps,hv0,q1⟩:=ha;obtain ⟨g0,a0,b0,e0⟩:=fnVal_form ‹FuncId› ps.toArray;rw [e0] at hv0;subst hv0;refine ⟨by simp [Op.equalIn,run_und hd],fun op x y=>by unfold eqGuard;split<;>simp⟩) | (simp at h2;done) | (rename_i heq;cases heq)
  ·cases hb;unfold nilType at h2;split at h2<;>first | (rename_i heq;cases heq;rename_i hd;obtain ⟨B,d,q1,rfl⟩:=ha;refine ⟨by simp [Op.equalIn,run_und hd],fun op x y=>by unfold eqGuard;split<;>simp⟩) | (simp at h2;done) | (rename_i heq;cases heq)
  ·cases hb;unfold nilType at h2;split at h2<;>first | (rename_i heq;cases heq;rename_i hd;obtain ⟨B,d,q1,rfl⟩:=ha;refine ⟨by simp [Op.equalIn,run_und hd],fun op x y=>by unfold eqGuard;split<;>simp⟩) | simp_all | simp_all
  ·simp at h1
 exact key 9999
theorem nilLike_forms {a b:RV} {u v:Value} (h1:nilLike a b=true) (ha:RelR A S w a u) (hb:RelR A S w b v) (op:BinOp) (t:TypeId) (ho:op= .eql∨op= .neq):
  binOp op t u v=(if op= .eql then (do pure (.bool (← Op.equal t u v))) else (do pure (.bool (!(← Op.equal t u v))))):=by
 unfold nilLike at h1;split at h1
 ·cases hb;cases ha;rcases ho with rfl | rfl<;>rfl
 ·cases hb;obtain ⟨B,d,q,cap,q1,rfl,q2,q3⟩:=ha;rcases ho with rfl | rfl<;>rfl
 ·cases hb;obtain ⟨B,d,q1,rfl⟩:=ha;rcases ho with rfl | rfl<;>rfl
 ·cases hb;obtain ⟨ps,hv0,q1⟩:=ha;obtain ⟨g0,a0,b0,e0⟩:=fnVal_form ‹FuncId› ps.toArray;rw [e0] at hv0;subst hv0;rcases ho with rfl | rfl<;>rfl
 ·cases hb;obtain ⟨B,d,q1,rfl⟩:=ha;rcases ho with rfl | rfl<;>rfl
 ·cases hb;obtain ⟨B,d,q1,rfl⟩:=ha;rcases ho with rfl | rfl<;>rfl
 ·simp at h1
theorem refEq_ok (hs:Sim G A S L w) {op:BinOp} {t:TypeId} {x y:Operand} {a b r:RV} {u v:Value} {L':List Ob} (h:refEq T op t a b L=some (r,L')) (ha:RelR A S w a u) (hb:RelR A S w b v):
  ValOk P G A S L w (do eqGuard op t x y u v;binOp op t u v) r L':=by
 unfold refEq at h;split at h
 ·rename_i b1 o1 b2 o2 e hu;split at h
  ·rename_i n hn;split at h
   ·rename_i hbb;subst hbb;obtain ⟨B,d,q1,rfl⟩:=ha;obtain ⟨B',d',q2,rfl⟩:=hb;rw [q1] at q2;simp only [Option.some.injEq,Prod.mk.injEq] at q2;obtain ⟨rfl,rfl⟩:=q2;have hg:∀op':BinOp,(eqGuard op' t x y (.pointer (some ⟨B,d+o1,none⟩)) (.pointer (some ⟨B,d+o2,none⟩))).run P w= .ok () w:=by
     intro op';unfold eqGuard;split<;>simp
    have hbeq:((⟨B,d+o1,none⟩:Addr)==⟨B,d+o2,none⟩)=Nat.beq o1 o2:=by
     rw [Bool.eq_iff_iff,beq_iff_eq];constructor
     ·simp_all
     ·simp_all
    have heq:(Op.equal t (.pointer (some ⟨B,d+o1,none⟩)) (.pointer (some ⟨B,d+o2,none⟩))).run P w= .ok (Nat.beq o1 o2) w:=by
     have key:∀k:Nat,(Op.equalIn (k+1) t (.pointer (some ⟨B,d+o1,none⟩)) (.pointer (some ⟨B,d+o2,none⟩))).run P w= .ok (Nat.beq o1 o2) w:=by
      intro k;simp only [Op.equalIn,Sem.run_bind,run_und hu,Result.andThen_ok,run_sz hn];simp [sameAddr,hbeq]
     exact key 9999
    split at h
    ·simp at h;obtain ⟨rfl,rfl⟩:=h;refine ValOk.still hs (v:= .bool (Nat.beq o1 o2)) ?_ (.vl _ rfl);rw [Sem.run_bind,hg,Result.andThen_ok];show (do pure (.bool (← Op.equal t _ _)):Sem Value).run P w=_;simp [heq]
    ·simp at h;obtain ⟨rfl,rfl⟩:=h;refine ValOk.still hs (v:= .bool !(Nat.beq o1 o2)) ?_ (.vl _ rfl);rw [Sem.run_bind,hg,Result.andThen_ok];show (do pure (.bool (!(← Op.equal t _ _))):Sem Value).run P w=_;simp [heq]
    ·simp at h
   ·simp at h
  ·simp at h
 ·simp at h
theorem binA_ok (hs:Sim G A S L w) {op:BinOp} {t:TypeId} {x y:Operand} {a b r:RV} {u v:Value} {L':List Ob} (h:binA P T op t x y a b L=some (r,L')) (ha:RelR A S w a u) (hb:RelR A S w b v):
  ValOk P G A S L w (do eqGuard op t x y u v;binOp op t u v) r L':=by
 unfold binA at h;split at h
 ·rename_i u' v' h1 h2;split at h
  ·rename_i r' hr;simp at h;obtain ⟨rfl,rfl⟩:=h;rw [toVal_rel h1 ha,toVal_rel h2 hb];exact pureR_ok hs hr
  ·simp at h
 ·split at h
  ·rename_i hn;simp only [Bool.and_eq_true] at hn;obtain ⟨k1,k2⟩:=run_equal_nil (P:=P) hn.1 hn.2 ha hb;split at h
   ·simp at h;obtain ⟨rfl,rfl⟩:=h;refine ValOk.still hs (v:= .bool false) ?_ (.vl _ rfl);rw [Sem.run_bind,k2,Result.andThen_ok,nilLike_forms hn.1 ha hb .eql t (.inl rfl)];simp [k1]
   ·simp at h;obtain ⟨rfl,rfl⟩:=h;refine ValOk.still hs (v:= .bool true) ?_ (.vl _ rfl);rw [Sem.run_bind,k2,Result.andThen_ok,nilLike_forms hn.1 ha hb .neq t (.inr rfl)];simp [k1]
   ·simp at h
  ·exact refEq_ok hs h ha hb
theorem mapOpt_get {α β:Type} {f:α→Option β}:∀{l:List α} {r:List β},mapOpt f l=some r→r.length=l.length∧∀(i:Nat) x,l[i]? =some x→∃y,r[i]? =some y∧f x=some y
 | [],r,h=>by simp [mapOpt] at h;simp_all
 | a::l,r,h=>by
  simp only [mapOpt] at h;split at h
  ·rename_i y ys h1 h2;simp at h;subst h;obtain ⟨k1,k2⟩:=mapOpt_get h2
   grind
  ·simp at h
def RelV (A:Nat→Prop) (S:Where) (w:World) (rs:List RV) (vs:List Value):Prop:=vs.length=rs.length∧∀(i:Nat) r,rs[i]? =some r→∃v,vs[i]? =some v∧RelR A S w r v
theorem RelV.nil:RelV A S w [] []:=⟨rfl,fun i x h=>by simp at h⟩
theorem RelV.cons {x:RV} {v:Value} {xs:List RV} {vs:List Value} (h:RelR A S w x v) (hs:RelV A S w xs vs):RelV A S w (x::xs) (v::vs):=by
 refine ⟨by simp [hs.1],fun i y hi=> ?_⟩;cases i with
 | zero=>simp_all
 | succ i=>simp at hi;obtain ⟨u,h1,h2⟩:=hs.2 i y hi;simp_all
theorem RelV.uncons {x:RV} {xs:List RV} {vs:List Value} (h:RelV A S w (x::xs) vs):∃v vs',vs=v::vs'∧RelR A S w x v∧RelV A S w xs vs':=by
 obtain ⟨hl,hc⟩:=h;cases vs with
 | nil=>simp at hl
 | cons v vs=>
  obtain ⟨u,h1,h2⟩:=hc 0 x rfl;simp at h1;subst h1;exact ⟨v,vs,rfl,h2,by simpa using hl,fun i y hi=>by obtain ⟨u,h1,h2⟩:=hc (i+1) y (by simpa using hi);simp_all⟩
theorem RelV.nil_inv {vs:List Value} (h:RelV A S w [] vs):vs=[]:=by
 have:=h.1;simp_all
theorem RelV.toVals:∀{rs:List RV} {vs us:List Value},mapOpt toVal rs=some us→RelV A S w rs vs→vs=us
 | [],vs,us,h,hr=>by simp [mapOpt] at h;subst h;exact hr.nil_inv
 | r::rs,vs,us,h,hr=>by
  obtain ⟨v,vs',rfl,h1,h2⟩:=hr.uncons;simp only [mapOpt] at h;split at h
  ·rename_i y ys k1 k2;simp at h;subst h;rw [toVal_rel k1 h1,RelV.toVals k2 h2]
  ·simp at h
theorem funcA_ok (hs:Sim G A S L w) {fn:Fn} {first captured:List RV} {vf vc:List Value} {r:RV} {L':List Ob} (h:funcA fn first captured L=some (r,L')) (hf:RelV A S w first vf) (hc:RelV A S w captured vc):
  ValOk P G A S L w (Instr.makeFunc fn vf.toArray vc.toArray) r L':=by
 unfold funcA at h;split at h
 ·rename_i a b h1 h2;simp at h;obtain ⟨rfl,rfl⟩:=h;rw [RelV.toVals h1 hf,RelV.toVals h2 hc];exact ValOk.still hs rfl (.vl _ rfl)
 ·rename_i h1 h2;split at h
  ·rename_i f l h3;split at h
   rotate_left
   ·simp at h
   rename_i hlt0;simp at h;obtain ⟨rfl,rfl⟩:=h;rw [RelV.toVals h1 hf];refine ValOk.still hs rfl ?_;obtain ⟨k1,k2⟩:=mapOpt_get h3;refine ⟨vc,by simp only [fnVal,show Nat.blt f mK=true by simp_all],by rw [hc.1,k1],fun i b o hi=> ?_⟩;have hlt:i<captured.length:=by have:=(List.getElem?_eq_some_iff.1 hi).1;omega
   obtain ⟨y,q1,q2⟩:=k2 i captured[i] (List.getElem?_eq_getElem hlt);rw [hi] at q1;simp at q1;subst q1;obtain ⟨v,q3,q4⟩:=hc.2 i captured[i] (List.getElem?_eq_getElem hlt);unfold refOf at q2;split at q2
   ·rename_i b' o' heq;simp at q2;obtain ⟨rfl,rfl⟩:=q2;rw [heq] at q4;obtain ⟨B,d,q5,rfl⟩:=q4
    simp_all
   ·simp at q2
  ·simp at h
 ·rename_i h1 h2;split at h
  ·rename_i f l h3;simp at h;obtain ⟨rfl,rfl⟩:=h;rw [RelV.toVals h2 hc];refine ValOk.still hs rfl ?_;obtain ⟨k1,k2⟩:=mapOpt_get h3;have hnb:Nat.blt (f+mK) mK=false:=by
    cases hb:Nat.blt (f+mK) mK with
    | false=>rfl
    | true=>rw [Nat.blt_eq] at hb;omega
   refine ⟨vf,by simp only [fnVal,hnb,Nat.add_sub_cancel],by rw [hf.1,k1],fun i b o hi=> ?_⟩;have hlt:i<first.length:=by have:=(List.getElem?_eq_some_iff.1 hi).1;omega
   obtain ⟨y,q1,q2⟩:=k2 i first[i] (List.getElem?_eq_getElem hlt)
   rw [hi] at q1;simp at q1;subst q1;obtain ⟨v,q3,q4⟩:=hf.2 i first[i] (List.getElem?_eq_getElem hlt)
   unfold refOf at q2;split at q2
   ·rename_i b' o' heq;simp at q2;obtain ⟨rfl,rfl⟩:=q2;rw [heq] at q4;obtain ⟨B,d,q5,rfl⟩:=q4
    simp_all
   ·simp at q2
  ·simp at h
 ·simp at h
theorem fill_ok {place:Nat→Option (Nat×Nat)}:∀{ps:List (Nat×RV)} {vs:List (Nat×Value)} {cells cs:List LV} {cv:Array Value},fillL place cells ps=some cs→
  ps.map (·.1)=vs.map (·.1)→RelV A S w (ps.map (·.2)) (vs.map (·.2))→RelL A S w cells cv.toList→
  ∃cv':Array Value,Instr.fill place cv vs=some cv'∧RelL A S w cs cv'.toList
 | [],vs,cells,cs,cv,h,hk,hr,hc=>by
  simp at hk;subst hk;simp [fillL] at h;subst h;exact ⟨cv,rfl,hc⟩
 | (i,x)::ps,vs,cells,cs,cv,h,hk,hr,hc=>by
  cases vs with
  | nil=>simp at hk
  | cons jv vs=>
   obtain ⟨j,v⟩:=jv;simp at hk;obtain ⟨rfl,hk⟩:=hk;simp only [fillL] at h;split at h
   ·rename_i off size xs h1 h2;split at h
    ·rename_i hb;obtain ⟨hb1,hb2⟩:=hb;simp only [List.map_cons] at hr;obtain ⟨v',vs',e,hr1,hr2⟩:=hr.uncons;simp at e;obtain ⟨rfl,rfl⟩:=e;have hxs:=cellsR_rel h2 hr1;have hlen:v.cells.size=size:=by have:=hxs.1;simp at this;omega
     have hcl:=hc.1;simp at hcl
     let cv1:Array Value:=v.cells.zipIdx.foldl (fun cs (c,j)=>cs.setIfInBounds (off+j) c) cv
     have hfold:∀(l:List Value) (k:Nat) (a:Array Value),off+k+l.length≤a.size→
       ((l.zipIdx k).foldl (fun (cs:Array Value) (cj:Value×Nat)=>cs.setIfInBounds (off+cj.2) cj.1) a).size=a.size∧
       ∀m,((l.zipIdx k).foldl (fun (cs:Array Value) (cj:Value×Nat)=>cs.setIfInBounds (off+cj.2) cj.1) a)[m]? =if off+k≤m∧m<off+k+l.length then l[m - (off+k)]? else a[m]? :=by
      intro l
      induction l with
      | nil=>intro k a ha;exact ⟨rfl,fun m=>by simp;omega⟩
      | cons u l ih=>
       intro k a ha;simp only [List.length_cons] at ha;simp only [List.zipIdx_cons,List.foldl_cons]
       grind
     have hz:=hfold v.cells.toList 0 cv (by simp;omega);have hcv1:cv1=(v.cells.toList.zipIdx 0).foldl (fun (cs:Array Value) (cj:Value×Nat)=>cs.setIfInBounds (off+cj.2) cj.1) cv:=by
      show Array.foldl _ _ _=_;rw [← Array.foldl_toList];simp
     obtain ⟨cv',q1,q2⟩:=fill_ok (cv:=cv1) h hk hr2 (by
      rw [hcv1];refine ⟨by simp [hz.1,setPart_length _ _ _ (show off+xs.length≤cells.length by omega),hcl],fun m x hm=> ?_⟩;rw [setPart_get _ _ _ _ (by omega)] at hm;have:=hz.2 m;simp at this;simp only [Array.getElem?_toList,this];have hvl:=hxs.1;simp at hvl;split at hm
      ·rename_i hio;obtain ⟨u,e1,e2⟩:=hxs.2 _ _ hm
       simp_all
      ·rename_i hio;obtain ⟨u,e1,e2⟩:=hc.2 _ _ hm
       grind)
     refine ⟨cv',?_,q2⟩;simp only [Instr.fill,h1]
     grind
    ·simp at h
   ·simp at h
end
end Go.Sx
namespace Go.Sx
section
variable {P:Program} {T:Tab} [TOk P T] {G:Globs} {A:Nat→Prop} {S:Where} {L:List Ob} {w:World}
theorem run_mapM_fields (w:World):∀(fs:List Field) (pl:Nat→Option (Nat×Nat)) (k:Nat),
  (∀i,i<fs.length→pl (k+i)=match fs[i]? with | some f=>(match szOf T f.type with | some s=>some (f.offset,s) | none=>none) | none=>none)→
  (∀(i:Nat) (f:Field),fs[i]? =some f→(szOf T f.type).isSome=true)→
  ∃places:List (Nat×Nat),(fs.mapM fun f=>(do pure (f.offset,← Go.sizeOf f.type):Sem (Nat×Nat))).run P w= .ok places w∧places.length=fs.length∧∀i,i<fs.length→places[i]? =pl (k+i)
 | [],pl,k,h,h'=>⟨[],by simp,rfl,fun i hi=>by simp at hi⟩
 | f::fs,pl,k,h,h'=>by
  have hf:=h' 0 f rfl;obtain ⟨s,hs⟩:=Option.isSome_iff_exists.1 hf;obtain ⟨places,h1,h2,h3⟩:=run_mapM_fields w fs pl (k+1) (fun i hi=>by have:=h (i+1) (by simp;omega);grind) (fun i g hi=>h' (i+1) g (by simpa using hi));refine ⟨(f.offset,s)::places,?_,by simp [h2],fun i hi=> ?_⟩
  ·simp only [List.mapM_cons,Sem.run_bind,run_sz hs,Result.andThen_ok,h1,Sem.run_pure]
  grind
theorem fill_congr {p q:Nat→Option (Nat×Nat)}:∀{ps:List (Nat×Value)} {c c':Array Value},(∀i v,(i,v)∈ps→p i=q i)→Instr.fill p c ps=some c'→Instr.fill q c ps=some c'
 | [],c,c',h,hf=>hf
 | (i,v)::ps,c,c',h,hf=>by
  have e:=h i v (List.mem_cons_self ..);simp only [Instr.fill,← e];simp only [Instr.fill] at hf;split at hf
  ·simp at hf
  ·rename_i off size hp;split at hf
   ·simp at hf
   ·rename_i hn;rw [if_neg hn];exact fill_congr (fun i v hm=>h i v (List.mem_cons_of_mem _ hm)) hf
theorem fill_places {p:Nat→Option (Nat×Nat)}:∀{ps:List (Nat×Value)} {c c':Array Value},Instr.fill p c ps=some c'→∀i v,(i,v)∈ps→(p i).isSome=true
 | [],c,c',h,i,v,hm=>by simp at hm
 | (j,u)::ps,c,c',h,i,v,hm=>by
  simp only [Instr.fill] at h;split at h
  ·simp at h
  ·rename_i off size hp;split at h
   ·simp at h
   ·rcases List.mem_cons.1 hm with he | hm
    ·simp_all
    ·exact fill_places h i v hm
theorem buildA_ok (hs:Sim G A S L w) {t:TypeId} {ps:List (Nat×RV)} {vs:List (Nat×Value)} {r:RV} {L':List Ob} (h:buildA T t ps L=some (r,L'))
  (hfs:∀fields,T.und t=some (.struct fields)→∀f∈fields,(szOf T f.type).isSome=true)
  (hk:ps.map (·.1)=vs.map (·.1)) (hr:RelV A S w (ps.map (·.2)) (vs.map (·.2))):
  ValOk P G A S L w (Instr.build t vs.toArray) r L':=by
 unfold buildA at h;split at h
 ·rename_i zero place h1 h2;split at h
  ·rename_i cs h3;simp at h;obtain ⟨rfl,rfl⟩:=h;obtain ⟨zv,hz,hzr⟩:=zeroOf_rel (P:=P) h1;obtain ⟨cv',q1,q2⟩:=fill_ok (cv:=zv.cells) h3 hk hr hzr;refine ValOk.still hs (v:= .agg cv') ?_ ⟨cv',rfl,q2⟩;unfold placesOf at h2;split at h2
   ·rename_i fields hu;simp at h2;subst h2;obtain ⟨places,e1,e2,e3⟩:=run_mapM_fields (P:=P) w fields.toList (fun i=>match fields[i]? with | some f=>(match szOf T f.type with | some s=>some (f.offset,s) | none=>none) | none=>none) 0 (fun i hi=>by simp) (fun i f hi=>hfs fields hu f (Array.mem_toList_iff.1 (List.mem_of_getElem? hi)));have hm:(fields.mapM fun f=>(do pure (f.offset,← Go.sizeOf f.type):Sem (Nat×Nat))).run P w= .ok places.toArray w:=by
     rw [Array.mapM_eq_mapM_toList,Sem.run_map,e1];rfl
    have hfill:Instr.fill (fun i=>places.toArray[i]?) zv.cells vs=some cv':=by
     refine fill_congr (fun i v hm=> ?_) q1;have hsome:=fill_places q1 i v hm
     by_cases hi:i<fields.toList.length
     ·grind
     ·simp_all
    simp only [Instr.build,Sem.run_bind,hz,run_und hu,Result.andThen_ok,hm,hfill,Sem.run_pure]
   ·rename_i n e hu;split at h2
    ·rename_i s hsz;simp at h2;subst h2;simp only [Instr.build,Sem.run_bind,hz,run_und hu,Result.andThen_ok,run_sz hsz,q1,Sem.run_pure]
    ·simp at h2
   ·simp at h2
  ·simp at h
 ·simp at h
theorem relL_flat {zero:List LV} {zv:List Value} (h:RelL A S w zero zv):∀n,RelL A S w (List.replicate n zero).flatten (List.replicate n zv).flatten
 | 0=>by simpa using RelL.nil
 | n+1=>by
  have ih:=relL_flat h n;simp only [List.replicate_succ,List.flatten_cons];have app:∀{a:List LV} {va:List Value} {b:List LV} {vb:List Value},RelL A S w a va→RelL A S w b vb→RelL A S w (a++b) (va++vb):=by
   intro a
   induction a with
   | nil=>intro va b vb h1 h2;rw [h1.nil_inv];simpa using h2
   | cons x a ih'=>
    intro va b vb h1 h2;obtain ⟨v,va',rfl,k1,k2⟩:=h1.uncons;exact RelL.cons k1 (ih' k2 h2)
  exact app h ih
theorem RelL.app {a:List LV} {va:List Value} {b:List LV} {vb:List Value} (h1:RelL A S w a va) (h2:RelL A S w b vb):RelL A S w (a++b) (va++vb):=by
 induction a generalizing va with
 | nil=>rw [h1.nil_inv];simpa using h2
 | cons x a ih=>
  obtain ⟨v,va',rfl,k1,k2⟩:=h1.uncons;exact RelL.cons k1 (ih k2)
theorem range_zeros (z:Array Value):∀n,(((Array.range (n*z.size)).map (fun i=>z[i%z.size]!)).toList)=(List.replicate n z.toList).flatten
 | 0=>by simp
 | n+1=>by
  have ih:=range_zeros z n;simp only [Array.toList_map,Array.toList_range] at ih ⊢
  rw [List.replicate_succ',List.flatten_append,← ih,Nat.succ_mul,List.range_add,List.map_append]
  congr 1
  simp only [List.flatten_cons,List.flatten_nil,List.append_nil,List.map_map];apply List.ext_getElem?;intro i
  by_cases hi:i<z.size
  ·simp [hi,Function.comp_def,Nat.mod_eq_of_lt hi,Nat.add_mod]
  simp_all
theorem fillL_length {place:Nat→Option (Nat×Nat)}:∀{ps:List (Nat×RV)} {cells cs:List LV},fillL place cells ps=some cs→cs.length=cells.length
 | [],cells,cs,h=>by simp [fillL] at h;subst h;rfl
 | (i,x)::ps,cells,cs,h=>by
  simp only [fillL] at h;split at h
  ·split at h
   ·rename_i hb;rw [fillL_length h,setPart_length _ _ _ (by omega)]
   ·simp at h
  ·simp at h
theorem buildSliceA_ok (hs:Sim G A S L w) {t:TypeId} {len:Nat} {ps:List (Nat×RV)} {vs:List (Nat×Value)} {r:RV} {L':List Ob} (h:buildSliceA T t len ps L=some (r,L'))
  (hk:ps.map (·.1)=vs.map (·.1)) (hr:RelV A S w (ps.map (·.2)) (vs.map (·.2))):
  ValOk P G A S L w (Instr.buildSlice t len vs.toArray) r L':=by
 unfold buildSliceA at h;split at h
 ·rename_i e hu;split at h
  ·rename_i s zero hsz hz;split at h
   ·rename_i hb;split at h
    ·rename_i cs hf;simp at h;obtain ⟨rfl,rfl⟩:=h;obtain ⟨zv,hz1,hz2⟩:=zeroOf_rel (P:=P) hz;have hzs:zv.cells.size=s:=by have:=(hz2 (A:=A) (S:=S) (w:=w)).1;simp at this;omega
     let base:Array Value:=(Array.range (len*s)).map (fun i=>(if len*s=0 then #[] else zv.cells)[i%(if len*s=0 then (#[]:Array Value) else zv.cells).size]!)
     have hbase:base.toList=(List.replicate len zv.cells.toList).flatten:=by
      show ((Array.range (len*s)).map _).toList=_
      by_cases h0:len*s=0
      ·simp only [h0,if_true];have:len=0∨zv.cells.toList=[]:=by
        rcases Nat.mul_eq_zero.1 h0 with h | h
        ·exact .inl h
        ·simp_all
       rcases this with h | h
       all_goals simp_all
      ·simp only [h0,if_false];rw [← hzs];exact range_zeros zv.cells len
     obtain ⟨cv',q1,q2⟩:=fill_ok (cv:=base) hf hk hr (by rw [hbase];exact relL_flat hz2 len);obtain ⟨S',k1,k2,k3,k4⟩:=newRow_ok (P:=P) hs e q2;refine ⟨.slice (some ⟨w.heap.size,0,none⟩) len len,_,A,S',?_,?_,k3,k4⟩
     ·have hle:¬(len*s>2^24):=by omega
      have hq:Instr.fill (fun i=>some (i*s,s)) ((Array.range (len*s)).map (fun i=>(if len*s=0 then #[] else zv.cells)[i%(if len*s=0 then (#[]:Array Value) else zv.cells).size]!)) vs=some cv':=q1;simp only [Instr.buildSlice,Sem.run_bind,run_und hu,Result.andThen_ok,run_sz hsz,Sem.run_ite,hle,if_false,Sem.run_pure,hz1]
      by_cases h0:len*s=0
      all_goals simp_all
     ·refine ⟨w.heap.size,0,0,len,k2,by simp,Nat.le_refl _,fun _=>⟨by simp,cv',e,(0,0),pushW_new w _,?_⟩⟩;have h1:=q2.1;simp at h1;have h2:cs.length=len*s:=by
       rw [fillL_length hf];have:=hb.2;simp [this]
      omega
    ·simp at h
   ·simp at h
  ·simp at h
 ·simp at h
end
end Go.Sx
