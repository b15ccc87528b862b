/- A part of the proof of MeaningEmpty. -/
import Derived.IntWalk
import Derived.Laws.BytesString
import Derived.Test.YtgnjilecndiffaaGreatDoorP1
set_option linter.all false
set_option maxRecDepth 1000000
set_option maxHeartbeats 0
namespace Go.Sx
section
variable {P:Program} {T:Tab} [TOk P T] {G:Globs} {A:Nat→Prop} {S:Where} {L:List Ob} {w:World}
theorem newBig_ok (hs:Sim G A S L w) {cs:List LV} {c:Array Value} (e:TypeId) (fr:Nat×Nat) (hf:∀i,i<c.size→¬(fr.1≤i∧i<fr.2)) (hl:cs.length≤c.size)
  (hc:∀(i:Nat) x,cs[i]? =some x→∃v,c[i]? =some v∧Rel A S w x v):
  ∃S',S' L.length=some (w.heap.size,0)∧Sim G A S' (L++[.cells cs false]) (pushW w (.cells c e fr))∧Ext A S L w A S' (L++[.cells cs false]) (pushW w (.cells c e fr)):=by
 refine ⟨S.put L.length (w.heap.size,0),Where.put_same _ _ _,hs.push _ _ 0 ?_,Ext.push hs _ _ 0⟩;refine ⟨w.heap.size,0,c,e,fr,Where.put_same _ _ _,pushW_new w _,by simpa using hl,hf,fun h=>by simp at h,fun i x hi=> ?_⟩;obtain ⟨v,h1,h2⟩:=hc i x hi;exact ⟨v,by simpa using h1,hs.rel (Ext.push hs (.cells cs false) (.cells c e fr) 0) h2⟩
theorem roomy_some {n b:Nat} (h:roomy n b=true):n*b≤17592186044416∧n≤17592186044416:=by
 unfold roomy at h
 simpa using h
theorem makeSliceA_ok (hs:Sim G A S L w) {t:TypeId} {l c r:RV} {vl vc:Value} {L':List Ob} (h:makeSliceA T t l c L=some (r,L')) (hl:RelR A S w l vl) (hc:RelR A S w c vc):
  ValOk P G A S L w (Instr.makeSlice t vl vc) r L':=by
 unfold makeSliceA at h;split at h
 ·rename_i e n m h1 h2 h3;split at h
  ·rename_i i zero h4 h5;split at h
   ·rename_i hb;obtain ⟨b1,b2,b3,b4,b5⟩:=hb;simp at h;obtain ⟨rfl,rfl⟩:=h;obtain ⟨k1,rfl⟩:=intR_rel h2 hl;obtain ⟨k2,rfl⟩:=intR_rel h3 hc;obtain ⟨zv,hz1,hz2⟩:=zeroOf_rel (P:=P) h5;have hzs:zv.cells.size=i.size:=by have:=(hz2 (A:=A) (S:=S) (w:=w)).1;simp at this;omega
    obtain ⟨r1,r2⟩:=roomy_some b3;obtain ⟨n',rfl⟩:=Int.eq_ofNat_of_zero_le b1;obtain ⟨m',rfl⟩:=Int.eq_ofNat_of_zero_le (Int.le_trans b1 b2);simp only [Int.toNat_natCast] at*;have hnm:n'≤m':=by omega
    let base:Array Value:=(Array.range (m'*i.size)).map (fun k=>zv.cells[k%zv.cells.size]!)
    have hbase:base.toList=(List.replicate m' zv.cells.toList).flatten:=by
     show ((Array.range (m'*i.size)).map _).toList=_;rw [← hzs];exact range_zeros zv.cells m'
    have hsz:base.size=m'*i.size:=by show ((Array.range (m'*i.size)).map _).size=_;simp
    have hrel:RelL A S w (List.replicate m' zero).flatten base.toList:=by rw [hbase];exact relL_flat hz2 m'
    obtain ⟨S',q1,q2,q3⟩:=newBig_ok (cs:=(List.replicate n' zero).flatten) (c:=base) hs e (0,0) (fun _ _ h=>by simp at h)
     (by simp [b4,hsz];exact Nat.mul_le_mul_right _ hnm) (fun j x hj=>by
      have:(List.replicate m' zero).flatten[j]? =some x:=by
       have e2:(List.replicate m' zero).flatten=(List.replicate n' zero).flatten++(List.replicate (m' - n') zero).flatten:=by
        rw [← List.flatten_append,List.replicate_append_replicate];congr 2;omega
       rw [e2,List.getElem?_append_left (List.getElem?_eq_some_iff.1 hj).1];exact hj
      obtain ⟨v,e1,e2⟩:=hrel.2 j x this
      grind)
    refine ⟨.slice (some ⟨w.heap.size,0,none⟩) n' m',_,A,S',?_,⟨w.heap.size,0,0,m',q1,by simp,hnm,fun _=>⟨by simp,base,e,(0,0),pushW_new w _,by simp [hsz]⟩⟩,q2,q3⟩;have w1:IntKind.i64.wrap (n':Int)=n':=IntWalk.i64_in _ (by omega);have w2:IntKind.i64.wrap (m':Int)=m':=IntWalk.i64_in _ (by omega);have hm:∃q:Nat,(i.bytes:Int)*(m':Int)=(q:Int)∧q≤17592186044416:=
     ⟨m'*i.bytes,by grind,r1⟩
    obtain ⟨q,hq1,hq2⟩:=hm;have t1:((m':Int)<0)=False:=by apply eq_false;omega
    have e48:(2:Int)^48=281474976710656:=by decide+kernel
    have t2:((i.bytes:Int)*(m':Int)>2^48)=False:=by rw [e48,hq1];apply eq_false;omega
    have t3:((n':Int)<0)=False:=by apply eq_false;omega
    have t4:((n':Int)>(m':Int))=False:=by apply eq_false;omega
    simp only [Instr.makeSlice,Sem.run_bind,run_und h1,Result.andThen_ok,asInt,asIntOf,Sem.run_pure,run_info h4,w1,w2,t1,t2,t3,t4,decide_false,Bool.or_false,Bool.false_eq_true,if_false,run_askRoom,Sem.run_ite,run_sz (show szOf T e=some i.size by simp [szOf,h4]),Int.toNat_natCast,hz1]
    by_cases h0:m'*i.size=0
    ·have hm0:m'=0:=by rcases Nat.mul_eq_zero.1 h0 with h | h<;>omega
     subst hm0;have hb0:base=#[]:=by show (Array.range (0*i.size)).map _=_;simp
     have e0:∀f:Nat→Value,(Array.range (0*i.size)).map f=#[]:=fun f=>by simp
     simp only [Nat.zero_mul,if_true];rw [Nat.zero_mul] at e0;simp only [e0,newRow,Sem.run_bind,run_newObj,Result.andThen_ok,Sem.run_pure,hb0];rfl
    ·simp only [h0,if_false];rfl
   ·simp at h
  ·simp at h
 ·simp at h
theorem bounds_some {len:Nat} {lo hi:Option Int} {l h:Nat} (hb:bounds len lo hi=some (l,h)):
  lo.getD 0=l∧hi.getD len=h∧l≤h∧h≤len:=by
 unfold bounds at hb
 grind
theorem optInt_rel {r:Option RV} {n:Option Int} {v:Option Value} (h:optInt r=some n) (hr:∀x u,r=some x→v=some u→RelR A S w x u) (hv:r.isSome=v.isSome):
  (n=none∧v=none)∨∃m k,n=some m∧v=some (.int k m):=by
 cases r with
 | none=>
  simp [optInt] at h;simp_all
 | some x=>
  cases v with
  | none=>simp at hv
  | some u=>
   simp only [optInt] at h;split at h
   ·rename_i m hm;simp at h;subst h;obtain ⟨k,rfl⟩:=intR_rel hm (hr x u rfl rfl)
    simp_all
   ·simp at h
theorem sliceBounds_ok {isSlice:Bool} {len cap l h:Nat} {lo hi:Option Int} {vl vh:Option Value} (hb:bounds len lo hi=some (l,h)) (hc:len≤cap)
  (h1:(lo=none∧vl=none)∨∃m k,lo=some m∧vl=some (.int k m)) (h2:(hi=none∧vh=none)∨∃m k,hi=some m∧vh=some (.int k m)):
  (Instr.sliceBounds isSlice len cap vl vh none).run P w= .ok (l,h,cap) w:=by
 obtain ⟨b1,b2,b3,b4⟩:=bounds_some hb
 rcases h1 with ⟨rfl,rfl⟩ | ⟨m,k,rfl,rfl⟩<;>rcases h2 with ⟨rfl,rfl⟩ | ⟨m',k',rfl,rfl⟩<;>simp at b1 b2
 ·have e1:l=0:=by omega
  have e2:h=len:=by omega
  subst e1 e2;rfl
 ·subst b2;have e1:l=0:=by omega
  subst e1;have:h≤cap:=by omega
  simp [Instr.sliceBounds,Instr.sliceBound,asIntOf];omega
 ·subst b1;have e2:h=len:=by omega
  subst e2;simp [Instr.sliceBounds,Instr.sliceBound,asIntOf];omega
 ·subst b1 b2;have k1:h≤cap:=by omega
  simp [Instr.sliceBounds,Instr.sliceBound,asIntOf,k1,b3]
theorem optVal_rel {r:Option RV} {n:Option Value} {v:Option Value} (h:optVal r=some n) (hr:∀x u,r=some x→v=some u→RelR A S w x u) (hv:r.isSome=v.isSome):v=n:=by
 cases r with
 | none=>
  simp [optVal] at h;simp_all
 | some x=>
  cases v with
  | none=>simp at hv
  | some u=>
   simp only [optVal] at h;split at h
   ·rename_i m hm;simp at h;subst h;rw [toVal_rel hm (hr x u rfl rfl)]
   ·simp at h
theorem sliceA_ok (hs:Sim G A S L w) {t:TypeId} {x r:RV} {lo hi mx:Option RV} {v:Value} {vl vh vm:Option Value} {L':List Ob} (h:sliceA P T t x lo hi mx L=some (r,L'))
  (hx:RelR A S w x v) (h1:∀x u,lo=some x→vl=some u→RelR A S w x u) (h1':lo.isSome=vl.isSome) (h2:∀x u,hi=some x→vh=some u→RelR A S w x u) (h2':hi.isSome=vh.isSome)
  (h3:∀x u,mx=some x→vm=some u→RelR A S w x u) (h3':mx.isSome=vm.isSome):
  ValOk P G A S L w (Instr.sliceAt t v vl vh vm) r L':=by
 unfold sliceA at h;split at h
 ·rename_i u hu;split at h
  ·rename_i l' h' m' k1 k2 k3;split at h
   ·rename_i r' hr;simp at h;obtain ⟨rfl,rfl⟩:=h;rw [toVal_rel hu hx,optVal_rel k1 h1 h1',optVal_rel k2 h2 h2',optVal_rel k3 h3 h3'];exact pureR_ok hs hr
   ·simp at h
  ·simp at h
 ·split at h
  ·rename_i l' h' _ k1 k2;have hvm:vm=none:=by simp_all
   subst hvm;have q1:=optInt_rel k1 h1 h1';have q2:=optInt_rel k2 h2 h2';split at h
   ·rename_i e n cs hu _;split at h
    ·rename_i s l hh hs1 hb;split at h
     ·rename_i p hp;simp at h;obtain ⟨rfl,rfl⟩:=h;cases hx with
      | sl _ _ B o cap vs hn hA hc he=>
      obtain ⟨b1,b2,b3,b4⟩:=bounds_some hb;refine ValOk.still hs (v:= .slice (if cap=l then some ⟨B,o,none⟩ else some ⟨B,o+l*s,none⟩) (hh - l) (cap - l)) ?_ ?_
      ·simp only [Instr.sliceAt,Sem.run_bind,run_und hu,Result.andThen_ok,Instr.slice,sliceBounds_ok hb hn q1 q2,run_sz hs1,Sem.run_pure]
       congr 2
       split<;>simp [addr_add]
      ·by_cases hcl:cap=l
       ·have:p=[]:=by
         have:=(part_some hp).1;have:hh - l=0:=by omega
         simp_all
        subst this;rw [if_pos hcl];exact .sl _ _ B o _ vs (by omega) (fun i c hi=>by simp at hi) (fun i c hi=>by simp at hi) (fun i c hi=>by simp at hi)
       ·rw [if_neg hcl];refine .sl _ _ B _ _ (fun i=>vs (l*s+i)) (by omega) (fun i c hi=>hA _ c (part_get hp hi)) (fun i c hi=> ?_) (fun i c hi=>he _ c (part_get hp hi));rw [Nat.add_assoc];exact hc _ c (part_get hp hi)
     ·simp at h
    ·simp at h
   ·rename_i e b o n z hu _;split at h
    ·rename_i s l hh hs1 hb;split at h
     ·rename_i hz;subst hz;simp at h;obtain ⟨rfl,rfl⟩:=h;obtain ⟨B,d,q,cap,p1,rfl,p2,p3⟩:=hx;obtain ⟨b1,b2,b3,b4⟩:=bounds_some hb;refine ValOk.still hs (v:= .slice (if cap=l then some ⟨B,q,none⟩ else some ⟨B,q+l*z,none⟩) (hh - l) (cap - l)) ?_ ?_
      ·simp only [Instr.sliceAt,Sem.run_bind,run_und hu,Result.andThen_ok,Instr.slice,sliceBounds_ok hb p2 q1 q2,run_sz hs1,Sem.run_pure]
       congr 2
       split<;>simp [addr_add]
      ·by_cases hcl:cap=l
       ·rw [if_pos hcl];exact ⟨B,d,q,cap - l,p1,rfl,by omega,fun hp=>by omega⟩
       ·rw [if_neg hcl];refine ⟨B,d,q+l*z,cap - l,p1,rfl,by omega,fun hp=> ?_⟩;obtain ⟨rfl,c,e',fr,r1,r2⟩:=p3 (by omega);refine ⟨by omega,c,e',fr,r1,?_⟩;have:(cap - l)*z=cap*z - l*z:=Nat.sub_mul cap l z;have:l*z≤cap*z:=Nat.mul_le_mul_right z (by omega);omega
     ·simp at h
    ·simp at h
   ·rename_i k e b o hu _;split at h
    ·rename_i s l hh cs fz hs1 hb hL;split at h
     ·rename_i hle;simp at h;obtain ⟨rfl,rfl⟩:=h;obtain ⟨B,d,p1,rfl⟩:=hx;obtain ⟨b1,b2,b3,b4⟩:=bounds_some hb;obtain ⟨B',d',c,e',fr,r1,r2,r3,_⟩:=hs.ob b _ hL;rw [p1] at r1;simp only [Option.some.injEq,Prod.mk.injEq] at r1;obtain ⟨rfl,rfl⟩:=r1;refine ValOk.still hs (v:= .slice (some (if k=l then ⟨B,d+o,none⟩ else ⟨B,d+o+l*s,none⟩)) (hh - l) (k - l)) ?_ ?_
      ·simp only [Instr.sliceAt,Sem.run_bind,run_und hu,Result.andThen_ok,Instr.sureAddr,Sem.run_pure,sliceBounds_ok hb (Nat.le_refl _) q1 q2,run_sz hs1]
       congr 3
       split<;>simp [addr_add]
      ·by_cases hcl:k=l
       ·rw [if_pos hcl];exact ⟨B,d,_,k - l,p1,rfl,by omega,fun hp=>by omega⟩
       ·rw [if_neg hcl];refine ⟨B,d,d+o+l*s,k - l,p1,rfl,by omega,fun hp=>⟨by omega,c,e',fr,r2,?_⟩⟩;have:(k - l)*s=k*s - l*s:=Nat.sub_mul k l s;have:l*s≤k*s:=Nat.mul_le_mul_right s (by omega);omega
     ·simp at h
    ·simp at h
   ·simp at h
  ·simp at h
end
end Go.Sx
namespace Go.Sx
section
variable {P:Program} {T:Tab} [TOk P T] {G:Globs} {A:Nat→Prop} {S:Where} {L:List Ob} {w:World}
theorem relL_map_p {A:Nat→Prop} {S:Where} {w:World} {B d:Nat}:∀{cs:List PV} {vs:Nat→Value},(∀(i:Nat) c,cs[i]? =some c→w.cell? ⟨B,d+i,none⟩=some (vs i)∧EncP A w c (vs i))→
  ∃l:List Value,l.length=cs.length∧RelL A S w (cs.map .p) l∧∀(j:Nat) u,l[j]? =some u→w.cell? ⟨B,d+j,none⟩=some u:=by
 intro cs vs h;obtain ⟨l,h1,h2⟩:=list_of cs (fun x i v=>w.cell? ⟨B,d+i,none⟩=some v∧EncP A w x v) fun i x hi=>⟨vs i,h i x hi⟩
 refine ⟨l,h1,⟨by simp [h1],fun i x hi=> ?_⟩,fun j u hj=> ?_⟩
 ·simp only [List.getElem?_map,Option.map_eq_some_iff] at hi;obtain ⟨y,hy,rfl⟩:=hi;obtain ⟨u,q1,q2⟩:=h2 i y hy;exact ⟨u,q1,q2.2⟩
 ·have hlt:j<cs.length:=by have:=(List.getElem?_eq_some_iff.1 hj).1;omega
  obtain ⟨u',q1,q2,_⟩:=h2 j cs[j] (List.getElem?_eq_getElem hlt)
  simp_all
theorem RelL.take {xs:List LV} {vs:List Value} (h:RelL A S w xs vs) (k:Nat):RelL A S w (xs.take k) (vs.take k):=by
 refine ⟨by simp [h.1],fun i x hi=> ?_⟩;have hlt:i<k:=by have:=(List.getElem?_eq_some_iff.1 hi).1;simp at this;omega
 rw [List.getElem?_take_of_lt hlt] at hi ⊢
 exact h.2 i x hi
theorem ofBytes_rel (s:ByteArray):RelL A S w (ofBytes s) (s.data.toList.map fun b=> .int .u8 b.toNat):=by
 unfold ofBytes;have:(s.data.toList.map fun b=>(LV.p (.vl (.int .u8 b.toNat)):LV))=(s.data.toList.map fun b=>(Value.int .u8 b.toNat:Value)).map fun v=> .p (.vl v):=by simp [Function.comp_def]
 rw [this];apply relL_atoms
 induction s.data.toList with
 | nil=>rfl
 | cons a l ih=>simp [allSingle,single,ih]
theorem cell_heap {w':World} (hw:w'.heap=w.heap) {a:Addr}:w'.cell? a=w.cell? a:=by unfold World.cell?;rw [hw]
theorem elems_ok (hs:Sim G A S L w) {z m:Nat} {x:RV} {cs:List LV} {v:Value} (h:elems L z x=some (m,cs)) (hx:RelR A S w x v):
  (Builtin.lenOf v).run P w= .ok m w∧cs.length=m*z∧
  ∃vs,RelL A S w cs vs∧(∀k,k≤m→∀w':World,w'.heap=w.heap→(Builtin.firstCells z k v).run P w'= .ok (vs.take (k*z)).toArray w'):=by
 unfold elems at h;split at h
 ·simp at h;obtain ⟨rfl,rfl⟩:=h;cases hx;refine ⟨by rfl,by simp,[],RelL.nil,fun k hk w' hw'=>by simp [Builtin.firstCells]⟩
 ·rename_i s;split at h
  ·rename_i hz;simp at h;obtain ⟨rfl,rfl⟩:=h;cases hx;subst hz;refine ⟨by rfl,by simp [ofBytes],_,ofBytes_rel s,fun k hk w' hw'=> ?_⟩;simp only [Builtin.firstCells,Nat.mul_one,Sem.run_pure]
   congr 1
   have e:(s.extract 0 k).data=s.data.extract 0 k:=by simp
   grind
  ·simp at h
 ·rename_i n cs0;simp only [Option.map_eq_some_iff] at h;obtain ⟨l,hp,he⟩:=h;simp at he;obtain ⟨rfl,rfl⟩:=he;cases hx with
  | sl _ _ B o cap vs hn hA hc he=>
  obtain ⟨l',e1,e2,e3⟩:=relL_map_p (A:=A) (S:=S) (w:=w) (B:=B) (d:=o) (cs:=l) (vs:=vs) (fun i c hi=>by have:=part_get hp hi;simp_all);have hl:=(part_some hp).1;refine ⟨by rfl,by simp [hl],l',e2,fun k hk w' hw'=> ?_⟩;simp only [Builtin.firstCells];refine run_loadCells_at ?_ (fun j u hj=>(cell_heap hw').trans (e3 j u ?_))
  ·simp_all
  grind
 ·rename_i b o n z';split at h
  ·rename_i hz;subst hz;split at h
   ·rename_i cs0 fz hL;simp only [Option.map_eq_some_iff] at h;obtain ⟨l,hp,he⟩:=h;simp at he;obtain ⟨rfl,rfl⟩:=he;obtain ⟨B,d,q,cap,p1,rfl,p2,p3⟩:=hx;have hl:=(part_some hp).1;obtain ⟨B',d',c,e,fr,h1,h2,h3,h4,h5,h6⟩:=hs.ob b _ hL;rw [p1] at h1;simp only [Option.some.injEq,Prod.mk.injEq] at h1;obtain ⟨rfl,rfl⟩:=h1;obtain ⟨vs,hvl,hv⟩:=list_of l (fun x i v=>c[d+(o+i)]? =some v∧Rel A S w x v) fun i x hi=>h6 (o+i) x (part_get hp hi);refine ⟨by rfl,hl,vs,⟨hvl,fun i x hi=>let ⟨u,q1,q2⟩:=hv i x hi;⟨u,q1,q2.2⟩⟩,fun k hk w' hw'=> ?_⟩;simp only [Builtin.firstCells]
    by_cases h0:k=0
    ·subst h0;simp [loadCells,loadCellsFrom]
    ·obtain ⟨rfl,_⟩:=p3 (by omega);refine run_loadCells_at ?_ (fun j u hj=> ?_)
     ·simp_all
     ·have hj2:j<k*z':=by have:=(List.getElem?_eq_some_iff.1 hj).1;simp at this;omega
      rw [List.getElem?_take_of_lt hj2] at hj;have hlt:j<l.length:=by have:=(List.getElem?_eq_some_iff.1 hj).1;omega
      obtain ⟨u',q1,q2,_⟩:=hv j l[j] (List.getElem?_eq_getElem hlt);rw [hj] at q1;simp at q1;subst q1;exact (cell_heap hw').trans (cell_of_heap h2 (by grind))
   ·rename_i t0 cs0 fz hL;simp only [Option.map_eq_some_iff] at h;obtain ⟨l,hp,he⟩:=h;simp at he;obtain ⟨rfl,rfl⟩:=he;obtain ⟨B,d,q,cap,p1,rfl,p2,p3⟩:=hx;have hl:=(part_some hp).1;obtain ⟨B',c,fr,h1,h2,h3,h4,h5,h6⟩:=hs.ob b _ hL;rw [p1] at h1;simp only [Option.some.injEq,Prod.mk.injEq] at h1;obtain ⟨rfl,rfl⟩:=h1;obtain ⟨vs,hvl,hv⟩:=list_of l (fun x i v=>c[o+i]? =some v∧Rel A S w x v) fun i x hi=>h6 (o+i) x (part_get hp hi);refine ⟨by rfl,hl,vs,⟨hvl,fun i x hi=>let ⟨u,q1,q2⟩:=hv i x hi;⟨u,q1,q2.2⟩⟩,fun k hk w' hw'=> ?_⟩;simp only [Builtin.firstCells]
    by_cases h0:k=0
    ·subst h0;simp [loadCells,loadCellsFrom]
    ·obtain ⟨rfl,_⟩:=p3 (by omega);refine run_loadCells_at ?_ (fun j u hj=> ?_)
     ·simp_all
     ·have hj2:j<k*z':=by have:=(List.getElem?_eq_some_iff.1 hj).1;simp at this;omega
      rw [List.getElem?_take_of_lt hj2] at hj;have hlt:j<l.length:=by have:=(List.getElem?_eq_some_iff.1 hj).1;omega
      obtain ⟨u',q1,q2,_⟩:=hv j l[j] (List.getElem?_eq_getElem hlt);rw [hj] at q1;simp at q1;subst q1;exact (cell_heap hw').trans (cell_of_heap h2 (by simp_all))
   ·simp at h
  ·simp at h
 ·simp at h
end
end Go.Sx
namespace Go.Sx
section
variable {P:Program} {T:Tab} [TOk P T] {G:Globs} {A:Nat→Prop} {S:Where} {L:List Ob} {w:World}
theorem growBy_le (n:Nat):∀(r c:Nat),Builtin.growBy n r c≤max c (n+(n+768) /4)
 | 0,c=>Nat.le_max_left ..
 | r+1,c=>by
  simp only [Builtin.growBy];split
  ·omega
  ·rename_i h;refine Nat.le_trans (growBy_le n r _) ?_;omega
theorem nextcap_le {n c:Nat} (h:c<n):Builtin.nextslicecap n c≤2*n:=by
 unfold Builtin.nextslicecap;split
 ·omega
 ·split
  ·omega
  ·have:=growBy_le n 4 c;omega
theorem append_grow {s:Value} {base:Option Addr} {n m cap:Nat} {x:Value} {e:TypeId} {i:TypeInfo} {zv:Value} {ats:Array TypeId} {ty t0 t1:TypeId} {xd:TypeDesc} {old new:List Value}
  (hsv:s= .slice base n cap) (h0:ats[0]? =some t0) (h1:ats[1]? =some t1) (hu0:T.und t0=some (.slice e)) (hu1:T.und t1=some xd) (hxd:∀k,xd≠.int k)
  (hi:T.info e=some i) (hz:∀w:World,(zeroValue e).run P w= .ok zv w) (hlen:∀w:World,(Builtin.lenOf x).run P w= .ok m w) (hcap:cap<n+m) (hroom:roomy (n+m) i.bytes=true)
  (hold:∀w':World,w'.heap=w.heap→(Builtin.firstCells i.size n s).run P w'= .ok old.toArray w') (hnew:∀w':World,w'.heap=w.heap→(Builtin.firstCells i.size m x).run P w'= .ok new.toArray w'):
  ∃ncap rest,n+m≤ncap∧rest.size=(ncap - (n+m))*zv.cells.size∧
   (Builtin.append_ ats ty #[s,x]).run P w= .ok (.slice (some ⟨w.heap.size,0,none⟩) (n+m) ncap) (pushW {w with drawn:=w.drawn+1} (.cells (old.toArray++new.toArray++rest) e)):=by
 subst hsv;obtain ⟨r1,r2⟩:=roomy_some hroom;refine ⟨n+m+w.tape w.drawn (.appendCap (n+m) cap e)%(2^63 - (n+m)),Builtin.zeroCells zv.cells (n+m+w.tape w.drawn (.appendCap (n+m) cap e)%(2^63 - (n+m)) - (n+m)),by omega,by simp [Builtin.zeroCells],?_⟩;have hnb:Builtin.nextslicecap (n+m) cap*i.bytes≤2*17592186044416:=by
  calc Builtin.nextslicecap (n+m) cap*i.bytes≤2*(n+m)*i.bytes:=Nat.mul_le_mul_right _ (nextcap_le hcap)
   _=2*((n+m)*i.bytes):=Nat.mul_assoc ..
   _≤2*17592186044416:=Nat.mul_le_mul_left _ r1
 have e48:(2:Nat)^48=281474976710656:=by decide+kernel
 have hnb':¬(Builtin.nextslicecap (n+m) cap*i.bytes>2^48):=by rw [e48];omega
 have hnd:¬(n+m≤cap):=by omega
 have hmax:¬(((n+m:Nat):Int)>IntKind.i64.max):=by
  have:IntKind.i64.max=9223372036854775807:=by decide+kernel
  rw [this];omega
 have hd:({w with drawn:=w.drawn+1}:World).heap=w.heap:=rfl;unfold Builtin.append_;simp only [h0,h1];have g0:(#[Value.slice base n cap,x]:Array Value)[0]? =some (.slice base n cap):=rfl;have g1:(#[Value.slice base n cap,x]:Array Value)[1]? =some x:=rfl;simp only [g0,g1,Sem.run_bind,run_und hu0,Result.andThen_ok,run_sz (show szOf T e=some i.size by simp [szOf,hi]),run_und hu1,Sem.run_pure,Bool.false_eq_true,if_false,hlen,hnd,Sem.run_ite,run_info hi,hmax,false_and,hnb',run_choose,Question.forced,run_askRoom];simp only [hold _ hd,hnew _ hd,Result.andThen_ok,Bool.not_false,if_true,hz,newRow,Sem.run_bind,run_newObj,Sem.run_pure,Question.cut];rfl
theorem append_fits {B q:Nat} {n m cap:Nat} {x:Value} {e:TypeId} {i:TypeInfo} {ats:Array TypeId} {ty t0 t1:TypeId} {xd:TypeDesc} {new:List Value} {w':World}
  (h0:ats[0]? =some t0) (h1:ats[1]? =some t1) (hu0:T.und t0=some (.slice e)) (hu1:T.und t1=some xd) (hxd:∀k,xd≠.int k)
  (hi:T.info e=some i) (hlen:∀w:World,(Builtin.lenOf x).run P w= .ok m w) (hcap:n+m≤cap)
  (hnew:(Builtin.firstCells i.size m x).run P w= .ok new.toArray w) (hst:(storeCells ⟨B,q+n*i.size,none⟩ new).run P w= .ok () w'):
  (Builtin.append_ ats ty #[.slice (some ⟨B,q,none⟩) n cap,x]).run P w= .ok (.slice (some ⟨B,q,none⟩) (n+m) cap) w':=by
 unfold Builtin.append_;simp only [h0,h1];have g0:(#[Value.slice (some ⟨B,q,none⟩) n cap,x]:Array Value)[0]? =some (.slice (some ⟨B,q,none⟩) n cap):=rfl;have g1:(#[Value.slice (some ⟨B,q,none⟩) n cap,x]:Array Value)[1]? =some x:=rfl;simp only [g0,g1,Sem.run_bind,run_und hu0,Result.andThen_ok,run_sz (show szOf T e=some i.size by simp [szOf,hi]),run_und hu1,Sem.run_pure,Bool.false_eq_true,if_false,hlen,hcap,if_true,Sem.run_ite,Bool.not_false,hnew,addr_add,hst]
theorem append_nil {x:Value} {e:TypeId} {i:TypeInfo} {ats:Array TypeId} {ty t0 t1:TypeId} {xd:TypeDesc} {new:List Value}
  (h0:ats[0]? =some t0) (h1:ats[1]? =some t1) (hu0:T.und t0=some (.slice e)) (hu1:T.und t1=some xd) (hxd:∀k,xd≠.int k)
  (hi:T.info e=some i) (hlen:∀w:World,(Builtin.lenOf x).run P w= .ok 0 w)
  (hnew:(Builtin.firstCells i.size 0 x).run P w= .ok new.toArray w):
  (Builtin.append_ ats ty #[.slice none 0 0,x]).run P w= .ok (.slice none 0 0) w:=by
 unfold Builtin.append_;simp only [h0,h1];have g0:(#[Value.slice none 0 0,x]:Array Value)[0]? =some (.slice none 0 0):=rfl;have g1:(#[Value.slice none 0 0,x]:Array Value)[1]? =some x:=rfl;simp only [g0,g1,Sem.run_bind,run_und hu0,Result.andThen_ok,run_sz (show szOf T e=some i.size by simp [szOf,hi]),run_und hu1,Sem.run_pure,Bool.false_eq_true,if_false,hlen,Nat.add_zero,Nat.le_refl,if_true,Sem.run_ite,Bool.not_false,hnew]
theorem lenOf_any {x:Value} {m:Nat} (h:(Builtin.lenOf x).run P w= .ok m w) (w':World):(Builtin.lenOf x).run P w'= .ok m w':=by
 cases x<;>simp [Builtin.lenOf] at h ⊢<;>exact h
theorem grow_sim (hs:Sim G A S L w) {old new:List LV} {ov nv:List Value} {rest:Array Value} (e:TypeId) (ho:RelL A S w old ov) (hn:RelL A S w new nv):
  ∃S',S' L.length=some (w.heap.size,0)∧Sim G A S' (L++[.cells (old++new) false]) (pushW {w with drawn:=w.drawn+1} (.cells (ov.toArray++nv.toArray++rest) e))∧
   Ext A S L w A S' (L++[.cells (old++new) false]) (pushW {w with drawn:=w.drawn+1} (.cells (ov.toArray++nv.toArray++rest) e)):=by
 have hr:=ho.app hn;obtain ⟨S',q1,q2,q3⟩:=newBig_ok (cs:=old++new) (c:=ov.toArray++nv.toArray++rest) hs.drew e (0,0) (fun _ _ h=>by simp at h)
  (by have:=hr.1;simp_all) (fun i x hi=>by
   obtain ⟨v,h1,h2⟩:=hr.2 i x hi;refine ⟨v,?_,hs.rel Ext.drew h2⟩
   grind)
 exact ⟨S',q1,q2,Ext.drew.trans q3⟩
theorem appendA_ok (hs:Sim G A S L w) {ats:Array TypeId} {ty:TypeId} {s x r:RV} {vs vx:Value} {L':List Ob} (h:builtinA P T .append ats ty [s,x] L=some (r,L')) (hv:RelR A S w s vs) (hx:RelR A S w x vx):
  ValOk P G A S L w (Builtin.append_ ats ty #[vs,vx]) r L':=by
 simp only [builtinA] at h;split at h
 ·rename_i e xd ha0 ha1;obtain ⟨t0,h0,hu0⟩:=Option.bind_eq_some_iff.1 ha0;obtain ⟨t1,h1,hu1⟩:=Option.bind_eq_some_iff.1 ha1;have hxd:∀k,xd≠.int k:=by intro k hk;subst hk;simp at h
  split at h
  ·simp at h
  ·split at h
   ·rename_i i zero hi hz;split at h
    ·rename_i m new hel;obtain ⟨hlen,hcl,nv,hnr,hfirst⟩:=elems_ok (P:=P) hs hel hx;have hlen':∀w':World,(Builtin.lenOf vx).run P w'= .ok m w':=lenOf_any hlen;have hnv:nv.take (m*i.size)=nv:=List.take_of_length_le (by have:=hnr.1;omega);have hfm:=hfirst m (Nat.le_refl _);rw [hnv] at hfm;obtain ⟨zv,hz1,hz2⟩:=zeroOf_rel (P:=P) hz;split at h
     ·rename_i hzl;have hzs:zv.cells.size=i.size:=by have:=(hz2 (A:=A) (S:=S) (w:=w)).1;simp at this;omega
      split at h
      ·
       cases hv;split at h
       ·rename_i hm;subst hm;simp at h;obtain ⟨rfl,rfl⟩:=h;exact ValOk.still hs (append_nil h0 h1 hu0 hu1 hxd hi hlen' (hfm w rfl)) (.vl _ rfl)
       ·rename_i hm;split at h
        ·rename_i hroom;simp only [Bool.and_eq_true,decide_eq_true_eq] at hroom;simp at h;obtain ⟨rfl,rfl⟩:=h;obtain ⟨ncap,rest,k1,k2,k3⟩:=append_grow (P:=P) (w:=w) (s:= .slice none 0 0) (ty:=ty) (old:=[]) (new:=nv) rfl h0 h1 hu0 hu1 hxd hi hz1 hlen' (by omega) (by simp_all)
          (fun w' _=>by rfl) hfm
         obtain ⟨S',q1,q2,q3⟩:=grow_sim hs (old:=[]) (new:=new) (ov:=[]) (nv:=nv) (rest:=rest) e RelL.nil hnr;rw [Nat.zero_add] at k3;refine ⟨_,_,A,S',k3,⟨w.heap.size,0,0,ncap,q1,rfl,by omega,fun _=>⟨by simp,_,e,(0,0),pushW_new _ _,?_⟩⟩,q2,q3⟩;have:=hnr.1;simp [k2,hzs,this,hcl];rw [← Nat.add_mul]
         simp_all
        ·simp at h
      ·rename_i b o n z';split at h
       ·rename_i cs hL;split at h
        ·rename_i old hold;split at h
         ·rename_i hroom;simp only [Bool.and_eq_true,decide_eq_true_eq] at hroom;obtain ⟨⟨rfl,hroom⟩,hzp⟩:=hroom;simp at h;obtain ⟨rfl,rfl⟩:=h;obtain ⟨B,d,q,cap,p1,rfl,p2,p3⟩:=hv;have hel2:elems L i.size (.v (.one (.lsl b o n i.size)))=some (n,old):=by simp [elems,hL,hold]
          obtain ⟨_,hol,ov,hor,hofirst⟩:=elems_ok (P:=P) hs hel2 (show RelR A S w (.v (.one (.lsl b o n i.size))) _ from ⟨B,d,q,cap,p1,rfl,p2,p3⟩);have hov:ov.take (n*i.size)=ov:=List.take_of_length_le (by have:=hor.1;omega);have hfo:=hofirst n (Nat.le_refl _);rw [hov] at hfo
          by_cases hfit:n+m≤cap
          ·obtain ⟨B',d',c,e',fr,h1',h2,h3,h4,h5,h6⟩:=hs.ob b _ hL;rw [p1] at h1';simp only [Option.some.injEq,Prod.mk.injEq] at h1';obtain ⟨rfl,rfl⟩:=h1'
           by_cases hcap0:0<cap
           ·obtain ⟨rfl,c0,e0,fr0,g1,g2⟩:=p3 hcap0;rw [h2] at g1;simp only [Option.some.injEq,Obj.cells.injEq] at g1;obtain ⟨rfl,rfl,rfl⟩:=g1;have hnl:=hnr.1;have hmul:(n+m)*i.size≤cap*i.size:=Nat.mul_le_mul_right _ hfit;rw [Nat.add_mul] at hmul;obtain ⟨c',k1,k2,k3⟩:=storeCells_run (P:=P) nv (d+o+n*i.size) 0 c w h2 (by omega) h4 hnr.singles;have hshape:∀c1 e1 fr1,Obj.cells c e' fr= .cells c1 e1 fr1→∃c2,Obj.cells c' e' fr= .cells c2 e1 fr1∧c2.size=c1.size:=by
             intro c1 e1 fr1 he;cases he;exact ⟨c',rfl,k2⟩
            have hx':Ext A S L w A (S.put L.length (B,d+o)) (L.set b .gone++[.cells (old++new) false]) (putW w B (.cells c' e' fr)):=Ext.regrow hs (d+o) hL rfl p1 h2 hshape;have hol2:=hor.1
            refine ⟨_,_,A,_,append_fits h0 h1 hu0 hu1 hxd hi hlen' hfit (hfm w rfl) k1,⟨B,d+o,d+o,cap,Where.put_same _ _ _,rfl,hfit,fun _=>⟨rfl,c',e',fr,putW_same w _ (not_lt_heap h2),by omega⟩⟩,
             hs.regrow (d+o) hL rfl p1 h2 hshape ?_,hx'⟩
            refine ⟨B,d+o,c',e',fr,Where.put_same _ _ _,putW_same w _ (not_lt_heap h2),by grind,by simp_all,fun hh=>by simp at hh,fun j y hj=> ?_⟩;rw [k3]
            by_cases hjo:j<old.length
            ·rw [List.getElem?_append_left hjo] at hj;rw [if_neg (by omega)];obtain ⟨u,r1,r2⟩:=h6 (o+j) y (part_get hold hj);exact ⟨u,by grind,hs.rel hx' r2⟩
            ·rw [List.getElem?_append_right (by omega)] at hj;obtain ⟨u,r1,r2⟩:=hnr.2 _ _ hj;have hjlt:=(List.getElem?_eq_some_iff.1 hj).1;rw [if_pos (by omega)];exact ⟨u,by grind,hs.rel hx' r2⟩
           ·have hn0:n=0:=by omega
            have hm0:m=0:=by omega
            subst hn0 hm0;have hnv0:nv=[]:=by have:=hnr.1;have:=hcl;simp at this;simp_all
            have hn0:new=[]:=by have:=hcl;simp at this;exact this
            have ho0:old=[]:=by have:=hol;simp at this;exact this
            subst hnv0 hn0 ho0;have hshape:∀c1 e1 fr1,Obj.cells c e' fr= .cells c1 e1 fr1→∃c2,Obj.cells c e' fr= .cells c2 e1 fr1∧c2.size=c1.size:=by
             intro c1 e1 fr1 he;cases he;exact ⟨c,rfl,rfl⟩
            have hid:=putW_id h2;have hx':Ext A S L w A (S.put L.length (B,d)) (L.set b .gone++[.cells ([]++[]) false]) (putW w B (.cells c e' fr)):=Ext.regrow hs d hL rfl p1 h2 hshape;have hsm:Sim G A (S.put L.length (B,d)) (L.set b .gone++[.cells ([]++[]) false]) (putW w B (.cells c e' fr)):=hs.regrow d hL rfl p1 h2 hshape
             ⟨B,d,c,e',fr,Where.put_same _ _ _,putW_same w _ (not_lt_heap h2),by simp;omega,h4,fun hh=>by simp at hh,fun j y hj=>by simp at hj⟩
            rw [hid] at hx' hsm;exact ⟨_,w,A,_,append_fits h0 h1 hu0 hu1 hxd hi hlen' hfit (hfm w rfl) (by rfl),⟨B,d,q,cap,Where.put_same _ _ _,rfl,hfit,fun h=>absurd h hcap0⟩,hsm,hx'⟩
          ·obtain ⟨ncap,rest,k1,k2,k3⟩:=append_grow (P:=P) (w:=w) (ty:=ty) (old:=ov) (new:=nv) rfl h0 h1 hu0 hu1 hxd hi hz1 hlen' (by omega) hroom
            hfo hfm
           have hd:=hs.drop b;obtain ⟨S',q1,q2,q3⟩:=grow_sim hd (old:=old) (new:=new) (ov:=ov) (nv:=nv) (rest:=rest) e hor hnr;refine ⟨_,_,A,S',k3,⟨w.heap.size,0,0,ncap,by simpa using q1,by simp,by omega,fun _=>⟨by simp,_,e,(0,0),pushW_new _ _,?_⟩⟩,q2,(Ext.drop b).trans q3⟩;have e1:=hnr.1;have e2:=hor.1;simp [k2,hzs,e1,e2,hcl,hol];rw [← Nat.add_mul,← Nat.add_mul]
           simp_all
         ·simp at h
        ·simp at h
       ·simp at h
      ·rename_i n cs;split at h
       ·rename_i hm;subst hm;simp at h;obtain ⟨rfl,rfl⟩:=h;have hnv0:nv=[]:=by have:=hnr.1;have:=hcl;simp at this;simp_all
        subst hnv0;cases hv with
        | sl _ _ B o cap vs hn hA hc he=>
        exact ValOk.still hs (append_fits h0 h1 hu0 hu1 hxd hi hlen' (by omega) (hfm w rfl) (by rfl)) (.sl n cs B o cap vs hn hA hc he)
       ·simp at h
      ·simp at h
     ·simp at h
    ·simp at h
   ·simp at h
 ·simp at h
end
end Go.Sx
namespace Go.Sx
section
variable {P:Program} {T:Tab} [TOk P T] {G:Globs} {A:Nat→Prop} {S:Where} {L:List Ob} {w:World}
theorem copy_ok (hs:Sim G A S L w) {ats:Array TypeId} {ty:TypeId} {d x r:RV} {vd vx:Value} {L':List Ob} (h:builtinA P T .copy ats ty [d,x] L=some (r,L')) (hd:RelR A S w d vd) (hx:RelR A S w x vx):
  ValOk P G A S L w (Builtin.copy_ ats ty #[vd,vx]) r L':=by
 simp only [builtinA] at h;split at h
 ·rename_i e ha0;obtain ⟨t0,h0,hu0⟩:=Option.bind_eq_some_iff.1 ha0;split at h
  ·rename_i i hi;split at h
   ·rename_i m new b o n z' hel;split at h
    ·rename_i hz;split at h
     ·rename_i hp' hw;simp at h;obtain ⟨rfl,rfl⟩:=h;obtain ⟨hlen,hcl,nv,hnr,hfirst⟩:=elems_ok (P:=P) hs hel hx;obtain ⟨B,dd,q,cap,p1,rfl,p2,p3⟩:=hd;have hf:=hfirst (min m n) (Nat.min_le_left _ _) w rfl;have hrt:=hnr.take (min m n*i.size);obtain ⟨B',o',w',e1,k1,k2,k3⟩:=writeC_ok (P:=P) (va:= .pointer (some ⟨B,dd+o,none⟩)) hs hw ⟨B,dd,p1,rfl⟩ hrt;simp at e1;obtain ⟨rfl,rfl⟩:=e1;have g0:(#[Value.slice (some ⟨B,q,none⟩) n cap,vx]:Array Value)[0]? =some (.slice (some ⟨B,q,none⟩) n cap):=rfl;have g1:(#[Value.slice (some ⟨B,q,none⟩) n cap,vx]:Array Value)[1]? =some vx:=rfl;refine ⟨.int .i64 ((min m n:Nat):Int),w',A,S,?_,.vl _ rfl,k2,k3⟩;unfold Builtin.copy_;have hmin:Nat.min m n=min m n:=rfl;simp only [h0,g0,g1,Sem.run_bind,run_und hu0,Result.andThen_ok,hlen,run_sz (show szOf T e=some i.size by simp [szOf,hi]),hmin,hf,goInt,Sem.run_pure]
      by_cases hc0:0<cap
      ·simp_all
      ·have:n=0:=by omega
       subst this;simp [storeCells] at k1 ⊢
       exact k1
     ·simp at h
    ·simp at h
   ·simp at h
  ·simp at h
 ·simp at h
theorem len_ok (hs:Sim G A S L w) {ats:Array TypeId} {ty:TypeId} {x r:RV} {vx:Value} {L':List Ob} (h:builtinA P T .len ats ty [x] L=some (r,L')) (hx:RelR A S w x vx):
  ValOk P G A S L w (Builtin.len_ ats ty #[vx]) r L':=by
 simp only [builtinA] at h;have g1:(#[vx]:Array Value)[0]? =some vx:=rfl;split at h
 ·rename_i e n cs ha0;obtain ⟨t0,h0,hu0⟩:=Option.bind_eq_some_iff.1 ha0;simp at h;obtain ⟨rfl,rfl⟩:=h;cases hx with
  | sl _ _ B o cap vs hn hA hc he=>
  refine ValOk.still hs (v:= .int .i64 n) ?_ (.vl _ rfl);simp [Builtin.len_,h0,run_und hu0,goInt]
 ·rename_i e b o n z ha0;obtain ⟨t0,h0,hu0⟩:=Option.bind_eq_some_iff.1 ha0;simp at h;obtain ⟨rfl,rfl⟩:=h;obtain ⟨B,dd,q,cap,p1,rfl,p2,p3⟩:=hx;refine ValOk.still hs (v:= .int .i64 n) ?_ (.vl _ rfl);simp [Builtin.len_,h0,run_und hu0,goInt]
 ·rename_i str ha0;obtain ⟨t0,h0,hu0⟩:=Option.bind_eq_some_iff.1 ha0;simp at h;obtain ⟨rfl,rfl⟩:=h;cases hx;refine ValOk.still hs (v:= .int .i64 str.size) ?_ (.vl _ rfl);simp [Builtin.len_,h0,run_und hu0,goInt]
 ·rename_i e e' b ha0;obtain ⟨t0,h0,hu0⟩:=Option.bind_eq_some_iff.1 ha0;split at h
  ·rename_i es hL;simp at h;obtain ⟨rfl,rfl⟩:=h;obtain ⟨B,d,p1,rfl⟩:=hx;obtain ⟨B',d',ents,clock,q1,q2,q3,q4⟩:=hs.ob b _ hL;rw [p1] at q1;simp only [Option.some.injEq,Prod.mk.injEq] at q1;obtain ⟨rfl,rfl⟩:=q1;refine ValOk.still hs (v:= .int .i64 es.length) ?_ (.vl _ rfl);simp [Builtin.len_,h0,run_und hu0,goInt,getObj,Sem.run,q2,q3]
  ·simp at h
 ·split at h
  ·rename_i u hu;simp only [Option.map_eq_some_iff] at h;obtain ⟨r',hr,he⟩:=h;simp at he;obtain ⟨rfl,rfl⟩:=he;rw [toVal_rel hu hx];exact pureR_ok hs hr
  ·simp at h
theorem minmax_ok (hs:Sim G A S L w) {b:Builtin} (hb:b= .min∨b= .max) {ats:Array TypeId} {ty:TypeId} {xs:List RV} {vs:List Value} {r:RV} {L':List Ob} (h:builtinA P T b ats ty xs L=some (r,L')) (hx:RelV A S w xs vs):
  ValOk P G A S L w (if b= .min then Builtin.min_ ats ty vs.toArray else Builtin.max_ ats ty vs.toArray) r L':=by
 rcases hb with rfl | rfl
 ·simp only [builtinA] at h;split at h
  ·rename_i us hu;simp only [Option.map_eq_some_iff] at h;obtain ⟨r',hr,he⟩:=h;simp at he;obtain ⟨rfl,rfl⟩:=he;rw [RelV.toVals hu hx];simp only [if_true];exact pureR_ok hs hr
  ·simp at h
 ·simp only [builtinA] at h;split at h
  ·rename_i us hu;simp only [Option.map_eq_some_iff] at h;obtain ⟨r',hr,he⟩:=h;simp at he;obtain ⟨rfl,rfl⟩:=he;rw [RelV.toVals hu hx];simp only [show ¬(Builtin.max=Builtin.min) by decide,if_false];exact pureR_ok hs hr
  ·simp at h
theorem bytesOf_rel:∀{cs:List LV} {vs:List Value} {l:List UInt8},bytesOf cs=some l→RelL A S w cs vs→∃ns:List Int,vs=ns.map (Value.int .u8)∧l=ns.map (fun n=>UInt8.ofNat n.toNat)
 | [],vs,l,h,hr=>by simp [bytesOf] at h;subst h;exact ⟨[],by simpa using hr.nil_inv,rfl⟩
 | x::cs,vs,l,h,hr=>by
  obtain ⟨v,vs',rfl,h1,h2⟩:=hr.uncons;unfold bytesOf at h;split at h
  ·simp_all
  ·rename_i n cs' heq;cases heq;simp only [Option.map_eq_some_iff] at h;obtain ⟨l',hl',rfl⟩:=h;obtain ⟨ns,rfl,rfl⟩:=bytesOf_rel hl' h2;cases h1;exact ⟨n::ns,by simp,by simp⟩
  ·simp at h
theorem foldl_push:∀(ns:List Int) (s:ByteArray),ns.foldl (fun r n=>r.push (UInt8.ofNat n.toNat)) s=⟨s.data++(ns.map (fun n=>UInt8.ofNat n.toNat)).toArray⟩
 | [],s=>by simp
 | n::ns,s=>by
  simp only [List.foldl_cons,foldl_push ns]
  simp_all
theorem convertA_ok (hs:Sim G A S L w) {s d:TypeId} {x r:RV} {v:Value} {L':List Ob} (h:convertA P T s d x L=some (r,L')) (hx:RelR A S w x v):
  ValOk P G A S L w (convert s d v) r L':=by
 unfold convertA at h;split at h
 ·rename_i str hv;rw [toVal_rel hv hx];split at h
  ·rename_i h1 h2;simp at h;obtain ⟨rfl,rfl⟩:=h;refine ValOk.still hs (v:= .string str) ?_ (by rw [← toVal_rel hv hx];exact hx);simp [convert,run_und h1,run_und h2]
  ·rename_i e h1 h2;split at h
   ·rename_i he;split at h
    ·rename_i hroom;simp at h;obtain ⟨rfl,rfl⟩:=h
     let cap:=str.size+w.tape w.drawn (.appendCap str.size 0 e)%(2^63 - str.size)
     let c:Array Value:=(str.data.map fun b=>Value.int .u8 b.toNat)++Array.replicate (cap - str.size) (.int .u8 0)
     have hcs:c.size=cap:=by
      have h1:str.data.size=str.size:=rfl;have h2:str.size≤cap:=Nat.le_add_right _ _;simp [c,h1];omega
     obtain ⟨S',q1,q2,q3⟩:=newBig_ok (cs:=ofBytes str) (c:=c) hs.drew e (c.size,c.size+1) (fun i hi h=>by omega) (by rw [hcs];simp [ofBytes];omega)
      (fun i y hi=>by
       obtain ⟨u,r1,r2⟩:=(ofBytes_rel (A:=A) (S:=S) (w:={w with drawn:=w.drawn+1}) str).2 i y hi
       grind)
     refine ⟨.slice (some ⟨w.heap.size,0,none⟩) str.size cap,pushW {w with drawn:=w.drawn+1} (.cells c e (c.size,c.size+1)),A,S',?_,⟨w.heap.size,0,0,cap,q1,rfl,Nat.le_add_right _ _,fun _=>⟨by simp,c,e,_,pushW_new _ _,by simp [hcs]⟩⟩,q2,Ext.drew.trans q3⟩;have hfz:(pushW {w with drawn:=w.drawn+1} (.cells c e)).freeze ⟨w.heap.size,c.size,none⟩ 1=pushW {w with drawn:=w.drawn+1} (.cells c e (c.size,c.size+1)):=by
      simp only [World.freeze,pushW,Nat.one_ne_zero,if_false]
      congr 1
      apply Array.ext
      ·simp
      ·grind
     have hshape:(pushW {w with drawn:=w.drawn+1} (.cells c e)).shape? w.heap.size=some (e,c.size):=by
      simp [World.shape?,pushW]
     have hsb:(Conv.stringToBytes e str).run P w= .ok (.slice (some ⟨w.heap.size,0,none⟩) str.size cap) (pushW {w with drawn:=w.drawn+1} (.cells c e (c.size,c.size+1))):=by
      unfold Conv.stringToBytes;have hms:(markStringish ⟨w.heap.size,0,none⟩).run P (pushW {w with drawn:=w.drawn+1} (.cells c e))= .ok () (pushW {w with drawn:=w.drawn+1} (.cells c e (c.size,c.size+1))):=by
       unfold markStringish;simp only [Sem.run_bind,run_shape,hshape,Result.andThen_ok,run_freeze,hfz]
      have hnr:(newRow e c).run P {w with drawn:=w.drawn+1}= .ok ⟨w.heap.size,0,none⟩ (pushW {w with drawn:=w.drawn+1} (.cells c e)):=by simp [newRow];rfl
      simp only [Sem.run_bind,run_choose,Question.forced,Bool.false_eq_true,if_false,Result.andThen_ok,Question.cut];show Result.andThen ((newRow e c).run P {w with drawn:=w.drawn+1}) _=_;rw [hnr,Result.andThen_ok,hms,Result.andThen_ok];rfl
     simp only [convert,Sem.run_bind,run_und h1,run_und h2,Result.andThen_ok,run_und he,hsb]
    ·simp at h
   ·simp at h
  ·simp at h
 ·rename_i u hu hv;split at h
  ·rename_i r' hr;simp at h;obtain ⟨rfl,rfl⟩:=h;rw [toVal_rel hv hx];exact pureR_ok hs hr
  ·simp at h
 ·rename_i hnone;split at h
  ·rename_i e h1 h2;split at h
   ·rename_i he;split at h
    ·rename_i m cs hel;split at h
     ·rename_i l hb;simp at h;obtain ⟨rfl,rfl⟩:=h;obtain ⟨hlen,hcl,nv,hnr,hfirst⟩:=elems_ok (P:=P) hs hel hx;obtain ⟨ns,rfl,rfl⟩:=bytesOf_rel hb hnr;have hf:=hfirst m (Nat.le_refl _) w rfl;have hl:(ns.map (Value.int .u8)).take (m*1)=ns.map (Value.int .u8):=List.take_of_length_le (by have:=hnr.1;omega);rw [hl] at hf;have hvf:∃a cap,v= .slice (some a) m cap:=by
       unfold elems at hel;split at hel
       ·simp [toVal,atomL] at hnone
       ·simp [toVal,atomL] at hnone
       ·simp only [Option.map_eq_some_iff] at hel;obtain ⟨l,hp,he⟩:=hel;simp at he;obtain ⟨rfl,rfl⟩:=he;cases hx;simp_all
       ·split at hel
        ·split at hel
         ·simp only [Option.map_eq_some_iff] at hel;obtain ⟨l,hp,he⟩:=hel;simp at he;obtain ⟨rfl,rfl⟩:=he;obtain ⟨B,dd,q,cap,p1,rfl,p2,p3⟩:=hx
          simp_all
         ·simp only [Option.map_eq_some_iff] at hel;obtain ⟨l,hp,he⟩:=hel;simp at he;obtain ⟨rfl,rfl⟩:=he;obtain ⟨B,dd,q,cap,p1,rfl,p2,p3⟩:=hx
          simp_all
         ·simp at hel
        ·simp at hel
       ·simp at hel
      obtain ⟨a,cap,rfl⟩:=hvf;simp only [Builtin.firstCells,Nat.mul_one] at hf;refine ValOk.still hs (v:= .string ⟨(ns.map fun (n:Int)=>UInt8.ofNat n.toNat).toArray⟩) ?_ (show RelR A S w (atR _) _ from EncP.vl _ rfl);rw [run_convert_bytes_string w s d e (some a) m cap (TOk.und _ _ h1) (TOk.und _ _ he) (TOk.und _ _ h2),run_bytesToString w a m cap ns hf,foldl_push]
      simp_all
     ·simp at h
    ·simp at h
   ·simp at h
  ·simp at h
theorem convQ_ok (hs:Sim G A S L w) {s d:TypeId} {x r:RV} {v:Value} {L':List Ob} (h:convQ P T s d x L=some (r,L')) (hx:RelR A S w x v):
  ValOk P G A S L w (convert s d v) r L':=by
 unfold convQ at h;split at h
 ·rename_i k0 n ds k h1 h2;simp at h;obtain ⟨rfl,rfl⟩:=h;cases hx;refine ValOk.still hs (v:= .int k (k.wrap n)) ?_ (.vl _ rfl);simp [convert,run_und h1,run_und h2,Conv.intToInt]
 ·exact convertA_ok hs h hx
theorem indexQ_ok (hs:Sim G A S L w) {t:TypeId} {x ix r:RV} {v vi:Value} {L':List Ob} (h:indexQ P T t x ix L=some (r,L')) (hx:RelR A S w x v) (hi:RelR A S w ix vi):
  ValOk P G A S L w (Instr.index t v vi) r L':=by
 unfold indexQ at h;split at h
 ·rename_i s k n h1;split at h
  ·rename_i i;split at h
   ·rename_i b hb;simp at h;obtain ⟨rfl,rfl⟩:=h;cases hx;cases hi;refine ValOk.still hs (v:= .int .u8 b.toNat) ?_ (.vl _ rfl);simp [Instr.index,asIntOf,run_und h1,hb]
   ·simp at h
  ·simp at h
 ·exact indexA_ok hs h hx hi
theorem sliceQ_ok (hs:Sim G A S L w) {t:TypeId} {x r:RV} {lo hi mx:Option RV} {v:Value} {vl vh vm:Option Value} {L':List Ob} (h:sliceQ P T t x lo hi mx L=some (r,L'))
  (hx:RelR A S w x v) (h1:∀x u,lo=some x→vl=some u→RelR A S w x u) (h1':lo.isSome=vl.isSome) (h2:∀x u,hi=some x→vh=some u→RelR A S w x u) (h2':hi.isSome=vh.isSome)
  (h3:∀x u,mx=some x→vm=some u→RelR A S w x u) (h3':mx.isSome=vm.isSome):
  ValOk P G A S L w (Instr.sliceAt t v vl vh vm) r L':=by
 unfold sliceQ at h;split at h
 ·rename_i s hu;have hvm:vm=none:=by simp_all
  subst hvm;split at h
  ·rename_i l' h' k1 k2;have q1:=optInt_rel k1 h1 h1';have q2:=optInt_rel k2 h2 h2';split at h
   ·rename_i l hh hb;simp at h;obtain ⟨rfl,rfl⟩:=h;cases hx;refine ValOk.still hs (v:= .string (s.extract l hh)) ?_ (.vl _ rfl);simp [Instr.sliceAt,Sem.run_bind,run_und hu,Result.andThen_ok,Instr.slice,sliceBounds_ok hb (Nat.le_refl _) q1 q2]
   ·simp at h
  ·simp at h
 ·exact sliceA_ok hs h hx h1 h1' h2 h2' h3 h3'
end
end Go.Sx
namespace Go.Sx
section
variable {P:Program} {T:Tab} [TOk P T] {G:Globs} {A:Nat→Prop} {S:Where} {L:List Ob} {w:World}
def RelM (A:Nat→Prop) (S:Where) (w:World) (es:List (Value×RW)) (ents:List MapEntry):Prop:=
 ents.length=es.length∧∀(i:Nat) k x,es[i]? =some (k,x)→∃e,ents[i]? =some e∧e.key=k∧RelW A S w x e.val
theorem RelM.uncons {k:Value} {x:RW} {es:List (Value×RW)} {ents:List MapEntry} (h:RelM A S w ((k,x)::es) ents):
  ∃e ents',ents=e::ents'∧e.key=k∧RelW A S w x e.val∧RelM A S w es ents':=by
 obtain ⟨hl,hc⟩:=h;cases ents with
 | nil=>simp at hl
 | cons e ents=>
  obtain ⟨e',h1,h2,h3⟩:=hc 0 k x rfl;simp at h1;subst h1;exact ⟨e,ents,rfl,h2,h3,by simpa using hl,fun i k x hi=>by obtain ⟨u,h1,h2⟩:=hc (i+1) k x (by simpa using hi);simp_all⟩
theorem sameNow_fits {kd:TypeDesc} {k k':Value} (h:keyFits kd k=true) (h':keyFits kd k'=true):Instr.sameNow kd k k'=some (Instr.sameBits 1 k k'):=by
 cases kd<;>cases k<;>simp [keyFits] at h<;>cases k'<;>simp [keyFits] at h'<;>simp_all [Instr.sameNow,Instr.sameBits]
theorem findNow_ok {kd:TypeDesc} {kv:Value} (hk:keyFits kd kv=true):∀{es:List (Value×RW)} {ents:List MapEntry} (i:Nat),es.all (fun e=>keyFits kd e.1)=true→RelM A S w es ents→
  (∃x,lookM kv es=some x∧∃(j:Nat) (e:MapEntry),ents[j]? =some e∧Instr.findNow kd kv ents i=some (some (i+j,e.val))∧RelW A S w x e.val∧Instr.sameBits 1 kv e.key=true∧(∀m,m<j→∃e',ents[m]? =some e'∧Instr.sameBits 1 kv e'.key=false))∨
  (lookM kv es=none∧Instr.findNow kd kv ents i=some none)
 | [],ents,i,ha,hr=>by
  right;have:ents=[]:=by have:=hr.1;simp_all
  subst this;exact ⟨rfl,rfl⟩
 | (k,x)::es,ents,i,ha,hr=>by
  obtain ⟨e,ents',rfl,hke,hx,hr'⟩:=hr.uncons;simp only [List.all_cons,Bool.and_eq_true] at ha;have hsn:=sameNow_fits hk ha.1;subst hke
  by_cases hb:Instr.sameBits 1 kv e.key=true
  ·left;refine ⟨x,by simp [lookM,hb],0,e,rfl,?_,hx,hb,fun m hm=>by omega⟩;simp [Instr.findNow,hsn,hb]
  ·have hb':Instr.sameBits 1 kv e.key=false:=by simpa using hb
   rcases findNow_ok hk (i+1) ha.2 hr' with ⟨y,h1,j,e',h2,h3,h4,h5,h6⟩ | ⟨h1,h2⟩
   ·left;refine ⟨y,by simp [lookM,hb',h1],j+1,e',by simpa using h2,?_,h4,h5,fun m hm=> ?_⟩
    ·simp only [Instr.findNow,hsn,hb']
     grind
    ·cases m with
     | zero=>simp_all
     | succ m=>simp_all
   ·right;exact ⟨by simp [lookM,hb',h1],by simp only [Instr.findNow,hsn,hb'];exact h2⟩
theorem checkKey_plain {kt:TypeId} {kd:TypeDesc} {kv:Value} (hu:T.und kt=some kd) (hk:keyFits kd kv=true) (b:Bool) (n:Nat):(Instr.checkKey b (n+1) kt kv).run P w= .ok () w:=by
 unfold keyFits at hk;split at hk
 ·simp [Instr.checkKey,run_und hu]
 ·simp [Instr.checkKey,run_und hu]
 ·simp [Instr.checkKey,run_und hu]
 ·simp at hk
theorem mapOf_ok (hs:Sim G A S L w) {x:RV} {v:Value} {es:List (Value×RW)} (h:mapOf x L=some es) (hx:RelR A S w x v):
  (v= .map none∧es=[])∨∃B ents clock,v= .map (some B)∧w.heap[B]? =some (.map ents clock)∧RelM A S w es ents.toList:=by
 unfold mapOf at h;split at h
 ·rename_i b;split at h
  ·rename_i es' hL;simp at h;subst h;obtain ⟨B,d,p1,rfl⟩:=hx;obtain ⟨B',d',ents,clock,q1,q2,q3,q4⟩:=hs.ob b _ hL;rw [p1] at q1;simp only [Option.some.injEq,Prod.mk.injEq] at q1;obtain ⟨rfl,rfl⟩:=q1;exact .inr ⟨B,ents,clock,rfl,q2,by simpa using q3,fun i k x hi=>by simp_all⟩
  ·simp at h
 ·simp at h;subst h;cases hx
  simp_all
 ·simp at h
theorem zeroR_rel {t:TypeId} {r:RV} (h:zeroR T t=some r):∃v,(∀w:World,(zeroValue t).run P w= .ok v w)∧RelR A S w r v:=by
 unfold zeroR at h;split at h
 ·rename_i i hi;split at h
  ·rename_i v hv;exact ⟨v,fun w=>by simp [zeroValue,run_info hi,hv],ofVal_rel h⟩
  ·simp at h
 ·simp at h
theorem lookupA_ok (hs:Sim G A S L w) {t:TypeId} {x k r:RV} {ok:Bool} {vx vk:Value} {L':List Ob} (h:lookupA T t x k ok L=some (r,L')) (hx:RelR A S w x vx) (hk:RelR A S w k vk):
  ValOk P G A S L w (Instr.lookup t vx vk ok) r L':=by
 unfold lookupA at h;split at h
 ·rename_i kt e kv es h1 h2 h3;split at h
  ·rename_i kd z h4 h5;split at h
   ·rename_i hf;simp only [Bool.and_eq_true] at hf;obtain ⟨hf1,hf2⟩:=hf;rw [toVal_rel h2 hk];obtain ⟨zv,hz1,hz2⟩:=zeroR_rel (P:=P) (A:=A) (S:=S) (w:=w) h5;have hck:∀b,(Instr.checkKey b 10000 kt kv).run P w= .ok () w:=fun b=>checkKey_plain h4 hf1 b 9999;have hent:∃ents:Array MapEntry,RelM A S w es ents.toList∧((vx= .map none∧ents=#[])∨∃B clock,vx= .map (some B)∧w.heap[B]? =some (.map ents clock)):=by
     rcases mapOf_ok hs h3 hx with ⟨rfl,rfl⟩ | ⟨B,ents,clock,rfl,q1,q2⟩
     ·exact ⟨#[],⟨rfl,fun i k x hi=>by simp at hi⟩,.inl ⟨rfl,rfl⟩⟩
     ·simp_all
    obtain ⟨ents,hre,hvx⟩:=hent;have hfk:∀r,Instr.findNow kd kv ents.toList 0=some r→(Instr.findKey kt kv ents.toList).run P w= .ok r w:=by
     intro r hr;unfold Instr.findKey;simp only [Sem.run_bind,run_und h4,Result.andThen_ok,hr,Sem.run_pure]
    have hmain:∀r,Instr.findNow kd kv ents.toList 0=some r→(Instr.lookup t vx kv ok).run P w= .ok (if ok then Value.tuple #[(match r with | some (_,v)=>v | none=>zv),.bool (match r with | some _=>true | none=>false)] else (match r with | some (_,v)=>v | none=>zv)) w:=by
     intro r hr
     rcases hvx with ⟨rfl,rfl⟩ | ⟨B,clock,rfl,q1⟩
     ·have:=hfk r hr;unfold Instr.lookup;simp only [Sem.run_bind,run_und h1,Result.andThen_ok,Sem.run_pure,hck];rw [this];cases r with
      | none=>simp [hz1]
      | some y=>simp
     ·have:=hfk r hr;unfold Instr.lookup;have hg:(getObj B).run P w= .ok (.map ents clock) w:=by simp [getObj,Sem.run,q1]
      simp only [Sem.run_bind,run_und h1,Result.andThen_ok,hg,Sem.run_pure,hck];rw [this];cases r with
      | none=>simp [hz1]
      | some y=>simp
    rcases findNow_ok (A:=A) (S:=S) (w:=w) hf1 0 hf2 hre with ⟨y,e1,j,en,e2,e3,e4,_⟩ | ⟨e1,e3⟩
    ·simp only [e1] at h;simp at h;obtain ⟨rfl,rfl⟩:=h;refine ValOk.still hs (v:=if ok then .tuple #[en.val,.bool true] else en.val) ?_ ?_
     ·rw [hmain _ e3]
     ·cases ok with
      | false=>exact e4
      | true=>
       simp only [if_true];refine ⟨_,rfl,rfl,fun i x hi=> ?_⟩
       match i,hi with
       | 0,hi=>simp_all
       | 1,hi=>simp at hi;subst hi;exact ⟨_,rfl,EncP.vl _ rfl⟩
       | i+2,hi=>simp at hi
    ·simp only [e1] at h
     ·simp at h;obtain ⟨rfl,rfl⟩:=h;have hzr:RelW A S w z zv:=hz2;refine ValOk.still hs (v:=if ok then .tuple #[zv,.bool false] else zv) ?_ ?_
      ·rw [hmain _ e3]
      ·cases ok with
       | false=>exact hzr
       | true=>
        simp only [if_true];refine ⟨_,rfl,rfl,fun i x hi=> ?_⟩
        match i,hi with
        | 0,hi=>simp_all
        | 1,hi=>simp at hi;subst hi;exact ⟨_,rfl,EncP.vl _ rfl⟩
        | i+2,hi=>simp at hi
   ·simp at h
  ·simp at h
 ·simp at h
theorem sameBits_eq {kd:TypeDesc} {k k':Value} (h:keyFits kd k=true) (h':keyFits kd k'=true) (he:Instr.sameBits 1 k k'=true):k'=k:=by
 cases kd<;>cases k<;>simp [keyFits] at h<;>cases k'<;>simp [keyFits] at h'<;>simp_all [Instr.sameBits,ba_beq]
theorem sameBits_refl {kd:TypeDesc} {k:Value} (h:keyFits kd k=true) (n:Nat):Instr.sameBits n k k=true:=by
 cases kd<;>cases k<;>simp [keyFits] at h<;>cases n<;>simp [Instr.sameBits,ba_beq]
theorem putM_hit {kv:Value} {x y:RW}:∀{es:List (Value×RW)} {j:Nat},lookM kv es=some y→(∀m,m<j→∃e,es[m]? =some e∧Instr.sameBits 1 kv e.1=false)→(∃e,es[j]? =some e∧Instr.sameBits 1 kv e.1=true)→putM kv x es=es.set j (kv,x)
 | [],j,h,_,_=>by simp_all
 | (k,v)::es,0,h,_,h2=>by
  obtain ⟨e,he,hb⟩:=h2;simp at he;subst he;simp only at hb;simp [putM,hb]
 | (k,v)::es,j+1,h,h1,h2=>by
  obtain ⟨e,he,hb⟩:=h1 0 (by omega);simp at he;subst he;simp only at hb;simp [lookM,hb] at h;simp only [putM,hb,Bool.false_eq_true,if_false,List.set_cons_succ];rw [putM_hit (j:=j) h (fun m hm=>by grind) (by simp_all)]
theorem putM_miss {kv:Value} {x:RW}:∀{es:List (Value×RW)},lookM kv es=none→putM kv x es=es++[(kv,x)]
 | [],h=>rfl
 | (k,v)::es,h=>by
  by_cases hb:Instr.sameBits 1 kv k=true
  ·simp [lookM,hb] at h
  ·have hb':Instr.sameBits 1 kv k=false:=by simpa using hb
   simp [lookM,hb'] at h;simp [putM,hb',putM_miss h]
theorem mapPutA_ok (hs:Sim G A S L w) {t:TypeId} {m k x r:RV} {vm vk vx:Value} {L':List Ob} (h:mapPutA T t m k x L=some (r,L')) (hm:RelR A S w m vm) (hk:RelR A S w k vk) (hx:RelR A S w x vx):
  r=undefR∧UnitOk P G A S L w (Instr.mapUpdate t vm vk vx) L':=by
 unfold mapPutA at h;split at h
 ·rename_i kt e b kv x h1 h2;split at h
  ·rename_i kd es h3 hL;split at h
   ·rename_i hf;simp only [Bool.and_eq_true] at hf;obtain ⟨hf1,hf2⟩:=hf;simp at h;obtain ⟨rfl,rfl⟩:=h;refine ⟨rfl,?_⟩;rw [toVal_rel h2 hk];obtain ⟨B,d,p1,rfl⟩:=hm;obtain ⟨B',d',ents,clock,q1,q2,q3,q4⟩:=hs.ob b _ hL;rw [p1] at q1;simp only [Option.some.injEq,Prod.mk.injEq] at q1;obtain ⟨rfl,rfl⟩:=q1;have hre:RelM A S w es ents.toList:=⟨by simpa using q3,fun i k x hi=>by simp_all⟩
    have hck:(Instr.checkKey false 10000 kt kv).run P w= .ok () w:=checkKey_plain h3 hf1 false 9999;have hg:(getObj B).run P w= .ok (.map ents clock) w:=by simp [getObj,Sem.run,q2]
    have hset:∀o:Obj,(setObj B o).run P w= .ok () (putW w B o):=by intro o;simp [setObj,Sem.run,q2];rfl
    have hfk:∀r,Instr.findNow kd kv ents.toList 0=some r→(Instr.findKey kt kv ents.toList).run P w= .ok r w:=by
     intro r hr;unfold Instr.findKey;simp only [Sem.run_bind,run_und h3,Result.andThen_ok,hr,Sem.run_pure]
    have fin:∀(ents':Array MapEntry) (clock':Nat),ents'.size=(putM kv x es).length→(∀(i:Nat) k y,(putM kv x es)[i]? =some (k,y)→∃e,ents'[i]? =some e∧e.key=k∧RelW A S w y e.val)→
      (Instr.mapUpdate t (.map (some B)) kv vx).run P w= .ok () (putW w B (.map ents' clock'))→UnitOk P G A S L w (Instr.mapUpdate t (.map (some B)) kv vx) (L.set b (.map (putM kv x es))):=by
     intro ents' clock' e1 e2 e3;have hshape:∀c1 e1 fr1,Obj.map ents clock= .cells c1 e1 fr1→∃c2,Obj.map ents' clock'= .cells c2 e1 fr1∧c2.size=c1.size:=by intro c1 e1 fr1 he;cases he
     have hx':Ext A S L w A S (L.set b (.map (putM kv x es))) (putW w B (.map ents' clock')):=Ext.write hs hL rfl p1 q2 hshape;refine ⟨_,A,S,e3,hs.write hL rfl p1 q2 hshape rfl ?_,hx'⟩;refine ⟨B,d,ents',clock',p1,putW_same w _ (not_lt_heap q2),e1,fun i k y hi=> ?_⟩;obtain ⟨e,r1,r2,r3⟩:=e2 i k y hi;exact ⟨e,r1,r2,hs.relW hx' r3⟩
    rcases findNow_ok (A:=A) (S:=S) (w:=w) hf1 0 hf2 hre with ⟨y,e1,j,en,e2,e3,e4,e5,e6⟩ | ⟨e1,e3⟩
    ·have hjlt:j<es.length:=by have:=(List.getElem?_eq_some_iff.1 e2).1;simp at this;omega
     have hkey:en.key=kv:=by
      obtain ⟨e',r1,r2,_⟩:=hre.2 j es[j].1 es[j].2 (by simp_all);rw [e2] at r1;simp at r1;subst r1;have hfit:keyFits kd en.key=true:=by
       rw [r2];exact List.all_eq_true.1 hf2 es[j] (List.getElem_mem hjlt)
      exact sameBits_eq hf1 hfit e5
     have hput:putM kv x es=es.set j (kv,x):=by
      refine putM_hit e1 (fun m hm=> ?_) ?_
      ·obtain ⟨e',r1,r2⟩:=e6 m hm;have hmlt:m<es.length:=by omega
       obtain ⟨e'',s1,s2,_⟩:=hre.2 m es[m].1 es[m].2 (by simp_all)
       simp_all
      ·obtain ⟨e'',s1,s2,_⟩:=hre.2 j es[j].1 es[j].2 (by simp_all)
       simp_all
     have hee:ents[j]? =some en:=by simpa using e2
     have hks:(Instr.keyThatStays (((ents[j]?).map (·.key)).getD kv) kv).run P w= .ok kv w:=by
      simp [hee,hkey,Instr.keyThatStays,sameBits_refl hf1]
     refine fin (ents.modify j fun e=>{e with key:=kv,val:=vx}) clock (by simp [hput,q3]) ?_ ?_
     ·intro i k' y' hi;rw [hput] at hi
      by_cases hij:i=j
      ·subst hij;rw [List.getElem?_set_self hjlt] at hi;simp at hi;obtain ⟨rfl,rfl⟩:=hi;exact ⟨{en with key:=kv,val:=vx},by grind,rfl,hx⟩
      grind
     ·unfold Instr.mapUpdate;simp only [Sem.run_bind,run_und h1,Result.andThen_ok,hg,hck,hfk _ e3,Nat.zero_add,hks,hset]
    ·refine fin (ents.push {key:=kv,val:=vx,born:=clock}) (clock+1) (by simp [putM_miss e1,q3]) ?_ ?_
     ·intro i k' y' hi;rw [putM_miss e1] at hi
      rcases getElem?_app _ _ _ _ hi with ⟨g1,g2⟩ | ⟨g1,g2⟩
      ·grind
      ·simp at g2;obtain ⟨rfl,rfl⟩:=g2;exact ⟨{key:=k',val:=vx,born:=clock},by grind,rfl,hx⟩
     ·unfold Instr.mapUpdate;simp only [Sem.run_bind,run_und h1,Result.andThen_ok,hg,hck,hfk _ e3,hset]
   ·simp at h
  ·simp at h
 ·simp at h
theorem makeMap_ok (hs:Sim G A S L w) (t:TypeId):ValOk P G A S L w (Instr.makeMap t none) (.v (.one (.map L.length))) (L++[.map []]):=by
 refine ⟨.map (some w.heap.size),pushW w (.map #[] 0),A,S.put L.length (w.heap.size,0),by rfl,⟨w.heap.size,0,Where.put_same _ _ _,rfl⟩,hs.push _ _ 0 ?_,Ext.push hs _ _ 0⟩;exact ⟨w.heap.size,0,#[],0,Where.put_same _ _ _,pushW_new w _,rfl,fun i k x hi=>by simp at hi⟩
theorem range_ok (hs:Sim G A S L w) {t:TypeId} {s:ByteArray} (hu:T.und t=some .string):ValOk P G A S L w (Instr.range t (.string s)) (.v (.one (.ref L.length 0))) (L++[.iter s 0]):=by
 refine ⟨.pointer (some ⟨w.heap.size,0,none⟩),pushW w (.stringIter s 0),A,S.put L.length (w.heap.size,0),by simp [Instr.range,run_und hu];rfl,⟨w.heap.size,0,Where.put_same _ _ _,rfl⟩,hs.push _ _ 0 ?_,Ext.push hs _ _ 0⟩;exact ⟨w.heap.size,Where.put_same _ _ _,pushW_new w _⟩
theorem nextA_ok (hs:Sim G A S L w) {it r:RV} {v:Value} {ty:TypeId} {L':List Ob} (h:nextA it L=some (r,L')) (hi:RelR A S w it v):ValOk P G A S L w (Instr.next v true ty) r L':=by
 unfold nextA at h;split at h
 ·rename_i b;split at h
  ·rename_i s pos hL;obtain ⟨B,d,p1,rfl⟩:=hi;obtain ⟨B',q1,q2⟩:=hs.ob b _ hL;rw [p1] at q1;simp only [Option.some.injEq,Prod.mk.injEq] at q1;obtain ⟨rfl,rfl⟩:=q1;have hg:(getObj B).run P w= .ok (.stringIter s pos) w:=by simp [getObj,Sem.run,q2]
   split at h
   ·rename_i hlt;simp at h;obtain ⟨rfl,rfl⟩:=h;have hset:∀o:Obj,(setObj B o).run P w= .ok () (putW w B o):=by intro o;simp [setObj,Sem.run,q2];rfl
    have hshape:∀c1 e1 fr1,Obj.stringIter s pos= .cells c1 e1 fr1→∃c2,Obj.stringIter s (pos+(Utf8.decode s pos).2)= .cells c2 e1 fr1∧c2.size=c1.size:=by intro c1 e1 fr1 he;cases he
    have hx':Ext A S L w A S (L.set b (.iter s (pos+(Utf8.decode s pos).2))) (putW w B (.stringIter s (pos+(Utf8.decode s pos).2))):=Ext.write hs hL rfl p1 q2 hshape;refine ⟨.tuple #[.bool true,goInt pos,.int .i32 (Utf8.decode s pos).1],_,A,S,?_,?_,hs.write hL rfl p1 q2 hshape rfl ⟨B,p1,putW_same w _ (not_lt_heap q2)⟩,hx'⟩
    ·simp [Instr.next,hg,hlt,hset]
    ·refine ⟨_,rfl,rfl,fun i x hi=> ?_⟩
     match i,hi with
     | 0,hi=>simp at hi;subst hi;exact ⟨_,rfl,EncP.vl _ rfl⟩
     | 1,hi=>simp at hi;subst hi;exact ⟨_,rfl,EncP.vl _ rfl⟩
     | 2,hi=>simp at hi;subst hi;exact ⟨_,rfl,EncP.vl _ rfl⟩
     | i+3,hi=>simp at hi
   ·rename_i hlt;simp at h;obtain ⟨rfl,rfl⟩:=h;refine ValOk.still hs (v:= .tuple #[.bool false]) ?_ ?_
    ·simp [Instr.next,hg,hlt]
    ·refine ⟨_,rfl,rfl,fun i x hi=> ?_⟩
     match i,hi with
     | 0,hi=>simp at hi;subst hi;exact ⟨_,rfl,EncP.vl _ rfl⟩
     | i+1,hi=>simp at hi
  ·simp at h
 ·simp at h
end
end Go.Sx
