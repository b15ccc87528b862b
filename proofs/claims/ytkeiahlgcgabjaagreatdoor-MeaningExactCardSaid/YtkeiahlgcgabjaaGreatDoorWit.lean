/- A world that fits the row of MeaningExact: the listed variables hold what their initialisers lay. -/
import Derived.Test.YtkeiahlgcgabjaaGreatDoorRows
import Derived.Deep.DeepHandedRow
import Derived.Deep.DeepWitnessRowRef
import Derived.Lib.LaidTab
import Derived.Lib.LaidCaseMet
import Derived.PinnedBridge
set_option maxRecDepth 1000000
namespace Go.Proofs.YtkeiahlgcgabjaaGreatDoor
open Go Go.Lib
def cellsD:Nat→DataW Unit→List Value
 | _+1,.lit (.int k z)=>[.int k z]
 | _+1,.lit (.string l)=>[.string ⟨⟨l⟩⟩]
 | n+1,.agg l=>l.flatMap (cellsD n)
 | n+1,.iface _ d=>cellsD n d
 | n+1,.ptr d=>cellsD n d
 | _,_=>[]
noncomputable def laidWorld (os:Os):World:=
 let N:=(World.settled Tryz.prog os).heap.size
 let w0:=World.holding Tryz.prog os ⟨#[.cells caseCells5 510,.cells (cellsD 5 Rows.laid_strconv_ErrSyntax).toArray 515,.cells (cellsD 5 Rows.laid_strconv_ErrRange).toArray 515],#[],[]⟩
 let put (h:Array Obj) (g:Nat) (cs:List Value):Array Obj:=h.modify g fun
  | .cells _ t frozen=> .cells cs.toArray t frozen
  | o=>o
 let h:=put (put (put (put w0.heap 1 (cellsD 5 Rows.laid_concord_decimal_tens)) 4 (cellsD 5 Rows.laid_concord_interval_tens)) 6 (cellsD 5 Rows.laid_concord_date_lengths)) 7 (cellsD 5 Rows.laid_unicode_utf8_first)
 let h:=put (put (put (put h 8 (cellsD 5 Rows.laid_unicode_utf8_acceptRanges)) 9 (cellsD 5 Rows.laid_internal_strconv_uint64pow10)) 12 (cellsD 5 Rows.laid_math_bits_deBruijn32tab)) 13 (cellsD 5 Rows.laid_math_bits_deBruijn64tab)
 let h:=put (put (put h 5 [.slice (some ⟨N,0,none⟩) 336 336]) 10 [.iface 513 (.pointer (some ⟨N+1,0,none⟩))]) 11 [.iface 513 (.pointer (some ⟨N+2,0,none⟩))]
 {w0 with heap:=h}
noncomputable def lw (os:Os):World:=((laidWorld os).forCall (fun _ _=>0) ⟨#[],#[.slice none 0 0],[]⟩).memory
noncomputable def LA:List (String×DataW Unit):=Rows.meaningExactRow.laid.take 6
noncomputable def LB:List (String×DataW Unit):=Rows.meaningExactRow.laid.drop 7
theorem myRow_reads {w:World} (x:CaseRow) (hw:rowWf x=true):DataW.trod (fun _=>()) Tryz.prog w 0 (fun _=>true) false 3 510 (cells5 x)=some (rowData x,[]):=by
 simp only [rowWf,Bool.and_eq_true] at hw;obtain ⟨⟨⟨⟨w0,w1⟩,w2⟩,w3⟩,w4⟩:=hw;have r3:List.range 3=[0,1,2]:=rfl;have c510:Tryz.prog.cellsOf 510=5:=by kernel_rfl
 have c320:Tryz.prog.cellsOf 320=1:=by kernel_rfl
 have c508:Tryz.prog.cellsOf 508=3:=by kernel_rfl
 have c21:Tryz.prog.cellsOf 21=1:=by kernel_rfl
 simp [DataW.trod,Tryz.underlying510,Tryz.underlying320,Tryz.underlying508,Tryz.underlying21,c510,c320,c508,c21,cells5,rowData,w0,w1,w2,w3,w4,r3]
theorem case_reads {w:World} {R:Nat} (hT:CaseTab R 0 caseA w):
  DataW.trod (fun _=>()) Tryz.prog w 0 (fun _=>true) false 4 454 [.slice (some ⟨R,0,none⟩) caseA.size caseA.size]=some (caseData,MemPlace.row ⟨R,0,none⟩ (caseA.size*5)):=by
 have helem:∀i∈List.range caseA.size,(w.cells? 0 ((⟨R,0,none⟩:Addr).add (i*5)) 5).bind (DataW.trod (fun _=>()) Tryz.prog w 0 (fun _=>true) false 3 510)=some ((fun i=>((rowData (caseA.getD i (0,0,0,0,0)):DataW Unit),([]:List MemPlace))) i):=by
  intro i hi;have hi':=List.mem_range.1 hi;rw [case_cells5 hT i hi'];exact myRow_reads _ (caseA_wf i hi')
 have c510:Tryz.prog.cellsOf 510=5:=by kernel_rfl
 have hs:caseA.size≤maxLen:=by rw [caseA_size];unfold maxLen;omega
 unfold DataW.trod;simp only [Tryz.underlying454,c510];rw [if_pos ⟨Nat.zero_le _,Nat.le_refl _,hs⟩,mapM_some _ _ _ helem];have h2:=case_rows_data;simp [Function.comp_def,caseData] at h2 ⊢
 exact h2
theorem run_A (os:Os):(DataW.laidRun Tryz.prog (lw os) 8 (LA.map (·.1))).map (·.1)=some LA:=by kernel_rfl
theorem run_B (os:Os):(DataW.laidRun Tryz.prog (lw os) 8 (LB.map (·.1))).map (·.1)=some LB:=by kernel_rfl
noncomputable def placesAB (os:Os):Option (List MemPlace):=match DataW.laidRun Tryz.prog (lw os) 8 (LA.map (·.1)),DataW.laidRun Tryz.prog (lw os) 8 (LB.map (·.1)) with
 | some a,some b=>some (a.2++b.2)
 | _,_=>none
theorem nd_AB (os:Os):(placesAB os).map (fun l=>nodupB (l.map MemPlace.codeOf))=some true:=by kernel_rfl
theorem rows_AB (os:Os):(placesAB os).map (fun l=>laidRowsB Tryz.prog (lw os) l)=some true:=by kernel_rfl
theorem off_AB (os:Os):(placesAB os).map (fun l=>l.all fun p=>p.block !=5 && p.block !=(World.settled Tryz.prog os).heap.size)=some true:=by kernel_rfl
theorem var5 (os:Os):(lw os).heap[5]? =some (.cells #[.slice (some ⟨(World.settled Tryz.prog os).heap.size,0,none⟩) caseA.size caseA.size] 454 (0,0)):=by kernel_rfl
theorem blk (os:Os):(lw os).heap[(World.settled Tryz.prog os).heap.size]? =some (.cells caseCells5 510 (0,0)):=by kernel_rfl
theorem n5 (os:Os):Nat.beq 5 (World.settled Tryz.prog os).heap.size=false:=by kernel_rfl
theorem case_noface {w:World} {R:Nat} {T:Array CaseRow} (hT:CaseTab R 0 T w) {i:Nat} (hi:i<T.size*5) {u:TypeId} {v:Value} (hc:w.cell? ⟨R,0+i,none⟩=some (.iface u v)):False:=by
 obtain ⟨c0,c1,c2,c3,c4⟩:=hT (i /5) (by omega);have hi5:0+i=0+i /5*5+i%5:=by omega
 rw [hi5] at hc;have hm:i%5<5:=Nat.mod_lt _ (by omega)
 match hk:i%5,hm with
 | 0,_=>rw [hk,Nat.add_zero,c0] at hc;cases hc
 | 1,_=>rw [hk,c1] at hc;cases hc
 | 2,_=>rw [hk,c2] at hc;cases hc
 | 3,_=>rw [hk,c3] at hc;cases hc
 | 4,_=>rw [hk,c4] at hc;cases hc
theorem met_of {P:Program} {w:World} {g R:Nat} {T:Array CaseRow} {nm:String} {cd:DataW Unit} {lA lB:List (String×DataW Unit)} {pA pB:List MemPlace} {a:Option Addr} {n m:Nat} {t t':TypeId} {C:Array Value}
  (vA:DataW.LaidVars P w lA pA) (vB:DataW.LaidVars P w lB pB) (hC:DataW.LaidVars P w [(nm,cd)] (MemPlace.row ⟨g,0,none⟩ 1++MemPlace.row ⟨R,0,none⟩ (T.size*5)))
  (hnd2:(pA++pB).Nodup) (hrw:laidRowsB P w (pA++pB)=true) (hblocks:∀p∈pA++pB,p.block≠g∧p.block≠R) (hn5:g≠R)
  (hvar:w.heap[g]? =some (.cells #[.slice a n m] t (0,0))) (hblk:w.heap[R]? =some (.cells C t' (0,0))) (hT:CaseTab R 0 T w):laidMet P (lA++([(nm,cd)]++lB)) w:=by
 have hCb:∀p∈MemPlace.row ⟨g,0,none⟩ 1++MemPlace.row ⟨R,0,none⟩ (T.size*5),p.block=g∨p.block=R:=fun p hp=>by
  rcases List.mem_append.1 hp with hp | hp
  ·obtain ⟨i,_,rfl⟩:=MemPlace.mem_row.1 hp;exact .inl rfl
  ·obtain ⟨i,_,rfl⟩:=MemPlace.mem_row.1 hp;exact .inr rfl
 have hCn:(MemPlace.row ⟨g,0,none⟩ 1++MemPlace.row ⟨R,0,none⟩ (T.size*5)).Nodup:=by
  refine List.nodup_append.2 ⟨row_nodup _ _,row_nodup _ _,?_⟩;intro a ha b hb e;obtain ⟨i,_,rfl⟩:=MemPlace.mem_row.1 ha;obtain ⟨j,_,rfl⟩:=MemPlace.mem_row.1 hb;simp at e;exact hn5 e.1
 obtain ⟨nA,nB,dAB⟩:=List.nodup_append.1 hnd2;refine ⟨_,LaidVars_append vA (LaidVars_append hC vB),?_,fun b off hp=> ?_⟩
 ·refine List.nodup_append.2 ⟨nA,List.nodup_append.2 ⟨hCn,nB,?_⟩,?_⟩
  ·intro a ha b hb e;subst e;obtain ⟨h1,h2⟩:=hblocks a (List.mem_append.2 (.inr hb))
   rcases hCb a ha with h | h
   ·exact h1 h
   ·exact h2 h
  ·intro a ha b hb e;subst e
   rcases List.mem_append.1 hb with hb | hb
   ·obtain ⟨h1,h2⟩:=hblocks a (List.mem_append.2 (.inl ha))
    rcases hCb a hb with h | h
    ·exact h1 h
    ·exact h2 h
   ·exact dAB a ha a hb rfl
 ·have hrow:MemPlace.cell b off∈pA++pB∨MemPlace.cell b off∈MemPlace.row ⟨g,0,none⟩ 1++MemPlace.row ⟨R,0,none⟩ (T.size*5):=by
   rcases List.mem_append.1 hp with hp | hp
   ·exact .inl (List.mem_append.2 (.inl hp))
   ·rcases List.mem_append.1 hp with hp | hp
    ·exact .inr hp
    ·exact .inl (List.mem_append.2 (.inr hp))
  rcases hrow with hp | hp
  ·have:=List.all_eq_true.1 hrw _ hp;simp only [Bool.and_eq_true] at this;obtain ⟨h1,h2⟩:=this;refine ⟨?_,fun u v hc=> ?_⟩
   ·split at h1
    ·rename_i c t' hh;exact ⟨c,t',hh⟩
    ·cases h1
   ·rw [hc] at h2;exact Value.okWide_of_okWideB h2
  ·rcases List.mem_append.1 hp with hp | hp
   ·obtain ⟨i,hi,e⟩:=MemPlace.mem_row.1 hp;cases e;refine ⟨⟨_,_,hvar⟩,fun u v hc=> ?_⟩;obtain rfl:i=0:=Nat.lt_one_iff.1 hi;rw [Lib.cell_of_heap hvar] at hc;simp at hc
   ·obtain ⟨i,hi,e⟩:=MemPlace.mem_row.1 hp;cases e;refine ⟨⟨_,_,hblk⟩,fun u v hc=> ?_⟩;exact (case_noface hT hi hc).elim
theorem gCase:Tryz.prog.globalNamed "unicode.CaseRanges" =some 5:=by kernel_rfl
theorem yCase:(Tryz.prog.globals[5]?).map (·.type)=some 454:=by kernel_rfl
theorem laid_met0 (os:Os):laidMet Tryz.prog (LA++([("unicode.CaseRanges",caseData)]++LB)) (lw os):=by
 have hA:=run_A os;have hB:=run_B os;have hnd:=nd_AB os;have hrw:=rows_AB os;have hof:=off_AB os;unfold placesAB at hnd hrw hof;cases hxA:DataW.laidRun Tryz.prog (lw os) 8 (LA.map (·.1)) with
 | none=>rw [hxA] at hA;cases hA
 | some xA=>
  cases hxB:DataW.laidRun Tryz.prog (lw os) 8 (LB.map (·.1)) with
  | none=>rw [hxB] at hB;cases hB
  | some xB=>
   obtain ⟨a1,pA⟩:=xA;obtain ⟨b1,pB⟩:=xB;rw [hxA] at hA;rw [hxB] at hB;rw [hxA,hxB] at hnd hrw hof;simp only [Option.map_some,Option.some.injEq] at hA hB hnd hrw hof;subst hA;subst hB;have hn5:(5:Nat)≠(World.settled Tryz.prog os).heap.size:=Nat.ne_of_beq_eq_false (n5 os);have hblk:=blk os;have hvar:=var5 os;have vA:=DataW.LaidVars_of_laidRun hxA;have vB:=DataW.LaidVars_of_laidRun hxB;generalize (World.settled Tryz.prog os).heap.size=R at hof hn5 hblk hvar;generalize lw os=w at*;have hT:=caseTab_of_block hblk;have hv:w.var? Tryz.prog "unicode.CaseRanges" =some #[.slice (some ⟨R,0,none⟩) caseA.size caseA.size]:=by simp [World.var?,gCase,hvar]
   have hC:DataW.LaidVars Tryz.prog w [("unicode.CaseRanges",caseData)] (MemPlace.row ⟨5,0,none⟩ 1++MemPlace.row ⟨R,0,none⟩ (caseA.size*5)++[]):=
    ⟨5,454,_,_,_,[],gCase,yCase,hv,case_reads hT,rfl,rfl⟩
   have hblocks:∀p∈pA++pB,p.block≠5∧p.block≠R:=fun p hp=>by
    have:=List.all_eq_true.1 hof p hp
    simpa using this
   rw [List.append_nil] at hC;exact met_of vA vB hC (nodup_of_code hnd) hrw hblocks hn5 hvar hblk hT
theorem laid_met (os:Os):laidMet Tryz.prog Rows.meaningExactRow.laid (lw os):=by
 have h:Rows.meaningExactRow.laid=LA++([("unicode.CaseRanges",caseData)]++LB):=by
  rw [← Pinned.caseRanges_eq]
  kernel_rfl
 rw [h];exact laid_met0 os
theorem varsOk (os:Os):((laidWorld os).forCall (fun _ _=>0) ⟨#[],#[.slice none 0 0],[]⟩).variablesRefB Tryz.prog=true:=by kernel_rfl
theorem heapOk (os:Os):(((laidWorld os).forCall (fun _ _=>0) ⟨#[],#[.slice none 0 0],[]⟩).heap.toList.drop Tryz.prog.globals.size).take ((begin Tryz.prog (fun _ _=>0) default).world.heap.size - Tryz.prog.globals.size)=
   (begin Tryz.prog (fun _ _=>0) default).world.heap.toList.drop Tryz.prog.globals.size:=by kernel_rfl
theorem inputOk (os:Os):Input.okWideB Tryz.prog ((laidWorld os).forCall (fun _ _=>0) ⟨#[],#[.slice none 0 0],[]⟩) 3 ⟨#[],#[.slice none 0 0],[]⟩=true:=by kernel_rfl
end Go.Proofs.YtkeiahlgcgabjaaGreatDoor
