/- MeaningExact returns true for every list of numbers, whatever MaxLen is, and the list reads behind the call as it read before (the package variables that the row lists hold what their initialisers lay). -/
import Derived.Test.YtkeiahlgcgabjaaGreatDoorCards
import Derived.Test.YtkeiahlgcgabjaaGreatDoorTieC
import Derived.Test.YtkeiahlgcgabjaaGreatDoorWit
import Derived.Test.YtkeiahlgcgabjaaGreatDoorClo
import Derived.Test.YtkeiahlgcgabjaaGreatDoorJa
import Derived.Test.YtkeiahlgcgabjaaGreatDoorJb
import Derived.ProofKit
import Derived.OpenShut
import Derived.Deep.DeepHandedRow
set_option maxRecDepth 100000
set_option linter.all false
namespace Go.Proofs.YtkeiahlgcgabjaaGreatDoor
open Go Go.ChangeShapes Go.WideShapes Go.ChangeAt Go.RowKit Go.Sx.E1
theorem own:ownKnob Tryz.prog.godebug=none:=by kernel_rfl
theorem laidIs {W:World} (h:laidMetH Tryz.prog Rows.meaningExactRow.laid W):∃ps,DataW.LaidVars Tryz.prog W Rows.meaningExactRow.laid ps:=by
 have e:(Rows.meaningExactRow.laid.filter fun x=>x.2.handleName?.isSome)=[]:=by kernel_rfl
 unfold laidMetH at h;rw [e] at h;obtain ⟨ps,hp,_⟩:=h;exact ⟨ps,hp⟩
theorem contract (H:Type) (enc:TypeId×Value→H) (W:World) (base:Nat) (args:Array Value) (ds gs:List (DataW H)) (before:List MemPlace)
  (hval:∀(j:Nat) t v,Tryz.f3.params[j]? =some t→args[j]? =some v→Value.okWide Tryz.prog W .any base t v)
  (hW:DataW.Whole enc Tryz.prog Tryz.f3.params.toList Rows.meaningExactSpec.vars false W args.toList ds gs before)
  (hwt:(DataW.weightsEach Tryz.prog (Tryz.f3.params.toList++[]) (ds++gs)).all (·≤reachBytes)=true)
  (hL:laidMetH Tryz.prog Rows.meaningExactRow.laid W) (hsh:W.ShapedOpen Tryz.prog):
  Calls Tryz.prog 3 args W fun e W'=>∃v,e= .returned v∧Rows.meaningExactSpec.post enc Tryz.prog Tryz.f3 false true false false W args v W':=by
 have hW':=hW;obtain ⟨p,q,hA0,hV,rfl,hfz,hnd⟩:=hW;have hA:DataW.TrodAll enc Tryz.prog W 0 (fun _=>true) true Tryz.f3.params.toList args.toList ds p:=hA0;rw [Tryz.params3] at hA hval hwt;obtain ⟨v0,vs0,d0,ds0,p0,q0,hargs,rfl,rfl,h0,r0⟩:=trodAll_cons hA;obtain ⟨rfl,rfl,rfl⟩:=trodAll_nil r0;obtain rfl:args=#[v0]:=by cases args;simp_all
 obtain ⟨rfl,rfl⟩:=trodVars_none hV;obtain ⟨ps,hlv⟩:=laidIs hL;clear hA0 hA r0;have go:∀{L:List Int},L.length<4611686018427387904→
   ((v0= .slice none 0 0∧L=[])∨∃B o cap,v0= .slice (some ⟨B,o,none⟩) L.length cap∧L.length≤cap∧∀i,i<L.length→W.cell? ⟨B,o+i,none⟩=some (.int .i64 (L.getD i 0)))→
   Calls Tryz.prog 3 #[v0] W fun e w'=>e= .returned (.bool true)∧Go.Sx.Same W w':=fun hlen hv=>
  walk hlv (nm 9) (nm 10) (nm 3) (nm 0) (by kernel_rfl) (by kernel_rfl) (by kernel_rfl) (by kernel_rfl) (List.mem_of_getElem? (i:=9) (by kernel_rfl)) (List.mem_of_getElem? (i:=10) (by kernel_rfl)) (List.mem_of_getElem? (i:=3) (by kernel_rfl)) (List.mem_of_getElem? (i:=0) (by kernel_rfl)) hsh hlen hv
 have post:∀W',Go.Sx.Same W W'→(∀sp:Nat→Bool,(∀x∈p0,sp x.block=true)→DataW.Trod enc Tryz.prog W' 0 sp true 22 v0 d0 p0)→
   Rows.meaningExactSpec.post enc Tryz.prog Tryz.f3 false true false false W #[v0] (.bool true) W':=fun W' hs hd=>
  ⟨_,_,_,[],p0++([]++[]),[],hW',trodAll_cons_mk (shut_bool Tryz.underlying4 _) trodAll_mk0,
   trodAll_cons_mk (hd _ fun x hx=>by simpa using hW'.lt x (by simp [hx])) trodAll_mk0,rfl,same_kept hs _,fun h=>by cases h⟩
 rcases open0 (hval 0 22 v0 rfl rfl) h0 with ⟨rfl,rfl,rfl⟩ | ⟨B,o,len,cap,zs,rfl,hl,hm,hz,rfl,rfl,hcell,hw⟩
 ·refine (go (L:=[]) (by simp) (.inl ⟨rfl,rfl⟩)).mono fun e W' ⟨he,hs⟩=>⟨_,he,post W' hs fun sp _=>shut_slice_nil Tryz.underlying22⟩
 ·have hlen:(zs.take len).length=len:=by simp;omega
  have hb:len<4611686018427387904:=by
   have b3:Tryz.prog.bytesOf 3=8:=by kernel_rfl
   simp only [List.append_nil,List.cons_append,List.nil_append,DataW.weightsEach,DataW.weights,Tryz.underlying22,b3,List.all_cons,Bool.and_eq_true,decide_eq_true_eq] at hwt;have h2:=hwt.1;simp only [lits,List.length_map,List.length_take,List.length_drop,reachBytes] at h2;omega
  refine (go (L:=zs.take len) (by omega) (.inr ⟨B,o,cap,by rw [hlen],by omega,fun i hi=> ?_⟩)).mono fun e W' ⟨he,hs⟩=>⟨_,he,post W' hs fun sp hsp=> ?_⟩
  ·rw [hcell i (by omega)];simp [List.getD,List.getElem?_take,show i<len by omega]
  ·refine shut0 hl hm hz (fun hc=>hsp (.cell B (o+0)) (MemPlace.mem_row.2 ⟨0,by omega,rfl⟩)) (fun i hi=> ?_) hw;rw [same_cell hs (cell_in (hcell i hi))];exact hcell i hi
theorem reads (os:Os) {H:Type} (enc:TypeId×Value→H):∃places,DataW.whole enc Tryz.prog (lw os) Tryz.f3.params.toList Rows.meaningExactSpec.vars false #[Value.slice none 0 0].toList 8=some ([.nil],[],places):=⟨[],by kernel_rfl⟩
theorem fits (os:Os) {H:Type} (enc:TypeId×Value→H):(OpenSpec.ofChange Rows.meaningExactSpec).preRow enc Tryz.prog Tryz.f3 Rows.meaningExactRow.domain false Rows.meaningExactRow.laid (lw os) #[.slice none 0 0]:=by
 obtain ⟨places,hx⟩:=reads os enc;exact OpenSpec.preRow_of_cond 8 hx (by kernel_rfl) (fun k hk=>by cases hk) (by kernel_rfl) (laid_met os)
theorem lifted (os:Os) (started:os.Started) (H:Type) (enc:TypeId×Value→H) (F:Stop.Interp):
  ReturnsInHanded {} Tryz.checked os 3 .any ((OpenSpec.ofChange Rows.meaningExactSpec).preRow enc Tryz.prog Tryz.f3 Rows.meaningExactRow.domain false Rows.meaningExactRow.laid) (((OpenSpec.ofChange Rows.meaningExactSpec).at F).post enc Tryz.prog Tryz.f3 false true false false):=by
 refine returnsInHanded_of_row (C:=Tryz.checked) (s:=OpenSpec.ofChange Rows.meaningExactSpec) own started (by kernel_rfl) Tryz.func3
  (witness_row_atRef (enc:=enc) (C:=Tryz.checked) false (laidWorld os) #[.slice none 0 0] rfl (varsOk os) (heapOk os) (inputOk os) (fits os enc)) ?_
 intro W base args ds gs before hval hW _ _ hwt hL hsh _;exact contract H enc W base args ds gs before hval hW hwt hL hsh
theorem andI {a b:Bool} (h:a=true) (k:b=true):(a && b)=true:=by rw [h,k];rfl
theorem closed:joinedFacts Tryz.prog 3 Tryz.f3 Rows.meaningExactSpec Rows.meaningExactRow=true:=by
 unfold joinedFacts;exact andI (andI (andI (andI (andI (andI (andI (andI (andI (andI (andI (andI (andI (andI (andI (andI (andI (andI (andI (andI (andI (andI (andI (andI (andI (andI (andI (andI (andI (andI (andI j0 j1) j2) j3) j4) j5) j6) j7) j8) j9) j10) j11) j12) j13) j14) j15) j16) j17) j18) j19) j20) j21) j22) j23) j24) j25) j26) j27) j28) j29) j30) j31
theorem hw:Tryz.f3.isWrapper Tryz.prog Rows.meaningExactRow.wrapper Rows.meaningExactRow.mainSum:=by unfold Func.isWrapper;first | (rw [if_pos (by decide+kernel)];kernel_rfl) | (rw [if_neg (by decide+kernel)];exact ⟨rfl,rfl⟩)
theorem hi:Tryz.f3.isInstance Tryz.prog Rows.meaningExactRow.origin Rows.meaningExactRow.targs:=of_decide_eq_true (by kernel_rfl)
theorem said:Rows.MeaningExactSaid:=
 OpenClaim.holds_of_cond 3 Tryz.f3 rfl rfl rfl rfl rfl rfl rfl ⟨rfl,rfl,rfl,rfl,rfl⟩ rfl rfl rfl rfl rfl nmE Tryz.func3 closed hi hw
  (fun os started H enc _ F=>by rw [OpenClaim.pre_eq_preRow];exact lifted os started H enc F)
theorem plain (f:FuncId) (fn:Func) (hf:Tryz.pinned.checked.prog.funcNamed Rows.meaningExactRow.func=some f) (hfn:Tryz.pinned.checked.prog.funcs[f]? =some fn):
  true=Tryz.pinned.checked.prog.looks []∧∀(j:Nat) t,fn.params[j]? =some t→Tryz.pinned.checked.prog.wantsStandIn t=false:=by
 obtain rfl:f=3:=Option.some.inj ((show Tryz.prog.funcNamed Rows.meaningExactRow.func=some 3 by kernel_rfl).symm.trans hf) |>.symm
 obtain rfl:fn=Tryz.f3:=(Option.some.inj (Tryz.func3.symm.trans hfn)).symm;refine ⟨by kernel_rfl,fun j t ht=> ?_⟩;rw [Tryz.params3] at ht;obtain rfl:t=22:=by simpa using Array.mem_of_getElem? ht
 exact (show Tryz.prog.wantsStandIn 22=false by kernel_rfl)
theorem card:Rows.MeaningExactCardSaid:=
 Claim7.holds_tied_plain_at .later [] _ _ _ _ said (fun _ h=>by cases h) cw (fun _ h=>by cases h) row_tie rfl ⟨rfl,rfl⟩ cm rfl plain cg
end Go.Proofs.YtkeiahlgcgabjaaGreatDoor
