/- A part of the proof of MeaningEmpty. -/
import Derived.Lib.LaidTab
import Derived.OpenShut
import Derived.RowKit
import GoSem.ClaimJoined
import Derived.Test.YtgnjilecndiffaaGreatDoorP29
import Derived.Test.YtgnjilecndiffaaGreatDoorP34
set_option linter.all false
set_option maxRecDepth 1000000
set_option maxHeartbeats 0
namespace Go.Sx.E1
open Go.Proofs
variable [MaxL]
theorem law {L:List Int} {x:PV} (hx:IsS encI L x) (hL:(L.length:Int)<4611686018427387904) {kb:Int} (k0:0≤kb) (k1:kb≤255)
  {A:Nat→Prop} {S:Where} {w:World} {vs:List Value} (hs:Sim GG A S [] w) (hvs:RelV A S w [o (.p x),o (.p (.vl (.int .u8 kb)))] vs):
  Calls Tryz.prog 3 vs.toArray w fun e w'=>e= .returned (.bool true)∧Same w w':=
 law3 sanityC hx hL k0 k1 hs hvs
end Go.Sx.E1
namespace Go.Sx.E1
open Go Go.Proofs
theorem tab_of {P:Program} {W:World} {name:String} {k:IntKind} {zs:List Int} {g:Nat} {t e:TypeId} {n:Nat}
  (hg:P.globalNamed name=some g) (hty:(P.globals[g]?).map (·.type)=some t) (ht:P.underlying t=some (.array n e)) (he:P.underlying e=some (.int k)) (hce:P.cellsOf e=1) (hct:P.cellsOf t=n):
  ∀{laid:List (String×DataW Unit)} {ps:List MemPlace},DataW.LaidVars P W laid ps→(name,Lib.tabData k zs)∈laid→Lib.TabIs P W name k zs
 | [],_,_,h=>by cases h
 | (n',d)::r,ps,hl,hm=>by
  obtain ⟨g',t',cs,fuel,p,q,hg',ht',hvar,hd,hr,_⟩:=hl
  rcases List.mem_cons.1 hm with h | h
  ·simp only [Prod.mk.injEq] at h;obtain ⟨rfl,rfl⟩:=h;obtain rfl:=Option.some.inj (hg.symm.trans hg');obtain rfl:=Option.some.inj (hty.symm.trans ht');unfold Lib.TabIs;rw [hvar,← Lib.cells_of_tab ht he hce hct hd]
  ·exact tab_of hg hty ht he hce hct hr h
theorem cell_in {W:World} {g j:Nat} {v:Value} (h:W.cell? ⟨g,j,none⟩=some v):g<W.heap.size:=by
 refine Decidable.byContradiction fun hn=> ?_;have:W.heap[g]? =none:=Array.getElem?_eq_none (by omega);simp [World.cell?,this] at h
theorem gl_tab {P:Program} {W:World} {name:String} {k:IntKind} {z:Int} {zs:List Int} {g:Nat} {vs:List Value} (h:Lib.TabIs P W name k (z::zs)) (hg:P.globalNamed name=some g) (hv:vs=(z::zs).map (Value.int k)):
  g<W.heap.size∧∀(i:Nat) v,vs[i]? =some v→W.cell? ⟨g,i,none⟩=some v∧single v=true:=by
 refine ⟨cell_in (h.cell hg 0 (by simp)),fun i v hi=> ?_⟩;subst hv;simp only [List.getElem?_map,Option.map_eq_some_iff] at hi;obtain ⟨a,ha,rfl⟩:=hi;have hl:=(List.getElem?_eq_some_iff.1 ha).1;refine ⟨?_,rfl⟩;rw [h.cell hg i hl];simp [List.getD,ha]
theorem maxLen_is {W:World} (h:W.ShapedOpen Tryz.prog):∃m:Int,W.cell? ⟨1,0,none⟩=some (.int .i64 m):=by
 obtain ⟨h1,_⟩:=h;obtain ⟨cs,hc,hz,hr⟩:=h1 1 #[.int .i64 0] 3 (of_decide_eq_true (by kernel_rfl)) (by kernel_rfl);obtain ⟨ts,ht,_,hr⟩:=hr (by kernel_rfl);have e:Tryz.prog.cellTypes Tryz.prog.depth 3=some [3]:=by kernel_rfl
 obtain rfl:[3]=ts:=Option.some.inj (e.symm.trans ht);have h0:0<cs.size:=by rw [hz];decide
 obtain ⟨u,hu,hk⟩:=hr 0 cs[0] (by simp [h0]);obtain rfl:3=u:=by simpa using hu
 unfold Cell.ok at hk;rw [Tryz.underlying3] at hk;cases hv:cs[0] with
 | int k n=>
  rw [hv] at hk;obtain ⟨rfl,_⟩:=hk;refine ⟨n,?_⟩;simp [World.cell?,hc,← hv,h0]
 | _=>rw [hv] at hk;simp at hk
theorem flat_i (L:List Int):L.flatMap encI=L.map fun n=>PV.vl (.int .i64 n):=by induction L<;>simp_all [encI]
theorem walk {W:World} {laid:List (String×DataW Unit)} {ps:List MemPlace} (hl:DataW.LaidVars Tryz.prog W laid ps)
  (n0 n4 n6 n11:String) (g0:Tryz.prog.globalNamed n0=some 0) (g4:Tryz.prog.globalNamed n4=some 4) (g6:Tryz.prog.globalNamed n6=some 6) (g11:Tryz.prog.globalNamed n11=some 11)
  (m0:(n0,Lib.tabData .i64 [1,10,100,1000,10000,100000,1000000])∈laid) (m4:(n4,Lib.tabData .i64 [1,10,100,1000,10000,100000,1000000])∈laid)
  (m6:(n6,Lib.tabData .i64 [31,28,31,30,31,30,31,31,30,31,30,31])∈laid)
  (m11:(n11,Lib.tabData .u64 [1,10,100,1000,10000,100000,1000000,10000000,100000000,1000000000,10000000000,100000000000,1000000000000,10000000000000,100000000000000,1000000000000000,10000000000000000,100000000000000000,1000000000000000000,10000000000000000000])∈laid)
  (hsh:W.ShapedOpen Tryz.prog) {v0:Value} {kb:Int} (k0:0≤kb) (k1:kb≤255) {L:List Int} (hL:L.length<4611686018427387904)
  (hv0:(v0= .slice none 0 0∧L=[])∨∃B o cap,v0= .slice (some ⟨B,o,none⟩) L.length cap∧L.length≤cap∧∀i,i<L.length→W.cell? ⟨B,o+i,none⟩=some (.int .i64 (L.getD i 0))):
  Calls Tryz.prog 3 #[v0,.int .u8 kb] W fun e w'=>e= .returned (.bool true)∧Same W w':=by
 obtain ⟨m,hm⟩:=maxLen_is hsh
 let mi:MaxL:=⟨m⟩
 have c3:Tryz.prog.cellsOf 3=1:=by kernel_rfl
 have c341:Tryz.prog.cellsOf 341=1:=by kernel_rfl
 have hg:∀g vs,GG g=some vs→g<W.heap.size∧∀(i:Nat) v,vs[i]? =some v→W.cell? ⟨g,i,none⟩=some v∧single v=true:=by
  intro g vs h;unfold GG at h;split at h
  ·exact gl_tab (tab_of g0 (t:=346) (e:=3) (n:=7) (by kernel_rfl) Tryz.underlying346 Tryz.underlying3 c3 (by kernel_rfl) hl m0) g0 (by simpa [i64s] using h.symm)
  ·exact gl_tab (tab_of g4 (t:=346) (e:=3) (n:=7) (by kernel_rfl) Tryz.underlying346 Tryz.underlying3 c3 (by kernel_rfl) hl m4) g4 (by simpa [i64s] using h.symm)
  ·simp at h;subst h;refine ⟨cell_in hm,fun i v hi=> ?_⟩;cases i with
   | zero=>simp at hi;subst hi;exact ⟨hm,rfl⟩
   | succ i=>simp at hi
  ·exact gl_tab (tab_of g6 (t:=465) (e:=3) (n:=12) (by kernel_rfl) Tryz.underlying465 Tryz.underlying3 c3 (by kernel_rfl) hl m6) g6 (by simpa [i64s] using h.symm)
  ·exact gl_tab (tab_of g11 (t:=494) (e:=341) (n:=20) (by kernel_rfl) Tryz.underlying494 Tryz.underlying341 c341 (by kernel_rfl) hl m11) g11 (by simpa using h.symm)
  ·cases h
 have hs:=Sim.start (w:=W) hg
 rcases hv0 with ⟨rfl,rfl⟩ | ⟨B,o1,cap,rfl,hc,hcell⟩
 ·exact law (.nil rfl) (by simp) k0 k1 hs (RelV.cons (EncP.vl _ rfl) (RelV.cons (EncP.vl _ rfl) RelV.nil))
 ·refine law (L:=L) .sl (by omega) k0 k1 hs (RelV.cons (EncP.sl L.length (L.flatMap encI) B o1 cap (fun i=> .int .i64 (L.getD i 0)) hc ?_ ?_ ?_) (RelV.cons (EncP.vl _ rfl) RelV.nil))
  all_goals
   intro i c h;rw [flat_i,List.getElem?_map,Option.map_eq_some_iff] at h;obtain ⟨a,ha,rfl⟩:=h;have hi:=(List.getElem?_eq_some_iff.1 ha).1
  ·exact cell_in (hcell i hi)
  ·exact hcell i hi
  ·rw [show L.getD i 0=a by simp [List.getD,ha]];exact EncP.vl _ rfl
theorem same_kept {W W':World} (h:Same W W') (may:MemPlace→Prop):W.keptBut W' may:=by
 obtain ⟨h1,h2,_,h3,h4⟩:=h;refine ⟨h2,h3,fun i hi=> ?_⟩;rw [h4 i hi];exact (World.keptBut_refl W may).2.2 i hi
theorem same_cell {W W':World} (h:Same W W') {b o:Nat} (hb:b<W.heap.size):W'.cell? ⟨b,o,none⟩=W.cell? ⟨b,o,none⟩:=by
 simp only [World.cell?,h.2.2.2.2 b hb]
theorem slice_shape {W:World} {base:Nat} {v:Value} (h:Value.okWide Tryz.prog W .any base 22 v):v= .slice none 0 0∨∃B o len cap,v= .slice (some ⟨B,o,none⟩) len cap:=by
 unfold Value.okWide at h;rw [Tryz.underlying22] at h;simp only at h;unfold Cell.okWide at h;rw [Tryz.underlying22] at h;simp only at h;unfold Cell.ok at h;rw [Tryz.underlying22] at h;cases v with
 | slice a len cap=>
  cases a with
  | none=>
   simp only at h;split at h<;>simp_all
  | some a=>
   simp only at h;obtain ⟨_,_,hh⟩:=h;obtain ⟨b,o,s⟩:=a;obtain ⟨_,hs,_⟩:=hh;simp only at hs;subst hs;exact .inr ⟨b,o,len,cap,rfl⟩
 | _=>simp at h
open Go.ChangeShapes in
theorem open0 {H:Type} {enc:TypeId×Value→H} {W:World} {base:Nat} {v0:Value} {d0:DataW H} {p0:List MemPlace} (hval:Value.okWide Tryz.prog W .any base 22 v0) (h0:DataW.Trod enc Tryz.prog W 0 (fun _=>true) true 22 v0 d0 p0):
  (v0= .slice none 0 0∧d0= .nil∧p0=[])∨∃(B o len cap:Nat) (zs:List Int),v0= .slice (some ⟨B,o,none⟩) len cap∧len≤cap∧cap≤maxLen∧zs.length=cap∧d0= .slice (lits .i64 (zs.take len)) (lits .i64 (zs.drop len))∧p0=MemPlace.row ⟨B,o,none⟩ zs.length∧
   (∀i,i<zs.length→W.cell? ⟨B,o+i,none⟩=some (.int .i64 (zs.getD i 0)))∧(∀n∈zs,(Lit.int .i64 n).wf=true):=by
 obtain ⟨fuel,hf⟩:=h0;have c3:Tryz.prog.cellsOf 3=1:=by kernel_rfl
 rcases slice_shape hval with rfl | ⟨B,o,len,cap,rfl⟩
 ·rcases open_ints Tryz.underlying22 Tryz.underlying3 c3 hf with ⟨_,hx⟩ | ⟨a,len',cap',zs,hcs,_⟩
  ·simp only [Prod.mk.injEq] at hx;exact .inl ⟨rfl,hx.1,hx.2⟩
  ·simp [Value.cells] at hcs
 ·rcases open_ints Tryz.underlying22 Tryz.underlying3 c3 hf with ⟨hcs,_⟩ | ⟨a,len',cap',zs,hcs,_,hl,hm,hz,hx,hcell,hw⟩
  ·simp [Value.cells] at hcs
  ·simp [Value.cells] at hcs;obtain ⟨rfl,rfl,rfl⟩:=hcs;simp only [Prod.mk.injEq] at hx;obtain ⟨rfl,rfl⟩:=hx;refine .inr ⟨B,o,len,cap,zs,rfl,hl,hm,by simpa using hz,rfl,rfl,fun i hi=> ?_,hw⟩;have:=hcell i hi
   rwa [Go.WideShapes.add_plain] at this
open Go.ChangeShapes in
theorem shut0 {H:Type} {enc:TypeId×Value→H} {W:World} {sp:Nat→Bool} {B o len cap:Nat} {zs:List Int} (hl:len≤cap) (hm:cap≤maxLen) (hz:zs.length=cap) (hsp:0<cap→sp B=true)
  (hcell:∀i,i<zs.length→W.cell? ⟨B,o+i,none⟩=some (.int .i64 (zs.getD i 0))) (hw:∀n∈zs,(Lit.int .i64 n).wf=true):
  DataW.Trod enc Tryz.prog W 0 sp true 22 (.slice (some ⟨B,o,none⟩) len cap) (.slice (lits .i64 (zs.take len)) (lits .i64 (zs.drop len))) (MemPlace.row ⟨B,o,none⟩ zs.length):=by
 have c3:Tryz.prog.cellsOf 3=1:=by kernel_rfl
 refine ⟨2,?_⟩
 have:=shut_ints' (enc:=enc) (w:=W) (base:=0) (spare:=sp) (held:=true) 0 Tryz.underlying22 Tryz.underlying3 c3 (Nat.zero_le B) hl hm (by
  split
  ·exact hz
  ·rename_i h
   rcases Nat.eq_zero_or_pos cap with hc | hc
   ·omega
   ·exact absurd (hsp hc) h) hcell hw
 simpa [Value.cells] using this
end Go.Sx.E1
