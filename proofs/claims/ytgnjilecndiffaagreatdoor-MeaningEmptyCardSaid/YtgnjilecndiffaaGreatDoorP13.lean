/- A part of the proof of MeaningEmpty. -/
import Derived.Test.YtgnjilecndiffaaGreatDoorP10
set_option linter.all false
set_option maxRecDepth 1000000
set_option maxHeartbeats 0
namespace Go.Sx
def seqQ:Code→Option (Code×Code)
 | .seq a b=>some (a,b)
 | _=>none
theorem seqQ_ok {c a b:Code} (h:seqQ c=some (a,b)):c= .seq a b:=by
 unfold seqQ at h
 grind
noncomputable def preR (C:Conf) (call:CallR) (k:Nat) (fn:FuncId):Nat→Code→St→Option (Code×St):=
 fun m=>Nat.rec (motive:=fun _=>Code→St→Option (Code×St)) (fun c st=>some (c,st)) (fun _ ih c st=>match seqQ c with
  | some (a,b)=>match runC C call k fn false a st with
   | some (.normal,st')=>ih b st'
   | _=>none
  | _=>none) m
theorem Fin.pre {C:Conf} (hC:C.Ok) {call:CallR} (hcall:CallOk C.P C.G call) {k n:Nat} {fn:FuncId} {items:List Item} {Q:St→Prop}:∀(m:Nat) {c c':Code} {st st':St},preR C call k fn m c st=some (c',st')→Fin C.P C.G n fn (.code c'::items) st' Q→Fin C.P C.G n fn (.code c::items) st Q
 | 0,c,c',st,st',h,hf=>by
  have:some (c,st)=some (c',st'):=h
  simp_all
 | m+1,c,c',st,st',h,hf=>by
  have:=hC.tok
  have h2:(match seqQ c with
   | some (a,b)=>match runC C call k fn false a st with
    | some (.normal,st')=>preR C call k fn m b st'
    | _=>none
   | _=>none)=some (c',st'):=h
  clear h;split at h2
  ·rename_i a b hq;obtain rfl:=seqQ_ok hq;split at h2
   ·rename_i s hs;refine Fin.step (fun _ _ _ _=>fr_seq) ?_;refine Fin.wp hC.wf (wpC_mono a (runC_sound hC hcall a _ _ _ hs) ?_);rintro e' s' ⟨rfl,rfl⟩;exact Fin.pre hC hcall m h2 hf
   ·simp at h2
  ·simp at h2
noncomputable def runTo (C:Conf) (call:CallR) (k m:Nat) (f:FuncId) (args:List RV):Option ((FuncId×List RV)×Option Tmp×List Item×St):=
 match C.func f with
 | some fn=>match fn.body with
  | some c=>match preR C call k f m c ⟨regs0 fn args,[]⟩ with
   | some (c',st)=>match adv C.P C.T C.G k [.code c'] st with
    | (td,st')=>match callAt td st' with
     | some (g,ags,[],dst,td')=>some ((g,ags),dst,td',st')
     | _=>none
   | none=>none
  | none=>none
 | none=>none
noncomputable def resTo (C:Conf) (call:CallR) (k m:Nat) (f:FuncId) (args:List RV) (r:RV):Option RV:=
 match C.func f with
 | some fn=>match runTo C call k m f args with
  | some (_,dst,td,st)=>match adv C.P C.T C.G k td ⟨putR st.regs dst r,st.hp⟩ with
   | (td',st')=>match isEnd td' with
    | true=>match resultsR C.T C.G fn st' with
     | some x=>match fzR st'.hp x with
      | some (x',_)=>some x'
      | none=>none
     | none=>none
    | false=>none
  | none=>none
 | none=>none
theorem ValC.split {C:Conf} (hC:C.Ok) {call:CallR} (hcall:CallOk C.P C.G call) {k m:Nat} {f g:FuncId} {args ags:List RV} {F Q:RV→Prop} (h:(runTo C call k m f args).map (·.1)=some (g,ags)) (hv:ValC C.P C.G g ags F)
  (hr:∀r,F r→∃x,resTo C call k m f args r=some x∧Q x):ValC C.P C.G f args Q:=by
 have:=hC.tok;cases hto:runTo C call k m f args with
 | none=>simp_all
 | some p=>
  obtain ⟨⟨g',ags'⟩,dst,td,st⟩:=p;rw [hto] at h;simp at h;obtain ⟨rfl,rfl⟩:=h;have hto2:=hto;unfold runTo at hto;split at hto
  ·rename_i fn hfn;obtain ⟨hf,hn⟩:=hC.func _ _ hfn;split at hto
   ·rename_i c hb;split at hto
    ·rename_i c' st1 hp;split at hto;rename_i td1 st2 ha;split at hto
     ·rename_i g2 ags2 dst2 td2 hca;simp at hto;obtain ⟨⟨rfl,rfl⟩,rfl,rfl,rfl⟩:=hto;refine ValC.of_fin (T:=C.T) hf hb hn ?_;refine Fin.pre hC hcall m hp ?_;refine Fin.adv hC.wf k ha ?_;refine Fin.callV hC.wf hca hv ?_;intro r hF hpr;obtain ⟨x,hx,hQ⟩:=hr r hF;unfold resTo at hx;rw [hfn,hto2] at hx;simp only at hx;have hz:(if scalarR r then st2.hp else fzObs [] st2.hp)=st2.hp:=ite_fz0 (scalarR r) _;rw [hz];generalize ha2:adv C.P C.T C.G k td2 ⟨putR st2.regs dst2 r,st2.hp⟩=p2 at hx;obtain ⟨td3,st3⟩:=p2;simp only at hx;split at hx
      ·rename_i he;split at hx
       ·rename_i x1 hres;split at hx
        ·rename_i x' ts hfz;simp at hx;subst hx;exact Fin.adv hC.wf k ha2 (Fin.fin he ⟨_,hres,_,_,hfz,hQ⟩)
        ·simp at hx
       ·simp at hx
      ·simp at hx
     ·simp at hto
    ·simp at hto
   ·simp at hto
  ·simp at hto
end Go.Sx
