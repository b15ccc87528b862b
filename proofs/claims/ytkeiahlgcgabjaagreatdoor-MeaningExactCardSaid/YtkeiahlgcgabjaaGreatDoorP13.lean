/- Part of MeaningExact. -/
import Derived.Test.YtkeiahlgcgabjaaGreatDoorP8
set_option linter.all false
set_option maxRecDepth 1000000
set_option maxHeartbeats 0
namespace Go.Sx
def sN:Code->Option (Code×Code)
 | .seq a b=>some (a,b)
 |_=>none
def Jg{c a b:Code}(h:sN c=some (a,b)):c= .seq a b:=by unfold sN at h;grind
noncomputable def wG(C:bO)(l:dp)(k:Nat)(fn:FuncId):Nat->Code->St->Option (Code×St):=
 fun m=>Nat.rec (motive:=fun _=>Code->St->Option (Code×St)) (fun c st=>some (c,st)) (fun _ d c st=>match sN c with
  |some (a,b)=>match dq C l k fn false a st with
   |some (.normal,st')=>d b st'
   |_=>none
  |_=>none) m
def Fin.pre{C:bO}(A:C.Ok){l:dp}(o:hY C.P C.G l){k n:Nat}{fn:FuncId}{T:pA}{Q:St->Prop}:∀(m:Nat){c e:Code}{st st':St},wG C l k fn m c st=some (e,st')->Fin C.P C.G n fn (.code e::T) st' Q->cK fn=false->Fin C.P C.G n fn (.code c::T) st Q
 | 0,c,e,st,st',h,U,R=>by
  have:some (c,st)=some (e,st'):=h
  simp_all
 |m+1,c,e,st,st',h,U,R=>by
  have:=A.tok
  have h2:(match sN c with
   |some (a,b)=>match dq C l k fn false a st with
    |some (.normal,st')=>wG C l k fn m b st'
    |_=>none
   |_=>none)=some (e,st'):=h
  clear h;split at h2
  ·rename_i a b M;obtain rfl:=Jg M;split at h2
   ·rename_i s B;refine Fin.step (fun _ _ _ _=>jW) ?_;refine Fin.wp A.wf (fL a (iP A o a _ _ _ B) ?_) R;rintro p X ⟨rfl,rfl⟩;exact Fin.pre A o m h2 U R
   simp at h2
  simp at h2
noncomputable def sm(C:bO)(l:dp)(k m:Nat)(f:FuncId)(args:eG):Option ((FuncId×eG)×Option Tmp×List Item×St):=
 match C.func f with
 |some fn=>match fn.body with
  |some c=>match wG C l k f m c ⟨dm fn args,[]⟩ with
   |some (e,st)=>match a' C.P C.T C.G k [.code e] st with
    |(a,st')=>match oA a st' with
     |some (g,n,[],dst,h)=>some ((g,n),dst,h,st')
     |_=>none
   |none=>none
  |none=>none
 |none=>none
noncomputable def Dk(C:bO)(l:dp)(k m:Nat)(f:FuncId)(args:eG)(r:RV):Option RV:=
 match C.func f with
 |some fn=>match sm C l k m f args with
  |some (_,dst,a,st)=>match a' C.P C.T C.G k a ⟨aT st.regs dst r,st.hp⟩ with
   |(g,st')=>match oU f g with
    |true=>match bQ C.T C.G fn st' with
     |some x=>match bg st'.hp x with
      |some (n,_)=>some n
      |none=>none
     |none=>none
    |false=>none
  |none=>none
 |none=>none
def aR.split{C:bO}(A:C.Ok){call:dp}(l:hY C.P C.G call){k m:Nat}{f g:FuncId}{args n:eG}{F Q:RV->Prop}(h:(sm C call k m f args).map (·.1)=some (g,n))(R:aR C.P C.G g n F)(D:∀r,F r->∃x,Dk C call k m f args r=some x/\Q x)(S:cK f=false:=by rfl):aR C.P C.G f args Q:=by have:=A.tok;cases U:sm C call k m f args with| none=>simp_all| some p=>obtain⟨⟨u,v⟩,dst,a,st⟩:=p;rw[U]at h;simp at h;obtain⟨rfl,rfl⟩:=h;have V:=U;unfold sm at U;split at U;{rename_i fn H;obtain⟨W,y⟩:=A.func _ _ H;split at U;{rename_i c hb;split at U;{rename_i e b6 hp;split at U;rename_i b bM s;split at U;{rename_i i o j d q;simp at U;obtain⟨⟨rfl,rfl⟩,rfl,rfl,rfl⟩:=U;refine aR.ex (T:=C.T) W hb y ?_ S;refine Fin.pre A l m hp ?_ S;refine Fin.a' A.wf k s ?_;refine Fin.gp A.wf q R ?_;intro r L t;obtain⟨x,M,Y⟩:=D r L;unfold Dk at M;rw[H,V]at M;simp only at M;have hz:(if ei r then bM.hp else bv [] bM.hp)=bM.hp:=IC (ei r);rw[hz];generalize w:a' C.P C.T C.G k d ⟨aT bM.regs j r,bM.hp⟩=p2 at M;obtain⟨z,N⟩:=p2;simp only at M;split at M;{rename_i he;split at M;{rename_i B X;split at M;{rename_i E ts Z;simp at M;subst M;exact Fin.a' A.wf k w (Fin.fin he (by rw[iZ S];exact⟨_,X,_,_,Z,Y⟩))};simp at M};simp at M};simp at M};simp at U};simp at U};simp at U};simp at U
end Go.Sx
