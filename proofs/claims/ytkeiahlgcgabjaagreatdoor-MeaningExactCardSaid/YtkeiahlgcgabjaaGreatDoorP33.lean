/- Part of MeaningExact. -/
import Derived.Lib.LaidTab
import Derived.OpenShut
import Derived.RowKit
import GoSem.ClaimJoined
import Derived.Test.YtkeiahlgcgabjaaGreatDoorP32
set_option linter.all false
set_option maxRecDepth 1000000
set_option maxHeartbeats 0
namespace Go.Sx.E1
open Go Go.Proofs
def oR{P:Program}{W:World}{name:String}{k:IntKind}{H:List Int}{g:Nat}{t e:TypeId}{n:Nat}
  (x:P.globalNamed name=some g) (m:(P.globals[g]?).map (·.type)=some t) (D:P.underlying t=some (.array n e)) (V:P.underlying e=some (.int k)) (E:P.cellsOf e=1) (X:P.cellsOf t=n):
  ∀{laid:List (String×DataW Unit)}{y:List MemPlace},DataW.LaidVars P W laid y->(name,Lib.tabData k H)∈laid->Lib.TabIs P W name k H
 | [],_,_,h=>by cases h
 |(v,d)::r,y,hl,hm=>by
  obtain⟨u,U,cs,Q,p,q,T,s,o,Y,C,_⟩:=hl
  rcases V0.1 hm with h|h
  ·simp only[q0]at h;obtain⟨rfl,rfl⟩:=h;obtain rfl:=aij (x.symm.trans T);obtain rfl:=aij (m.symm.trans s);unfold Lib.TabIs;rw[o,<- Lib.cells_of_tab D V E X Y]
  exact oR x m D V E X C h
def cell_in{W:World}{g j:Nat}{v:Value}(h:W.cell? ⟨g,j,none⟩=some v):g<W.heap.size:=by refine Decidable.byContradiction fun x=> ?_;have:W.heap[g]? =none:=aic w_;simp[World.cell?,this]at h
def rW{P:Program}{W:World}{name:String}{k:IntKind}{z:Int}{H:List Int}{g:Nat}{vs:List Value}(h:Lib.TabIs P W name k (z::H))(x:P.globalNamed name=some g)(Q:vs=(z::H).map (Value.int k)): g<W.heap.size/\∀(i:Nat) v,vs[i]? =some v->W.cell? ⟨g,i,none⟩=some v/\single v=true:=by refine⟨cell_in (h.cell x 0 s_),fun i v y=> ?_⟩;subst Q;simp only[VJ,CG]at y;obtain⟨a,s,rfl⟩:=y;have hl:=(se.1 s).1;refine⟨?_,rfl⟩;rw[h.cell x i hl];simp[List.getD,s]
def G'{W:World}(h:W.ShapedOpen Tryz.prog):∃m:Int,W.cell? ⟨0,0,none⟩=some (.int .i64 m):=by(obtain⟨i,_⟩:=h;obtain⟨cs,c,hz,C⟩:=i 0 #[.int .i64 0] 3 (aaY k_) k_;obtain⟨Z,D,_,C⟩:=C k_;have e:Tryz.prog.cellTypes Tryz.prog.depth 3=some [3]:=by kernel_rfl);(obtain rfl:[3]=Z:=aij (e.symm.trans D);have j:0<cs.size:=by rw[hz];decide);(obtain⟨u,l,E⟩:=C 0 cs[0] (by simp[j]);obtain rfl:3=u:=by simpa using l);unfold Cell.ok at E;rw[Tryz.underlying3]at E;cases P:cs[0]with| int k n=>rw[P]at E;obtain⟨rfl,_⟩:=E;refine⟨n,?_⟩;simp[World.cell?,c,<- P,j]|_=>rw[P]at E;simp at E
def P2(L:List Int):L.flatMap aj=L.map fun n=>PV.vl (.int .i64 n):=by induction L<;>simp_all[aj]
def walk{W:World}{j:List (String×DataW Unit)}{x:List MemPlace}(y:DataW.LaidVars Tryz.prog W j x)(p q r s:String)(k:Tryz.prog.globalNamed p=some 1)(l:Tryz.prog.globalNamed q=some 4)(u:Tryz.prog.globalNamed r=some 6)(z:Tryz.prog.globalNamed s=some 9)(A:(p,Lib.tabData .i64 [1,10,100,1000,10000,100000,1000000])∈j)(C:(q,Lib.tabData .i64 [1,10,100,1000,10000,100000,1000000])∈j)(D:(r,Lib.tabData .i64 [31,28,31,30,31,30,31,31,30,31,30,31])∈j)(E:(s,Lib.tabData .u64 [1,10,100,1000,10000,100000,1000000,10000000,100000000,1000000000,10000000000,100000000000,1000000000000,10000000000000,100000000000000,1000000000000000,10000000000000000,100000000000000000,1000000000000000000,10000000000000000000])∈j)(P:W.ShapedOpen Tryz.prog){F:Value}{L:List Int}(G:L.length<4611686018427387904)(Q:(F= .slice none 0 0/\L=[])\/∃B o H,F= .slice (some ⟨B,o,none⟩) L.length H/\L.length<=H/\∀i,i<L.length->W.cell? ⟨B,o+i,none⟩=some (.int .i64 (L.getD i 0))): Calls Tryz.prog 3 #[F] W fun e w'=>e= .returned (.bool true)/\Same W w':=by
 obtain⟨m,T⟩:=G' P;let H:af:=⟨m⟩;have d:Tryz.prog.cellsOf 3=1:=by kernel_rfl
 have f:Tryz.prog.cellsOf 322=1:=by kernel_rfl
 have I:∀g vs,GG g=some vs->g<W.heap.size/\∀(i:Nat) v,vs[i]? =some v->W.cell? ⟨g,i,none⟩=some v/\single v=true:=by intro g vs h;unfold GG at h;split at h;{exact rW (oR k (t:=373) (e:=3) (n:=7) k_ Tryz.underlying373 Tryz.underlying3 d k_ y A) k ald};{exact rW (oR l (t:=373) (e:=3) (n:=7) k_ Tryz.underlying373 Tryz.underlying3 d k_ y C) l ald};{simp at h;subst h;refine⟨cell_in T,fun i v J=> ?_⟩;cases i with| zero=>simp at J;subst J;exact⟨T,rfl⟩|succ i=>simp at J};{exact rW (oR u (t:=475) (e:=3) (n:=12) k_ Tryz.underlying475 Tryz.underlying3 d k_ y D) u ald};{exact rW (oR z (t:=496) (e:=322) (n:=20) k_ Tryz.underlying496 Tryz.underlying322 f k_ y E) z (by simpa using h.symm)};cases h
 have J:=al.start (w:=W) I;rcases Q with⟨rfl,rfl⟩|⟨B,K,M,rfl,hc,N⟩
 {exact law (.nil rfl) s_ J (aN.cons (bG.vl _ rfl) aN.nil)};refine law (L:=L) .sl w_ J (aN.cons (bG.sl L.length (L.flatMap aj) B K M (fun i=> .int .i64 (L.getD i 0)) hc ?_ ?_ ?_) aN.nil)
 all_goals
  intro i c h;rw[P2,VJ,CG]at h;obtain⟨a,O,rfl⟩:=h;have R:=(se.1 O).1
 {exact cell_in (N i R)};{exact N i R};rw[show L.getD i 0=a by simp[List.getD,O]];exact bG.vl _ rfl
def same_kept{W B:World}(h:Same W B)(Z:MemPlace->Prop):W.keptBut B Z:=by obtain⟨j,k,_,l,m⟩:=h;refine⟨k,l,fun i y=> ?_⟩;rw[m i y];exact(World.keptBut_refl W Z).2.2 i y
def same_cell{W B:World}(h:Same W B){b o:Nat}(O:b<W.heap.size):B.cell? ⟨b,o,none⟩=W.cell? ⟨b,o,none⟩:=by simp only[World.cell?,h.2.2.2.2 b O]
def Fx{W:World}{base:Nat}{v:Value}(h:Value.okWide Tryz.prog W .any base 22 v):v= .slice none 0 0\/∃B o i w,v= .slice (some ⟨B,o,none⟩) i w:=by unfold Value.okWide at h;rw[Tryz.underlying22]at h;simp only at h;unfold Cell.okWide at h;rw[Tryz.underlying22]at h;simp only at h;unfold Cell.ok at h;rw[Tryz.underlying22]at h;cases v with| slice a i w=>(cases a with| none=>simp only at h;split at h<;>simp_all| some a=>simp only at h;obtain⟨_,_,p⟩:=h;obtain⟨b,o,s⟩:=a;obtain⟨_,A,_⟩:=p;simp only at A;subst A;exact .inr ⟨b,o,i,w,rfl⟩)|_=>simp at h
open Go.ChangeShapes in
def open0{H:Type}{enc:TypeId×Value->H}{W:World}{base:Nat}{v:Value}{d:DataW H}{p:List MemPlace}(V:Value.okWide Tryz.prog W .any base 22 v)(h:DataW.Trod enc Tryz.prog W 0 (fun _=>true) true 22 v d p): (v= .slice none 0 0/\d= .nil/\p=[])\/∃(B o j w:Nat)(I:List Int),v= .slice (some ⟨B,o,none⟩) j w/\j<=w/\w<=maxLen/\I.length=w/\d= .slice (lits .i64 (I.take j)) (lits .i64 (I.drop j))/\p=MemPlace.row ⟨B,o,none⟩ I.length/\ (∀i,i<I.length->W.cell? ⟨B,o+i,none⟩=some (.int .i64 (I.getD i 0)))/\(∀n∈I,(Lit.int .i64 n).wf=true):=by(obtain⟨P,T⟩:=h;have c:Tryz.prog.cellsOf 3=1:=by kernel_rfl);(rcases Fx V with rfl|⟨B,o,j,w,rfl⟩);{(rcases open_ints Tryz.underlying22 Tryz.underlying3 c T with⟨_,hx⟩|⟨a,x,C,I,e,_⟩);{simp only[q0]at hx;exact .inl ⟨rfl,hx.1,hx.2⟩};simp[Value.cells]at e};(rcases open_ints Tryz.underlying22 Tryz.underlying3 c T with⟨e,_⟩|⟨a,x,C,I,e,_,hl,hm,hz,hx,q,hw⟩);{simp[Value.cells]at e};simp[Value.cells]at e;obtain⟨rfl,rfl,rfl⟩:=e;simp only[q0]at hx;obtain⟨rfl,rfl⟩:=hx;refine .inr ⟨B,o,j,w,I,rfl,hl,hm,by simpa using hz,rfl,rfl,fun i y=> ?_,hw⟩;have:=q i y;rwa [Go.WideShapes.add_plain]at this
open Go.ChangeShapes in
def shut0{H:Type}{enc:TypeId×Value->H}{W:World}{I:Nat->Bool}{B o j v:Nat}{J:List Int}(x:j<=v)(T:v<=maxLen)(hz:J.length=v)(V:0<v->I B=true)(p:∀i,i<J.length->W.cell? ⟨B,o+i,none⟩=some (.int .i64 (J.getD i 0)))(t:∀n∈J,(Lit.int .i64 n).wf=true): DataW.Trod enc Tryz.prog W 0 I true 22 (.slice (some ⟨B,o,none⟩) j v) (.slice (lits .i64 (J.take j)) (lits .i64 (J.drop j))) (MemPlace.row ⟨B,o,none⟩ J.length):=by
 have c:Tryz.prog.cellsOf 3=1:=by kernel_rfl
 refine⟨2,?_⟩
 have:=shut_ints' (enc:=enc) (w:=W) (base:=0) (spare:=I) (held:=true) 0 Tryz.underlying22 Tryz.underlying3 c (Xq B) x T (by
  split
  ·exact hz
  rename_i h
  rcases aeV v with hc|hc
  ·omega
  exact absurd (V hc) h) p t
 simpa[Value.cells] using this
end Go.Sx.E1
