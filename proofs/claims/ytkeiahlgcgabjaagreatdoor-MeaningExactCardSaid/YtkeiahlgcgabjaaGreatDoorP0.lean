/- Part of MeaningExact. -/
import Derived.Calls
import Derived.IntWalk
import Derived.KernelRfl
import Derived.Laws.World
import Derived.Orders
set_option linter.all false
set_option maxRecDepth 1000000
set_option maxHeartbeats 0
namespace Go
universe u
variable {A:Sort u} {P:Prop}
abbrev nB:=ByteArray
abbrev ak:=List Nat
abbrev eF:=List Int
abbrev lA:=TypeId
abbrev axf:=FuncId
abbrev lB:=Program
abbrev pA:=List Item
abbrev BY:=List Frame
def WJ:= @List.length_append
def VP:= @List.length_cons
def WY:= @List.length_nil
def WZ:= @List.length_take
def ZI:= @List.length_drop
def Wb:= @List.length_set
def pB:= @Option.some.injEq
def vA:= @Nat.le_refl
def Wu:= @Nat.le_trans
def W0:= @Nat.lt_of_lt_of_le
def VI:= @Nat.lt_or_ge
def Vt:= @List.getElem?_set_ne
def Yb:= @List.getElem?_set_self
def W1:= @List.getElem?_set
def Cz:= @Bool.and_eq_true
def VJ:= @List.getElem?_map
def CG:= @Option.map_eq_some_iff
def q0:= @Prod.mk.injEq
def se:= @List.getElem?_eq_some_iff
def v9:= @List.getElem?_eq_getElem
def Xq:= @Nat.zero_le
def XO:= @decide_eq_true_eq
def Xr:= @List.mem_cons_of_mem
def Vp:= @Bool.false_eq_true
def w4:= @if_false
def aeV:= @Nat.eq_zero_or_pos
def aaF:= @Nat.add_assoc
def Vw:= @beq_iff_eq
def Ya:= @Nat.blt_eq
def VZ:= @List.map_cons
def aaG:= @List.foldl_cons
def ahY:= @Array.foldl_toList
def acy:= @Array.getElem?_toList
def ahZ:= @Option.isSome_iff_exists
def V0:= @List.mem_cons
def acz:= @Array.mem_toList_iff
def WI:= @List.mem_of_getElem?
def ah0:= @Array.mapM_eq_mapM_toList
def ah1:= @List.flatten_cons
def YR:= @List.map_append
def aeQ:= @List.map_map
def Wr:= @List.ext_getElem?
def aeR:= @Function.comp_def
def ah2:= @Nat.mul_eq_zero
def aeS:= @Int.eq_ofNat_of_zero_le
def aeT:= @Int.le_trans
def ZH:= @Int.toNat_natCast
def aaH:= @Nat.mul_le_mul_right
def Ws:= @List.getElem?_append_left
def ah3:= @List.getElem?_take_of_lt
def Xp:= @Option.bind_eq_some_iff
def Wt:= @List.take_of_length_le
def X_:= @Nat.zero_add
def YP:= @Nat.add_mul
def Xo:= @List.getElem?_append_right
def aeN:= @Nat.le_add_right
def YQ:= @List.all_cons
def aos:= @Std.Legacy.Range.forIn_eq_forIn_range'
def aeO:= @List.range'_succ
def aeP:= @List.forIn_cons
def Wq:= @Bool.or_eq_true
def LA:= @List.all_eq_true
def aeU:= @List.eq_nil_of_length_eq_zero
def aaN:= @List.getElem_mem
def aaO:= @List.mem_cons_self
def aaP:= @Array.ext'
def Eo:= @Go.step_lone_go
def acF:= @Option.map_some
def aaQ:= @Option.getD_some
def YT:= @Go.Sem.runT_eq
def YU:= @Go.GStep.bare_after
def VS:= @List.getD_eq_getElem?_getD
def Yf:= @List.getElem?_eq_none
def aic:= @Array.getElem?_eq_none
def YV:= @Option.bind_some
def acG:= @List.drop_drop
def aid:= @List.singleton_append
def Yg:= @Go.Steps.trans
def aaR:= @Go.Steps.refl
def acH:= @List.pairwise_cons
def aie:= @Go.step_leave_returned
def aaS:= @List.mem_flatMap
def aaT:= @Array.getElem?_eq_some_iff
def aaU:= @List.set_comm
def ZL:= @List.map_congr_left
def aaV:= @List.mem_append
def acI:= @List.filter_sublist
def aif:= @List.nodup_range
def ah6:= @List.nodup_append
def ah7:= @List.Pairwise.sublist
def aaJ:= @List.mem_filter
def ZJ:= @List.mem_range
def aeX:= @List.filter_eq_self
def Wv:= @Nat.eq_of_beq_eq_true
def ZK:= @Nat.testBit_and
def aeY:= @UInt8.toNat_inj
def ah8:= @Option.isNone_iff_eq_none
def acC:= @Classical.byContradiction
def aeZ:= @List.drop_eq_getElem_cons
def ah9:= @Int.tmod_nonneg
def ah_:= @Bool.not_eq_true'
def YS:= @List.Pairwise.nil
def XP:= @List.flatMap_cons
def ae0:= @List.length_map
def acD:= @List.map_nil
def aia:= @Nat.lt_trichotomy
def aaK:= @Nat.le_of_ble_eq_true
def Ye:= @decide_eq_true
def XQ:= @decide_eq_false
def Xs:= @beq_eq_false_iff_ne
def W2:= @Int.pow_succ
def acE:= @Int.pow_pos
def aaL:= @Int.lt_or_eq_of_le
def aib:= @Nat.or_lt_two_pow
def ah4:= @List.take_succ_eq_append_getElem
def Yc:= @List.mem_nil_iff
def Yd:= @or_false
def aaI:= @ByteArray.size_append
def ah5:= @Nat.eq_of_testBit_eq
def acA:= @Int.le_of_lt_add_one
def acB:= @Int.mul_le_mul_of_nonneg_right
def aeW:= @List.length_eq_zero_iff
def vB:= @Int.tdiv_eq_ediv_of_nonneg
def AI:= @Int.tmod_eq_emod_of_nonneg
def aaM:= @Int.le_refl
def aaY:= @of_decide_eq_true
def acK:= @Bool.and_true
def aii:= @Int.mul_lt_mul_of_pos_right
def aij:= @Option.some.inj
def Xe(h:P:=by first| omega| (simp only[WJ,VP,WY,WZ,ZI,Wb]at*;omega)):=h
def Yv(h:P:=by simp only[WJ,VP,WY,WZ,ZI,Wb]at*;omega):=h
def Ze(h:P:=by first| exact .inl ⟨rfl,rfl⟩|exact .inr ⟨_,_,_,_,rfl,rfl,bV w_,w_,bV w_,w_⟩|exact .inr ⟨_,_,[],_,rfl,rfl,.nil rfl,s_,bV w_,w_⟩|exact .inr ⟨_,_,_,[],rfl,rfl,bV w_,w_,.nil rfl,s_⟩|exact .inr ⟨_,_,[],[],rfl,rfl,.nil rfl,s_,.nil rfl,s_⟩):=h
abbrev Xf(a:A:=by exact .sl 3 [I_ k,S_ s,I_ q,I_ m,I_ d,.vl vn,.vl vn,I_ l,S_ u,I_ r,I_ t,I_ e,.vl vn,.vl vn,I_ v,S_ C,I_ w,I_ A,I_ f,.vl vn,.vl vn]):=a
abbrev Zf(a:A:=by exact bq (fz:=false) k_ (by exact bc (z:=1) (fun _=>rfl) _)):=a
abbrev Xg(a:A:=by exact(fun r=>∃(k:Int)(t:BA)(e:Int),r= .ab [.agg [i k,sv t,i 0,i 0,i 0,nl,nl],.one (i e)]/\(t.size:Int)<=200/\(e=0->k=1))):=a
abbrev adA(a:A:=by exact[.p (.sl 3 [I_ m,S_ A,I_ n,I_ q,I_ z,.vl vn,.vl vn,I_ B,S_ F,I_ C,I_ D,I_ E,.vl vn,.vl vn,I_ G,S_ K,I_ H,I_ I,I_ J,.vl vn,.vl vn])]):=a
abbrev r0(a:A:=by exact fun _=>rfl):=a
def aqn (h:P:=by
 refine yB 11 6 (c<32) ?_ ?_<;>intro _
 ·exact yF 10 Vl<|⟨_,rfl,by unfold bB;(repeat' split)<;>omega⟩
 refine yB 5 3 (c>126) ?_ ?_<;>intro _
 ·exact yF 5 Vl<|⟨_,rfl,by unfold bB;(repeat' split)<;>omega⟩
 refine yB 6 13 (c>=48) ?_ ?_<;>intro _
 ·refine yB 5 10 (c<=57) ?_ ?_<;>intro _
  ·exact yF 5 IN<|⟨_,rfl,by unfold bB;(repeat' split)<;>omega⟩
  refine yB 6 20 (c>=65) ?_ ?_<;>intro _
  ·refine yB 5 17 (c<=90) ?_ ?_<;>intro _
   ·exact yF 5 abD<|⟨_,rfl,by unfold bB;(repeat' split)<;>omega⟩
   refine yB 6 27 (c>=97) ?_ ?_<;>intro _
   ·refine yB 5 24 (c<=122) ?_ ?_<;>intro _
    ·exact yF 5 (o (i 3))<|⟨_,rfl,by unfold bB;(repeat' split)<;>omega⟩
    have:¬(c=32):=by omega
    exact yu 7 31 c 32<|ahF
   exact an3
  refine yn 11 27 (c>=97) ?_;exact an3
 refine yn 11 20 (c>=65)<|yn 11 27 (c>=97) ?_
 by_cases z:(c=32)
 ·exact ye 12 31 c 32<|yF 5 (o (i 5))<|⟨_,rfl,by unfold bB;(repeat' split)<;>omega⟩
 exact yu 12 31 c 32<|ahF):=h
def Z_(h:P:=by rintro r ⟨U,x,S,B,P,N,v,X,g,W,Q,C,Y,T,O,l,Z,w',D,rfl,c,d,e,f,j,m,o,q,t,u⟩;exact⟨_,_,_,_,_,_,U,x,S,B,P,N,v,X,g,W,Q,C,Y,T,O,l,Z,w',D,rfl,c,d,e,f,j,m,o,q,t,u,rfl⟩):=h
abbrev CL(a:A:=by exact kv (f:=27) (args:=[]) (r:=aa1) k_):=a
def aqo (h:P:=by
 unfold Op.equalIn;refine(bb (x:=Option.getD (prog.underlying 32) default) k_).trans ?_;obtain⟨f,g,T,h,j,k,l,m,n⟩:∃f g:Field,Option.getD (prog.underlying 32) default= .struct #[f,g]/\f.name= "N" /\g.name= "Scale" /\f.type=3/\g.type=3/\f.offset=0/\g.offset=1:=
  ⟨(match Option.getD (prog.underlying 32) default with| .struct o=>o[0]!|_=>default),(match Option.getD (prog.underlying 32) default with| .struct o=>o[1]!|_=>default),k_,k_,k_,k_,k_,k_,k_⟩
 rw[T];dsimp only;refine(bb (x:=prog) rfl).trans ?_;have B:prog.stoodInHeld 32=false:=by kernel_rfl
 rw[B];simp only[Vp,w4];refine(sZ (c1:=(V==e)) (c2:=(A==i)) (x:=false) (y:=true) (fun s=> ?_) (fun s=> ?_) rfl rfl).trans ?_
 ·simp only[h,k,m];rw[if_pos d_];refine(bb (x:= .int .i64 V) k_).trans ?_;refine(bb (x:= .int .i64 e) k_).trans ?_;refine(bb (x:=(V==e)) k_).trans ?_;split<;>rfl
 ·simp only[j,l,n];rw[if_pos d_];refine(bb (x:= .int .i64 A) k_).trans ?_;refine(bb (x:= .int .i64 i) k_).trans ?_;refine(bb (x:=(A==i)) k_).trans ?_;split<;>rfl
 grind):=h
abbrev Yw(a:A:=by exact[i 32,i 1,i 0,i 0,e_,e_,i 1,i 0,i 0,i 0,i 1,i 0,i 0,i K,i K,.p x,.p z,b false]):=a
abbrev XD(a:A:=by exact(fun r=>∃(k n s e:Int),r= .ab [.agg [i k,e_,i n,i s,i 0,nl,nl],.one (i e)]/\(e=0->k=2))):=a
def aqp (h:P:=by
 refine qE 8 4 (yw (n - dB q)) aoW<|qJ 0 4 (n - dB q+1) ?_
 refine qP 0 [] 43 (pT f489 apg) (α:=(Int×Int)) (fun(u,P)=>1<=u/\u<=12/\1<=P/\P<=4000000/\pG n q u P) (fun(u,P)=>(13 - u).toNat) (fun(u,P)=>([(2,o (i q)),(3,o (i u)),(4,o (i P))],[])) (1,(n - dB q+1)) (by have I:=q' (y:=q) w_ w_;first| exact⟨w_,w_,w_,w_,q_ w_ w_ (.inl ⟨w_,w_,w_⟩)⟩|exact⟨w_,w_,w_,w_,q_ w_ w_ (.inr w_)⟩) ?_;rintro⟨u,P⟩ G f
 try dsimp only at G f |-
 obtain⟨_,_,_,_,_⟩:=G;refine qV 6 (mF q u w_ w_ w_)<|qB 2 32 (P>dl q u) ?_ ?_<;>intro _
 ·have:=(show(28<=dl q u/\dl q u<=31) from mj w_ w_)
  refine qV 8 (mF q u w_ w_ w_)<|qJ 10 4 (P - dl q u) ?_
  exact qJ 0 3 (u+1)<|qK 0 [] (f ((u+1),(P - dl q u)) (by(have fd:=mj (y:=q) (m:=u) w_ w_);first| exact V8|exact⟨w_,(ml a_ a_).2.1,(ml a_ a_).2.2.1,w_,ml a_ a_⟩) t_)
 refine qF 12 (.ab [.one (i q),.one (i u),.one (i P),.one xA]) ?_
 exact⟨_,_,_,_,rfl,w_,w_,by first| omega| (have:=mj (y:=q) (m:=u) w_ w_;omega)⟩):=h
abbrev Zg(a:A:=by exact .sl 2 [I_ k,S_ s,I_ q,I_ m,I_ d,.vl vn,.vl vn,I_ l,S_ u,I_ r,I_ t,I_ e,.vl vn,.vl vn]):=a
abbrev WC(a:A:=by exact[C_ [i k],C_ [sv x],C_ [sv x],C_ YX,(abd R)]):=a
def ajA (h:P:=by
 rintro _ ⟨f,u,v,rfl,Z⟩;cases w:v
 ·refine qF 21 (.ab [.agg Hx,.one (i 18)]) ?_
  first| exact⟨_,_,_,rfl,a_,a_⟩|exact⟨_,_,_,rfl,d_,w_⟩
 have:=Z w;have P:((aC x f u).size:Int)=u - f:=by exact cp w_ w_ w_
 refine qO 24 (aZ prog TT 9 (Xd x) (some (o (i f))) (some (o (i u))) none) (fun _=>(kL k_ w_ w_ w_))<|qC 0 (h6 (aC x f u) w_) ?_
 rintro _ ⟨l,A,g,rfl,_,_⟩
 exact qF 5 (.ab [.agg [i l,sv A,i 0,i 0,i 0,nl,nl],.one (i g)]) l_):=h
def aqq(h:P:=by first| exact V8|exact aof|(have hn:=S k w_ w_);first| exact V8|((try dsimp only);simp_all;omega)|(have e:k=d:=by simp_all;subst e;exact⟨w_,by simp_all,rfl⟩)|exact aof):=h
def aqr (h:P:=by
 refine qO 0 (a8 TT GG 3 (o (.p (.vl (Value.pointer (some (Addr.mk 1 k.toNat none))))))) (fun _=>aeG) ?_;have:=(rv w_ w_)
 refine qO 0 (axh k) (fun _=>(mc w_))<|qB 10 54 (y<IntKind.i64.wrap (0 - IntKind.i64.wrap (Int.tdiv 1000000000000000 (tn k)))) ?_ ?_<;>intro _
 ·exact qF 12 (.ab [.agg W5,.one LB]) l_
 refine qB 5 58 (y>IntKind.i64.wrap (Int.tdiv 1000000000000000 (tn k))) ?_ ?_<;>intro _
 ·exact qF 7 (.ab [.agg W5,.one LB]) l_
 refine qO 6 (a5 TT 373 acL (o (i k))) (fun _=>aog)<|qO 0 (a8 TT GG 3 (o (.p (.vl (Value.pointer (some (Addr.mk 1 k.toNat none))))))) (fun _=>aeG)<|qC 9 (oN (IntKind.i64.wrap (IntKind.i64.wrap (y*tn k)+h))) ?_
 rintro _ ⟨z,rfl,_⟩;cases u:z
 ·exact qF 9 (.ab [.agg W5,.one LB]) l_
 exact qF 12 (.ab [.agg [i (IntKind.i64.wrap (IntKind.i64.wrap (y*tn k)+h)),i k],.one xA]) l_):=h
abbrev Xh(a:A:=by exact[C_ [i k],C_ [sv x],C_ [sv x],C_ Bq,(abd R)]):=a
def aqs (h:P:=by
 refine qV 5 L<|qV 17 l<|eS 13 84 e 0 ?_ ?_<;>intro _
 ·refine qF 8 (.ab [.agg Hx,.one (i e)]) ?_;exact anh
 refine qF 8 (.ab [.agg [i k,sv s,i n,i m,i d,.p C,.p D],.one (i 0)]) ?_
 exact anh):=h
def ajB(h:P:=by first| exact V8|exact⟨w_,by rw[dL];assumption,by rw[dL];omega⟩|exact⟨w_,by rw[dL],by rw[dL];omega⟩):=h
def adB(h:P:=by first| (cases og a_ w_;rfl)|(cases nO a_ w_ w_ (by first| (left;omega)|(right;assumption)) w_;rfl)|(cases nQ a_ w_ w_ (by first| (left;omega)|(right;assumption)) w_;rfl)):=h
abbrev Bo(a:A:=by exact[i n,i s,i m,i t]):=a
def ady(h:P:=by(first| exact⟨true,_,_,_,_,rfl,rfl,by first| omega| exact ahR⟩|exact⟨false,_,_,_,_,rfl,rfl,by first| omega| exact ahR⟩)):=h
abbrev abT(a:A:=by exact(fun r=>∃(f t:Int)(v:Bool),r= .ab [.one (i f),.one (i t),.one (b v)]/\(v=true->0<=f/\f<=t/\t<=s.size))):=a
abbrev Yu(a:A:=by exact(fun r=>∃(n:Int),r= .ab [.agg [i 4,e_,i 0,i 0,i n,nl,nl],.one (i 0)])):=a
def ajz (h:P:=by
 rintro _ ⟨s,rfl,_,_⟩;refine a3 0 (rT y m d x z A D E (aoS t) B s w_ w_ w_)<|bn 2 (u) [(Ob.tc 400 [i y,i m,i d,LV.ref 0 3,LV.ad 8 0 (B++bK s).length 1] false),x,z,A,.gone,D,E,C_ (ade t),(Ob.tc 5 (pc (List.flatMap aY (B++bK s))) true)] ?_
 exact ane):=h
def aqm (h:P:=by
 refine qD 32 [] v8 r3<|qD 39 [] v8 r3<|qV 6 anD<|qD 32 [] v8 r3<|qV 6 anE<|qD 32 [] v8 r3<|qV 6 anF<|qD 32 [] v8 r3<|qV 6 anz<|qD 32 [] v8 r3<|qV 6 ahL<|qR 6 2 (v' x z k W K h) ?_
 rintro _ _ ⟨rfl,rfl⟩;refine qD 3 [] abg Y7<|qV 3 ahL<|qF 22 (a [i 32,i 1,i 0,i 0,e_,e_,i 1,i 0,i 0,i 0,i 1,i 0,i 0,i K,i K,.p k,.p W,b false]) ?_
 rfl):=h
def V8(h:P:=by(try dsimp only);omega):=h
abbrev Zd(a:A:=by exact[i 4,i 1,i 0,i 0,e_,e_,i n,i t,i n,i t,i 1,i 0,i 0,i 1,i 0,nl,nl,b false]):=a
def adz(h:P:=by first| exact⟨_,_,_,rfl,fun P=>absurd P d_⟩|exact⟨_,_,_,rfl,fun _=>lp w_ w_ w_ w_ w_⟩):=h
def xB(h:P:=by simp[Op.operands]):=h
def Zh(h:P:=by simp only[V0,Yc,Yd]at N |-<;>omega):=h
abbrev af0(a:A:=by exact⟨X,e,bU,fun h=>absurd h d_⟩):=a
def Zk (h:P:=by
 have M:f.cu=false:=by simpa[aF.cu] using y
 simp only[aF.pre,len M]at h |-;exact h):=h
abbrev af1(a:A:=by exact[i K,i L,i d,i G,sv D,sv M,i n,i s,i m,i t,i l,i Y,i h,i N,i T,.p A,.p B,b false]):=a
abbrev XF(a:A:=by exact[i m,sv A,i n,i q,i z,nl,nl]):=a
abbrev aqQ(a:A:=by exact[.gone,.gone,.cells (pc (List.flatMap ae (G_ L s).F)) true,C_ [.p (.sl ((G_ L s).F.length) (List.flatMap ae (G_ L s).F)),sv ((G_ L s).t)],.cells (pc (List.flatMap ai (M++[Dp.mk (PV.sl (G_ L s).F.length (List.flatMap ae (G_ L s).F)) (G_ L s).F (G_ L s).t aa.sl Z]))) false]):=a
def ajQ(h:P:=by first| exact⟨_,rfl,by constructor;(intro h;simp at h);exact anX⟩|exact⟨_,rfl,by constructor;(intro h;exact⟨by first| omega| (simp at h;omega),fun j l m=>Z j l w_⟩);(intro h;have:=h.1;first| rfl|(simp;omega))⟩):=h
abbrev af2(a:A:=by exact[Ab.mk O P f g ap aw a0 a1 a2 be bU b1 b3 cb cc cd cg ci cl bo br cm cn cs ct cv cw cI cS c0 c1 c2 c3 c4 dd]):=a
abbrev Yy(a:A:=by exact i (IntKind.i64.wrap (IntKind.i64.wrap ((↑x.size:Int) - 1) - k))):=a
abbrev adI(a:A:=by exact⟨_,_,_,_,_,_,_,_,_,_,_,_,_,_,_,_,_,_,_,rfl,a_,a_,a_,a_,a_,a_,a_,w_,a_,w_⟩):=a
abbrev adJ(a:A:=by exact[.p (.sl 2 [I_ m,S_ A,I_ n,I_ q,I_ z,.vl vn,.vl vn,I_ B,S_ F,I_ C,I_ D,I_ E,.vl vn,.vl vn])]):=a
abbrev aqR(a:A:=by exact ∀(Z D:Ob)(t:BA)(f:Bool)(B:eF),1<=(t.size:Int)->(t.size:Int)<=4->1<=B.length/\B.length<=5000->bP (.yl 3) [a [sv t,b f]] [O4 y m d (.ref 0 3) (.ad 4 0 B.length 1),wr,Z,.loop (bm v n y m d),.tc 5 (pc (B.flatMap aY)) true,D] (fun r M=>∃C:eF,r=o (b true)/\M=[O4 y m d (.ref 0 3) (.ad 8 0 C.length 1),wr,Z,.loop (bm v n y m d),.gone,D,C_ [sv t,b f],C_ [sv t,b f],.tc 5 (pc (C.flatMap aY)) true]/\1<=C.length/\C.length<=B.length+30)):=a
def ajR (h:P:=by
 rintro _ ⟨s,rfl,_,_⟩;refine a3 0 (rS y m d x z A C D (aoS t) s w_ w_)<|bn 2 (u) [(Ob.tc 400 [i y,i m,i d,LV.ref 0 3,LV.ad 7 0 (bK s).length 1] false),x,z,A,C,D,C_ (ade t),(axu s)] ?_
 exact ank):=h
abbrev Xi(a:A:=by exact .ab [.agg W5,.one LB]):=a
def aqS (h:P:=by
 rintro _ ⟨l,v,f,rfl,_,_⟩
 exact qF 5 (.ab [.agg [i l,sv v,i 0,i 0,i 0,nl,nl],.one (i f)]) l_):=h
abbrev af3(a:A:=by exact fun C=>[a [sv u,.p b,.p c,.p C],o (.p (.sl 2 [I_ 2,.vl (.string ⟨#[]⟩),I_ n,I_ s,I_ 0,y,z,I_ 2,.vl (.string ⟨#[]⟩),I_ q,I_ t,I_ 0,A,B]))]):=a
abbrev adK(a:A:=by exact[i K,i J,i d,i G,sv D,sv M,i n,i s,i m,i t,i l,i Y,i h,i L,i T,.p x,.p z,b false]):=a
abbrev ajS(a:A:=by exact(fun r cs=>∃(w:Nat)(C:List ByteArray)(R:List (Row w))(y z:PV)(U:Int),r=a [i 5,e_,i 0,i 0,i 0,.p y,.p z]/\cs=[.p x,i U]/\aa ae C y/\C=ao.take w/\w<=3/\aa aW R z/\R.length<=4/\bC L x U)):=a
abbrev Wl(a:A:=by exact .ad 0 0 M.length 2):=a
abbrev adL(a:A:=by exact[i (a4 q r s t u),.p y,.p z,.p A,.p B,.p C,.p D,.p E,.p F,.p G,.p H,.p I,.p J,.p K,.p L,.p M,.p N,.p O]):=a
abbrev aad(a:A:=by exact[x,F,G,P_ aj (T),C_ [i k],C_ [i c,i L,i y,sv t],C_ [sv s],C_ [i k],R]):=a
def aqT (h:P:=by
 refine yV 1 M<|eh 6 26 u 0 ?_ ?_<;>intro _
 ·have Q:¬(u≠3):=by omega
  refine yE 11 36 ((b' Q)) ob<|yD 27 [] [] Wh<|yV 1 O<|eh 6 26 E 0 ?_ ?_<;>intro _
  ·have R:¬(E≠5):=by omega
   refine yE 11 36 ((b' R)) ob<|yF 19 ni ?_
   exact l_
  exact aaC
 refine yD 38 [] [] Wh<|yV 1 O<|eh 6 26 E 0 ?_ ?_<;>intro _
 ·have Q:¬(E≠5):=by omega
  refine yE 11 36 ((b' Q)) ob<|yF 19 ni ?_
  exact l_
 exact aaC):=h
abbrev af4(a:A:=by exact sK _ (I_ ds) (I_ d0) (I_ d1) (I_ d2) (S_ d3) (S_ d4) (I_ d5) (I_ d') (I_ en) (I_ eq) (I_ es) (I_ e2) (I_ fd) (I_ fn) (I_ fr) _ _ (apn fD) hS hD hF w_ w_ w_):=a
abbrev Wm(a:A:=by exact fun _=>(bI (e:=5) k_ k_ w_ w_)):=a
abbrev aae(a:A:=by exact .p (.sl 1 [I_ 1,S_ x,I_ 0,I_ 0,I_ 0,y,z])):=a
abbrev adM(a:A:=by exact[i 2,i s.size,i s.size,i (bW s:Int),sv s,sv s,i 1,i 0,i 0,i 0,i 1,i 0,i 0,i 1,i 0,nl,nl,b false]):=a
abbrev aqU(a:A:=by exact[Dp.mk (PV.sl (G_ L s).F.length (List.flatMap ae (G_ L s).F)) (G_ L s).F (G_ L s).t aa.sl Z]):=a
abbrev ajK(a:A:=by exact[.p (.sl 3 [I_ k,S_ v,I_ n,I_ m,I_ j,.vl vn,.vl vn,I_ l,S_ z,I_ q,I_ w,I_ y,.vl vn,.vl vn,I_ A,S_ E,I_ B,I_ C,I_ D,.vl vn,.vl vn])]):=a
abbrev VA(a:A:=by exact k<(↑L.length:Int)):=a
def aqK(h:P:=by first| exact⟨_,_,_,a_,w_,w_,a_,a_,w_,w_,w_,a_,w_,⟨_,_,_,a_,w_,w_,a_,w_,w_,a_,a_,a_⟩,⟨_,.sl,w_,a_⟩,⟨_,.sl,w_,a_,fun h=>absurd h w_⟩,a_⟩|exact⟨_,_,_,a_,w_,w_,a_,a_,w_,w_,w_,a_,w_,⟨_,_,_,a_,w_,w_,a_,w_,w_,a_,a_,a_⟩,⟨[],.nil rfl,by(simp only[WY];omega),ne_nil⟩,⟨[],.nil rfl,by(simp only[WY];omega),mg,fun _=>rfl⟩,a_⟩):=h
abbrev abV(a:A:=by exact .sl 1 [.vl (vs [116]),.sl (av.take w).length ((av.take w).flatMap ae),z]):=a
def afV (h:P:=by
 simp only[e']at h;split at h
 ·rename_i g hb;simp at h;subst h;obtain⟨B,d,j,rfl⟩:=C;exact⟨B,d,(J _ _ hb).trans j,rfl⟩
 simp at h):=h
abbrev Yx(a:A:=by exact .aX (acJ L) (s.toNat*2)):=a
abbrev afW(a:A:=by exact a [i w.K,i w.le,i w.mx,i w.cl,sv w.be,sv w.en,i w.n,i w.s,i w.m,i w.t,i w.dl,i w.dh,i w.bo,i w.rl,i w.rh,.p w.x,.p w.z,b false]):=a
abbrev afX(a:A:=by exact[.p y,.p A,.p B,.p E,.p G,.p H,.p I,.p K,.p O,.p P,.p Q,.p R,.p S,.p T,.p U,.p x,.p z,.p V]):=a
abbrev adG(a:A:=by exact[i K,.p y,.p z,.p A,.p B,.p C,.p D,.p E,.p F,.p G,.p H,.p I,.p J,.p L,.p M,.p N,.p O,.p P]):=a
abbrev aqL(a:A:=by exact(fun r=>∃(U x S y:Int)(P N:BA)(v X g V Q A W T O:Int)(k Y:PV)(w':Nat)(z:p0),r=a [i U,i x,i S,i y,sv P,sv N,i v,i X,i g,i V,i Q,i A,i W,i T,i O,.p k,.p Y,b false]/\U=a4 false false false true false/\bu false x S y P N/\bt false v X g V/\aS false 3652058 Q A/\bz true W/\aS false 100 T O/\aa ae (ao.take w') k/\w'<=3/\aa ai z Y/\z.length<=100)):=a
abbrev aqM(a:A:=by exact⟨_,_,a_,a_,a_,a_,a_,a_,a_,w_,a_,w_,a_,a_,a_,a_,a_,a_,a_,w_,a_,w_,by simp_all,by simp_all,CU a_ a_,CV a_ a_⟩):=a
abbrev adH(a:A:=by exact .sl ((G_ L s).F.length) (List.flatMap ae (G_ L s).F)):=a
abbrev aab(a:A:=by exact fun _=>(bI (e:=95) k_ k_ w_ w_)):=a
abbrev aac(a:A:=by exact[i c,i L,i y,sv t]):=a
def ajM(h:P:=by have e:=AI (a:=y) (b:=4) w_;have f:=AI (a:=y) (b:=100) w_;have g:=AI (a:=y) (b:=400) w_;refine⟨_,rfl,?_⟩;unfold f';first| (simp only[Vw];omega)|(simp;omega)|omega):=h
abbrev aqN(a:A:=by exact ∀(Z D:Ob)(t:BA)(f:Bool),1<=(t.size:Int)->(t.size:Int)<=4->bP (.yl 3) [a [sv t,b f]] [O4 y m d nP nl,wr,Z,.loop (bm v n y m d),D] (fun r M=>∃B:eF,r=o (b true)/\M=[O4 y m d (.ref 0 3) (.ad 7 0 B.length 1),wr,Z,.loop (bm v n y m d),D,C_ [sv t,b f],C_ [sv t,b f],.tc 5 (pc (B.flatMap aY)) true]/\1<=B.length/\B.length<=1000)):=a
def ajN(h:P:=by(have C:=dj (L) k;have E:=dj (N) k;obtain rfl:k=0:=w_;exact fM (U:=(L)) (V:=(N)) (M:=[]) (c:=c) (k:=0) w_ s_ w_ w_ jG (by simp[aB]<;>omega) w_ a_ a_ w_ w_ w_ w_)):=h
def ajO(h:P:=by(have E:=dj (L) k;have F:=dj (N) k;obtain rfl:k=0:=w_;exact fM (U:=(L)) (V:=(N)) (M:=[]) (c:=c) (k:=0) w_ s_ w_ w_ jG (by simp[aB]<;>omega) w_ a_ a_ w_ w_ w_ w_)):=h
abbrev aqO(a:A:=by exact⟨_,rfl,by first| rfl|(rw[gd];omega)|omega⟩):=a
abbrev XE(a:A:=by exact .string ⟨#[]⟩):=a
abbrev Zj(a:A:=by exact .aX (acJ L) (X.toNat*2)):=a
def ajP (h:P:=by
 rintro _ ⟨ap,aw,rfl,a0,a1⟩
 exact qA 3 ai a (Dp.mk aw ap (G_ S X) a0 a1) 40<|qJ 8 57 (X+1)<|qK 0 aqA (j (.inr ((X+1),(a++[Dp.mk aw ap (G_ S X) a0 a1]))) g_ t_) (hh:=m_)):=h
abbrev abU(a:A:=by exact .sl 1 [I_ k,S_ s,I_ q,I_ m,I_ d,.vl vn,.vl vn]):=a
def ajG(h:P:=by first| (exfalso;simp_all;done)|(exfalso;omega)|(simp_all;done)|(subst_vars;simp_all[sv];done)|(subst_vars;rfl)):=h
def ajH(h:P:=by first| exact⟨true,_,_,_,rfl,rfl,s_⟩|exact⟨false,_,_,_,rfl,rfl,by intro _;(have e:=cy.get (z:=s.size) (A:=C) (k:=k.toNat) a_ w_;simp only[fv];omega)⟩):=h
abbrev ajI(a:A:=by exact yO 0 (aZ prog TT 9 (Xd x) (some (o (i ((↑x.size:Int) - k)))) none none) (eB k_ w_ w_)<|yF 2 (o (.p (.vl (.string (aC x ((↑x.size:Int) - k) (↑x.size:Int))))))<|l_):=a
abbrev aaa(a:A:=by exact(fun r=>∃n s v,r= .ab [.agg [i n,i s],.one (b v)])):=a
abbrev adF(a:A:=by exact⟨_,rfl,by simp_all[aP]<;>omega⟩):=a
def ajJ(h:P:=by first| exact⟨[],_,rfl,.nil rfl,s_⟩|exact⟨_,_,rfl,.sl,w_⟩):=h
abbrev WR(a:A:=by exact[i J,i O,i G,sv D,sv M]):=a
def afZ(h:P:=by(have C:=dj (L) q;have E:=dj (N) q;exact fM (M:=M) (c:=d) w_ w_ w_ w_ a_ a_ w_ a_ a_ w_ w_ w_ w_)):=h
def af6(h:P:=by(have E:=dj (L) q;have F:=dj (N) q;exact fM (M:=M) (c:=d) w_ w_ w_ w_ a_ a_ w_ a_ a_ w_ w_ w_ w_)):=h
abbrev Dd(a:A:=by exact[i n,i s]):=a
abbrev adO(a:A:=by exact⟨_,rfl,fun P=>by simp_all[aP]⟩):=a
abbrev abY(a:A:=by exact[i B,sv F,i C,i D,i E,nl,nl]):=a
abbrev af7(a:A:=by exact(fun r=>∃(k n e:Int),r= .ab [.agg [i k,e_,i 0,i 0,i n,nl,nl],.one (i e)]/\(e=0->k=3))):=a
abbrev aah(a:A:=by exact .p (.vl (.int .u8 (an x ((↑x.size:Int) - 1 - k))))):=a
def adP(h:P:=by first| exact⟨_,rfl,fun P=>absurd P d_⟩|exact⟨_,rfl,fun _=>by omega⟩):=h
abbrev ajX(a:A:=by exact[.p (.sl 2 [I_ k,S_ v,I_ n,I_ m,I_ j,.vl vn,.vl vn,I_ l,S_ z,I_ q,I_ w,I_ y,.vl vn,.vl vn])]):=a
def ajY (h:P:=by
 rintro _ ⟨v,w,x,rfl⟩;refine qC 11 (lg v w x 3 w_) ?_;rintro _ ⟨l,C,D,f,rfl,_⟩
 exact qF 5 (.ab [.agg [i l,e_,i C,i D,i 0,nl,nl],.one (i f)]) l_):=h
def ard(h:P:=by rename_i heq;cases heq;rename_i hd;obtain⟨B,d,r,rfl⟩:=s;refine⟨by simp[Op.equalIn,bp hd],fun op x y=>by unfold eqGuard;split<;>simp⟩):=h
abbrev af8(a:A:=by exact(fun r=>∃c:nB,r=o (sv c)/\(c.size:Int)<=15/\ah c=ah s*ah t/\E1.Canon c)):=a
abbrev ajZ(a:A:=by exact[i k,sv s,i n,i m,i d,.p C,.p D]):=a
abbrev aj0(a:A:=by exact bq (fz:=false) k_ (by exact bc (z:=18) (fun _=>rfl) _)):=a
abbrev af9(a:A:=by exact VQ 34 [o (sv op),o (sv B),o (.p y),o (.p c)] (.ab [.one (.p (.sl N H)),.one (i O),.one (i 0)])):=a
abbrev adQ(a:A:=by exact d (k+1) t_ t_):=a
abbrev Wo(a:A:=by exact fun J=>by kernel_rfl):=a
abbrev aj1(a:A:=by exact⟨_,_,_,_,_,_,_,_,_,_,_,_,_,_,_,_,_,_,_,_,_,_,_,_,_,_,rfl,rfl,a_,a_,a_,a_,a_,a_,a_,a_,w_,a_,w_,pb a_ a_⟩):=a
abbrev Vn(a:A:=by exact aP n s=true):=a
abbrev af_(a:A:=by exact(fun r=>∃(t:BA)(v:Bool),r= .ab [.one (sv t),.one (b v)]/\(t.size:Int)<=2000)):=a
def arf(h:P:=by first| exact .inr rfl|exact .inl a_):=h
abbrev arh(a:A:=by exact[i 32,i 1,i 0,i 0,e_,e_,i 1,i 0,i 0,i 0,i 1,i 0,i 0,i K,i K,.p k,.p W,b false]):=a
abbrev aga(a:A:=by exact[i K,i J,i d,i G,sv E,sv M,i n,i s,i m,i t,i l,i Y,i j,i L,i T,.p x,.p z,b e]):=a
abbrev agb(a:A:=by exact o (.p (.sl ((s::List.drop k.toNat L).length) (List.flatMap ae (s::List.drop k.toNat L))))):=a
def aq1(h:P:=by refine⟨_,rfl,?_⟩;unfold dl;first| (rw[if_neg w_];done)|(rw[if_pos ⟨w_,by simp_all⟩];done)|(rw[if_neg (by simp_all)];done)):=h
abbrev adN(a:A:=by exact .p (.sl ((List.take w ao).length) (List.flatMap ae (List.take w ao)))):=a
abbrev aq2(a:A:=by exact[.gone,.gone,.cells (pc (XT D)) true,C_ [.p (aa6 D),sv (G_ C q)],P_ ai (M++[Dp.mk (PV.sl D.length (XT D)) D (G_ C q) aa.sl n])]):=a
def aq3(h:P:=by have e:(ByteArray.mk (List.map UInt8.ofNat []).toArray).size=0:=rfl;first| exact⟨_,_,_,rfl,w_,w_⟩|(have e:(ByteArray.mk (List.map UInt8.ofNat []).toArray).size=0:=rfl;have q:=g2 x 0 k;have u:=g2 x (k+1) x.size;exact⟨_,_,_,rfl,w_,w_⟩)):=h
abbrev aq4(a:A:=by exact[PV.vl (vi w.K),PV.vl (vi w.le),PV.vl (vi w.mx),PV.vl (vi w.cl),S_ w.be,S_ w.en,PV.vl (vi w.n),PV.vl (vi w.s),PV.vl (vi w.m),PV.vl (vi w.t),PV.vl (vi w.dl),PV.vl (vi w.dh),PV.vl (vi w.bo),PV.vl (vi w.rl),PV.vl (vi w.rh),w.x,w.z,PV.vl (Value.bool w.e)]):=a
abbrev ajV(a:A:=by exact(fun r=>∃v:Int,r=o (i v)/\((v= -1/\b0 n s<b0 w X)\/(v=1/\b0 w X<b0 n s)\/(v=0/\b0 n s=b0 w X)))):=a
def abW (h:P:=by
 rintro _ ⟨o,j,rfl,_,_⟩
 exact yF 2 (a [i o,i j])<|l_):=h
abbrev aq5(a:A:=by exact[a [sv op,sv B,i M,.p c,.p e,.p f,.p g,.p h,.p j,.p l,.p q,.p s,.p u,.p v,.p x,.p z,.p C,.p D,.p E,.p G,.p H,.p I,.p J,.p K,.p L,.p N,.p O,.p P,.p Q,.p R,.p S,.p T,.p U,.p V,.p W,.p X,.p Y,.p Z,.p ap,.p aw,.p a0],o (.p y)]):=a
abbrev af5(a:A:=by exact⟨w_,w_,by simp;omega,a_,rfl⟩):=a
abbrev VB(a:A:=by exact R.length<=6):=a
abbrev XG(a:A:=by exact[i J,i d,i G,sv D,sv M]):=a
abbrev aaf(a:A:=by exact[i L,i d,i G,sv D,sv M]):=a
abbrev aq6(a:A:=by exact[a [sv op,sv B,i M,.p c,.p d,.p f,.p g,.p h,.p j,.p k,.p l,.p m,.p n,.p q,.p r,.p s,.p t,.p u,.p v,.p w,.p x,.p z,.p C,.p D,.p E,.p F,.p G,.p H,.p I,.p J,.p K,.p L,.p N,.p O,.p P,.p Q,.p R,.p S,.p T,.p U,.p V],o (.p y)]):=a
def aq7 (h:P:=by
 refine vE f33<|qV 11 A ?_
 have x:¬((↑N:Int)≠(↑N:Int)):=by omega
 refine qE 26 39 ((b' x)) ob<|a3 7 (o3 op (PV.sl N F) ail XV (C_ [LV.p (PV.sl N H)]))<|sX 2 5 (.ab [.agg Hx,.one (i 14)]) (R:=bk op B (.sl N F) y c z (.sl N H) O N) (G) ?_
 rfl):=h
def aq8 (h:P:=by
 simp only[aJ,e4]at h |-
 split at h
 ·split at h
  ·rename_i N es J hb;obtain⟨p,q⟩:=dt hb s_;split at h
   ·rename_i U;simp at h;obtain⟨rfl,rfl⟩:=h;simp only[J,q,U,if_true,n_ n p]
   simp at h
  simp at h
 simp at h):=h
abbrev aq9(a:A:=by exact(fun r=>∃(K:Int)(k W:PV)(w':Nat)(A:p0),r=a [i 32,i 1,i 0,i 0,e_,e_,i 1,i 0,i 0,i 0,i 1,i 0,i 0,i K,i K,.p k,.p W,b false]/\0<=K/\K<=100/\aa ae (ao.take w') k/\w'<=3/\aa ai A W/\A.length<=300)):=a
def axC (h:P:=by
 refine qJ 19 11 d ?_
 rcases df (decide (q<0)==decide (w<0)) with j|j
 ·refine qE 0 66 j bJ<|qQ 14 2 0 (yw (0 - d)) i<|qF 0 (.ab [.agg [i (0 - d),i k],.one xA]) ?_
  exact l_
 refine qE 0 66 j bJ<|qF 10 (.ab [.agg [i d,i k],.one xA]) ?_
 exact l_):=h
abbrev Zm(a:A:=by exact[.agg Hx,.one (i e)]):=a
abbrev aq_(a:A:=by exact qG 0 aj L2 k<|qO 0 (e4 TT 250 (o adl) (o (i (L.getD k.toNat 0))) (o (i (L2.getD k.toNat 0)))) (fun _=>(zh (kt:=3) (e:=3) (M:=M) k_ k_ k_))<|qJ 7 13 (k+1)<|qK 0 [0] (d ((k+1),(iE (L.getD k.toNat 0) (L2.getD k.toNat 0) M)) t_ t_) (hh:=m_)):=a
abbrev X4(a:A:=by exact i ((↑x.size:Int) - 1 - k)):=a
abbrev ara(a:A:=by exact⟨_,rfl,by first| assumption|(constructor<;>(intro j;simp_all;try omega))⟩):=a
abbrev arb(a:A:=by exact⟨_,rfl,by first| assumption|(constructor<;>(intro h;simp_all;try omega))⟩):=a
abbrev arc(a:A:=by exact[Dp.mk (PV.sl D.length (XT D)) D (G_ C q) aa.sl n]):=a
def aqW (h:P:=by
 rintro _ ⟨j2,j3,j4,j5,j6,j7,j8,j9,j',kd,kl,kt,kv,k1,k2,k',ld,_,_,rfl,_,_,_,_,_,_,_,_,_,_⟩
 exact yF 2 (a [i j2,i j3,i j4,i j5,sv j6,sv j7,i j8,i j9,i j',i kd,i kl,i kt,i kv,i k1,i k2,.p k',.p ld,b hs])<|l_):=h
def aqX (h:P:=by
 rintro _ ⟨j3,j4,j5,j6,j7,j8,j9,j',kd,kl,kt,kv,k1,k2,k',ld,le,_,_,rfl,_,_,_,_,_,_,_,_,_,_⟩
 exact yF 2 (a [i j3,i j4,i j5,i j6,sv j7,sv j8,i j9,i j',i kd,i kl,i kt,i kv,i k1,i k2,i k',.p ld,.p le,b hs])<|l_):=h
def aqY (h:P:=by
 obtain⟨z,c⟩:=h;cases vs with
 |nil=>simp at z
 |cons v vs=>
  obtain⟨u,j,l⟩:=c 0 x rfl;simp at j;subst j
  exact⟨v,vs,rfl,l,by simpa using z,fun i y B=>by obtain⟨u,j,l⟩:=c (i+1) y (by simpa using B);simp_all⟩):=h
abbrev V9(a:A:=by exact⟨#[105,102]⟩):=a
def ajT(h:P:=by first| exact⟨_,_,rfl,rfl,bV w_,w_⟩|exact⟨_,[],rfl,rfl,.nil rfl,s_⟩):=h
abbrev aqZ(a:A:=by exact(fun r=>∃l' V:Int,r=a [i l',i V]/\(l<=h->m<=n->l'=min l m/\V=max h n)/\(h<l->m<=n->l'=m/\V=n)/\(l<=h->n<m->l'=l/\V=h)/\(h<l->n<m->l'=1/\V=0))):=a
abbrev Zl(a:A:=by exact⟨w_,w_,by simp;omega,a_⟩):=a
def aq0 (h:P:=by
 rintro _ _ ⟨B,C,V,D,E,M,rfl,rfl,_,_,_⟩
 exact db 2 (a [i B,sv C,i V,i D,i E,nl,nl]) [.p x,i M] (r':=a [i B,sv C,i V,i D,i E,nl,nl]) (ts:=[])<|⟨_,_,_,_,_,_,_,_,rfl,rfl,.inl ⟨a_,rfl,rfl⟩,a_⟩):=h
abbrev ajU(a:A:=by exact(kv (r:=axn) k_).mono (fun r h=>⟨0,⟨#[]⟩,0,0,0,h,.inl ⟨rfl,rfl,rfl,rfl,d_,d_⟩,by simp[dZ]⟩)):=a
abbrev ab0(a:A:=by exact[i k,sv v,i n,i m,i j,nl,nl]):=a
abbrev Zo(a:A:=by exact fun _=>(bI (e:=3) k_ k_ w_ w_)):=a
abbrev Zp(a:A:=by exact fun _=>(bI (e:=9) k_ k_ w_ w_)):=a
abbrev By(a:A:=by exact .nil rfl):=a
abbrev arv(a:A:=by exact hZ ((G_ (G_ R V).R A).k) ((G_ (G_ R V).R A).dn) ((G_ (G_ R V).R A).ds) ((G_ (G_ R V).R A).n) ((G_ (G_ R jj).R A).k) ((G_ (G_ R jj).R A).dn) ((G_ (G_ R jj).R A).ds) ((G_ (G_ R jj).R A).n) ((G_ (G_ R V).R A).s) ((G_ (G_ R jj).R A).s)):=a
abbrev WS(a:A:=by exact[o (.p x),o (.p y)]):=a
def adR (h:P:=by
 rintro _ ⟨v,rfl,_⟩;refine yF 3 (o (b v)) ?_
 (simp_all;done)):=h
abbrev arw(a:A:=by exact[(0+a+0).tmod 16777216,((0+a+0).tdiv 16777216+b+0).tmod 16777216,(((0+a+0).tdiv 16777216+b+0).tdiv 16777216+c+0).tmod 16777216,(((0+a+0).tdiv 16777216+b+0).tdiv 16777216+c+0).tdiv 16777216]):=a
abbrev arx(a:A:=by exact⟨w_,w_,by simp;omega,q6 (B:=[]) (fun _ h=>by simp at h) w_,a_⟩):=a
abbrev X6(a:A:=by exact .ab [.one (i 0),.one LB]):=a
def ary(h:P:=by first| assumption|exact jP):=h
abbrev arz(a:A:=by exact[Ab.mk m ap aw a0 a1 a2 be bo br bU cb cc cd cg ci cl cm cn cs b1 b3 ct cv cw cI cS c0 c1 c2 c3 c4 dd dh dl dn]):=a
abbrev VN(a:A:=by exact .ad 0 f V 1):=a
def arA (h:P:=by
 rcases hp with⟨rfl,rfl⟩|⟨M,rfl,rfl,h1⟩
 ·exact .inl (h.mono fun y l e=> .inl ⟨e.1,trivial⟩)
 refine .inr ⟨M,h1,h.mono fun y l e=> .inr ⟨_,_,1,e.1,by rw[e.2];rfl,?_,rfl,rfl⟩⟩
 simp[pc,cj]):=h
abbrev agj(a:A:=by exact aB M+c*16777216^k.toNat=aB (U.take k.toNat)+aB (V.take k.toNat)):=a
def adS(h:P:=by cases q<;>cases r<;>cases s<;>cases t<;>cases u<;>rfl):=h
abbrev arB(a:A:=by exact[Ab.mk f g m ap aw a0 a1 a2 be bo b1 b3 cb cc cd cg ci cl cm br bU cn cs ct cv cw cI cS c0 c1 c2 c3 c4 dd dh]):=a
abbrev ake(a:A:=by exact⟨_,rfl,fun h=>by subst h;simp_all⟩):=a
abbrev XI(a:A:=by exact fun _=>(fN k_ w_ w_)):=a
abbrev agk(a:A:=by exact fun _=>aog):=a
abbrev arC(a:A:=by exact(fun r=>∃(k V A n:Int)(s:BA)(y z:PV)(e:Int),r= .ab [.agg [i k,sv s,i V,i A,i n,.p y,.p z],.one (i e)]/\(e=0->¬k=0)/\aa ae [] y/\aa aj [] z/\(e=0->dH k s V A n))):=a
abbrev arD(a:A:=by exact(fun r=>∃(k V B n:Int)(s:BA)(y z:PV)(e:Int),r= .ab [.agg [i k,sv s,i V,i B,i n,.p y,.p z],.one (i e)]/\(e=0->¬k=0)/\aa ae [] y/\aa aj [] z/\(e=0->dH k s V B n))):=a
def agl(h:P:=by rintro _ ⟨v,rfl,P⟩;cases v;rfl;exact absurd (P.1 rfl) h):=h
abbrev WT(a:A:=by exact VQ 36 (aoL op) nA):=a
abbrev arE(a:A:=by exact(fun r=>∃(g:Bool)(c:BA),r=a [b g,sv c,i s]/\(c.size:Int)<=15/\(0<=n->ah c=n)/\(n<0->ah c= -n)/\g=decide (n<0)/\E1.Canon c/\ah c<=1000000000000000)):=a
abbrev aj3(a:A:=by exact .sl ((G_ L X).F.length) (List.flatMap ae (G_ L X).F)):=a
abbrev aro(a:A:=by exact a [i (((G_ R B).R.getD 0 default).k),.p (.vl (.string (((G_ R B).R.getD 0 default).s))),i (((G_ R B).R.getD 0 default).dn),i (((G_ R B).R.getD 0 default).ds),i (((G_ R B).R.getD 0 default).n),nl,nl]):=a
abbrev arq(a:A:=by exact[o (sv op),o (sv B),o (.p y),o (.p c)]):=a
abbrev XH(a:A:=by exact k<(↑s.size:Int)):=a
abbrev abZ(a:A:=by exact[o (sv op),o (sv B),o (.p y),o (.p D)]):=a
def ars (h:P:=by
 simp only[Instr.enterLoop,Sem.run_bind,run_newObj,Result.andThen_ok,Sem.run_pure];have e:({w with heap:=w.heap.push (.deferred (some []))}:World).heap.size=w.heap.size+1:=by simp
 rw[e]
 rfl):=h
abbrev aai(a:A:=by exact[i k,sv s,i V,i A,i n,nl,nl]):=a
abbrev aj4(a:A:=by exact a [i K,i L,i d,i G,sv D,sv M,i n,i s,i m,i t,i l,i Y,i h,i N,i T,.p C,.p E,b false]):=a
abbrev aj5(a:A:=by exact a [i K,i J,i d,i G,sv D,sv M,i n,i s,i m,i t,i l,i Y,i h,i L,i T,.p C,.p E,b false]):=a
def art (h:P:=by
 have f:bE (a [i V,i A])=some (.agg #[.int .i64 V,.int .i64 A]):=by kernel_rfl
 have g:bE (a [i e,i j])=some (.agg #[.int .i64 e,.int .i64 j]):=by kernel_rfl
 simp only[bj,f,g,dX,h]
 rfl):=h
abbrev agf(a:A:=by exact qK 0 [0,1] (e (.inr (.inr ((K+1),_,h,R,O))) g_ t_) (hh:=m_)):=a
def aj6(h:P:=by first| exact⟨_,_,rfl,l7⟩|exact⟨_,_,rfl,w_⟩|(have:=l8 j;exact⟨_,_,rfl,w_⟩)):=h
def aru (h:P:=by
 rw[he];have hm:(#[Operand.const (.func (.yield (w.heap.size+1)) #[] #[])]:Array Operand).map (bx t)=#[.func (.yield (w.heap.size+1)) #[] #[]]:=by simp[bx]
 simp only[resolve,hm]
 exact y):=h
def aj7 (h:P:=by
 intro x M
 rcases aaV.1 M with h2|h2
 ·exact h x h2
 simp only[V0,Yc,Yd]at h2;subst h2;exact i):=h
def X5(h:P:=by have:=h.h4;omega):=h
abbrev aj8(a:A:=by exact(fun r=>∃e:Int,r= .ab [.agg [i 0,e_,i 0,i 0,i 0,nl,nl],.one (i e)]/\¬e=0)):=a
abbrev Zn(a:A:=by exact fun z=>i (z.tmod 16777216)):=a
def agh(h:P:=by first| exact .inl ⟨rfl,rfl⟩|exact .inr ⟨_,rfl,rfl,w_,w_⟩):=h
abbrev agi(a:A:=by exact o (.ref 1 (0+s.toNat*2))):=a
abbrev aj9(a:A:=by exact[i 16,i J,i d,i G,sv D,sv M,i n,i s,i m,i t,i l,i Y,i h,i K,i T,nl,nl,b false]):=a
abbrev aj_(a:A:=by exact[i 32,i 1,i 0,i 0,e_,e_,i 1,i 0,i 0,i 0,i 1,i 0,i 0,i K,i K,.p y,.p A,b false]):=a
abbrev aka(a:A:=by exact[i 2,i J,i d,i G,sv D,sv M,i n,i s,i m,i t,i l,i Y,i h,i K,i T,nl,nl,b false]):=a
abbrev akb(a:A:=by exact[i 4,i J,i d,i G,sv D,sv M,i n,i s,i m,i t,i l,i Y,i h,i K,i T,nl,nl,b false]):=a
abbrev akc(a:A:=by exact[i 8,i J,i d,i G,sv D,sv M,i n,i s,i m,i t,i l,i Y,i h,i K,i T,nl,nl,b false]):=a
abbrev akd(a:A:=by exact[i K,i J,i d,i G,sv D,sv M,i n,i s,i m,i t,i l,i Y,i j,i L,i T,nl,nl,b false]):=a
abbrev agc(a:A:=by exact fun r ⟨y,M,i,j,k,l,m⟩=>⟨y,M,i,j,k T,l,m⟩):=a
def ari (h:P:=by
 obtain⟨k,l⟩:=dt hb s_;simp only[h1,h2,l];split at h
 ·split at h
  ·rename_i hl;simp at h;obtain⟨rfl,rfl⟩:=h;simp only[hl,if_true,fO n]
  simp at h
 simp at h):=h
abbrev arj(a:A:=by exact yF 2 (o (sv (aC s k (↑s.size:Int))))<|⟨_,rfl,by first| (rw[cp w_ w_ w_];omega),zR w_ w_ a_,by first| exact y8 w_ w_ (by first| omega| (right;omega)|(left;omega))⟩):=a
def agd (h:P:=by
 split at h
 ·simp at h;obtain⟨_,rfl⟩:=h;exact hI
 simp at h):=h
abbrev V_(a:A:=by exact eB k_ w_ w_):=a
def aj2 (h:P:=by
 rw[List.map_set];unfold eM;rw[List.set_eq_take_append_cons_drop,if_pos (by simpa using C)]
 simp):=h
abbrev ark(a:A:=by exact[i 0,i 1,i 0,i 0,e_,e_,i n,i t,i n,i t,i 1,i 0,i 0,i 1,i 0,nl,nl,b false]):=a
abbrev arn(a:A:=by exact mo k_ (mo k_ (mo k_ (mo (gf k_) (mo (gf k_) (mo k_ (fm))))))):=a
abbrev age(a:A:=by exact(op.toList==(ByteArray.mk #[99,111,108]).toList)=false):=a
abbrev Yz(a:A:=by exact k<(↑R.length:Int)):=a
abbrev arY(a:A:=by exact⟨_,rfl,by first| omega| (simp only[aaI,s4];omega)⟩):=a
abbrev agq(a:A:=by exact qK 0 [0] (e (.inr (.inl ((I+1),_,g,Q))) g_ t_) (hh:=m_)):=a
def arZ (h:P:=by
 have hlen:L.length<=L1.length:=by have:=N.len;rw[cr]at this;exact this
 exact⟨r,c8 M L L1,v,A',S',w',⟨L1,q,rfl⟩,E,J,yg C hlen n U N F,yf C hlen n N F⟩):=h
abbrev aki(a:A:=by exact[.p (.sl 1 [I_ k,S_ w,I_ n,I_ m,I_ j,.vl vn,.vl vn])]):=a
abbrev ar0(a:A:=by exact c' (n:=((IntKind.u64.wrap (↑(BitVec.ofInt IntKind.u64.bits (x*1152921504606846976) ||| BitVec.ofInt IntKind.u64.bits (l.fdiv 16)).toNat:Int)).tdiv 2684354560)) aO aO):=a
abbrev X7(a:A:=by exact[o (sv s),o (sv t)]):=a
abbrev akj(a:A:=by exact VQ 98 [o (sv op),o (sv B)] (.ab [.agg [.p f,.p g,.p j,.p (aoH F)],.one (b true)])):=a
def ab2(h:P:=by rintro _ ⟨v,rfl,rfl⟩;rfl):=h
abbrev ar1(a:A:=by exact pY u v x B C e _ J d G E N F H I O Q Y U W X f cd cg ci cl cm cn _ ct cv cw cI cS c0 c1 c2 c3 c4 dd dh dl dn ds g w_ w_ w_ w_ w_ ap w_ aw w_ d0 w_ w_ w_ w_ w_ d1 w_ d2 w_):=a
abbrev aaj(a:A:=by exact mo (gf k_) (fm)):=a
abbrev axF(a:A:=by exact[(c+L.getD k.toNat 0+N.getD k.toNat 0).tmod 16777216]):=a
def ar2 (h:P:=by
 refine vX f8<|yV 10 E<|yL 15 hy<|yV 16 I<|yV 7 l<|yE 4 56 z ob<|yL 26 hy<|yI 16 0 hy ?_ (h1:=s_)
 refine yD 6 abb ZZ Vr<|yV 5 L<|yV 17 jl<|yF 2 X0 ?_
 rfl):=h
abbrev akk(a:A:=by exact kU w f (IntKind.i64.wrap (w+IntKind.i64.wrap (f.tdiv 1000000))) (f.tmod 1000000) g_):=a
def agr (h:P:=by
 split at h
 ·simp at h;subst h;exact⟨rfl,rfl⟩
 simp at h):=h
abbrev agt(a:A:=by exact(op.toList==(ByteArray.mk #[105,102]).toList)=false):=a
abbrev ar4(a:A:=by exact yO 5 (e8 prog TT 172 9 (o (Y2 B))) an6<|db 2 (adn B) [.p x,i a] (r':=(adn B)) (ts:=[])<|⟨_,_,rfl,rfl,zZ a_ w_,a_⟩):=a
def adV(h:P:=by rintro r rfl;exact⟨_,rfl,rfl⟩):=h
abbrev aak(a:A:=by exact .p (.vl (.int .u8 (an x k)))):=a
abbrev aal(a:A:=by exact[.p K.x]):=a
def ar5 (h:P:=by
 refine a3 7 P ?_;cases y:v
 ·exact qJ 16 10 (k+1)<|qK 0 [0,3] (d (.inr ((k+1),([(G_ D k)]))) g_ t_)
 exact qJ 10 10 (k+1)<|qK 0 [0] (d (.inl (k+1)) t_ t_)):=h
abbrev axG(a:A:=by exact⟨w_,w_,by simp;omega,tK a_ a_ a_ a_,a_,rfl⟩):=a
abbrev ar6(a:A:=by exact .sl 4 [I_ k,S_ s,I_ n,I_ m,I_ d,.vl vn,.vl vn,I_ l,S_ u,I_ q,I_ t,I_ e,M,c,I_ v,S_ A,I_ w,I_ x,I_ g,N,h,I_ B,S_ E,I_ C,I_ D,I_ j,O,F]):=a
abbrev ar7(a:A:=by exact .sl 4 [I_ k,S_ s,I_ n,I_ m,I_ d,.vl vn,.vl vn,I_ l,S_ u,I_ q,I_ t,I_ g,M,c,I_ v,S_ y,I_ w,I_ x,I_ h,N,j,I_ z,S_ D,I_ A,I_ B,I_ C,O,E]):=a
abbrev arI(a:A:=by exact .sl 4 [I_ k,S_ s,I_ n,I_ m,I_ d,M,c,I_ l,S_ u,I_ q,I_ t,I_ e,.vl vn,.vl vn,I_ v,S_ A,I_ w,I_ x,I_ g,N,h,I_ B,S_ E,I_ C,I_ D,I_ j,O,F]):=a
abbrev arJ(a:A:=by exact .sl 4 [I_ k,S_ s,I_ n,I_ m,I_ d,M,c,I_ l,S_ u,I_ q,I_ t,I_ g,.vl vn,.vl vn,I_ v,S_ y,I_ w,I_ x,I_ h,N,j,I_ z,S_ D,I_ A,I_ B,I_ C,O,E]):=a
abbrev arK(a:A:=by exact .sl 4 [I_ k,S_ s,I_ n,I_ m,I_ d,M,c,I_ l,S_ u,I_ q,I_ t,I_ e,N,g,I_ v,S_ A,I_ w,I_ x,I_ h,.vl vn,.vl vn,I_ B,S_ E,I_ C,I_ D,I_ j,O,F]):=a
abbrev arL(a:A:=by exact .sl 4 [I_ k,S_ s,I_ n,I_ m,I_ d,M,c,I_ l,S_ u,I_ q,I_ t,I_ g,N,h,I_ v,S_ y,I_ w,I_ x,I_ j,.vl vn,.vl vn,I_ z,S_ D,I_ A,I_ B,I_ C,O,E]):=a
abbrev arM(a:A:=by exact .sl 4 [I_ k,S_ t,I_ n,I_ m,I_ d,.vl vn,.vl vn,I_ l,S_ v,I_ q,I_ u,I_ g,B,C,I_ D,S_ H,I_ E,I_ F,I_ G,I,J,I_ M,S_ Q,I_ N,I_ O,I_ P,R,S]):=a
abbrev arN(a:A:=by exact .sl 4 [I_ k,S_ t,I_ n,I_ m,I_ d,z,A,I_ l,S_ v,I_ q,I_ u,I_ g,.vl vn,.vl vn,I_ D,S_ H,I_ E,I_ F,I_ G,I,J,I_ M,S_ Q,I_ N,I_ O,I_ P,R,S]):=a
abbrev arO(a:A:=by exact .sl 4 [I_ k,S_ t,I_ n,I_ m,I_ d,z,A,I_ l,S_ v,I_ q,I_ u,I_ g,B,C,I_ D,S_ H,I_ E,I_ F,I_ G,.vl vn,.vl vn,I_ M,S_ Q,I_ N,I_ O,I_ P,R,S]):=a
def arQ (h:P:=by
 rintro _ ⟨q,t,v,rfl⟩;refine qC 11 (lg q t v 3 w_) ?_;rintro _ ⟨l,u,w,f,rfl,_⟩
 exact qF 5 (.ab [.agg [i l,e_,i u,i w,i 0,nl,nl],.one (i f)]) l_):=h
abbrev arR(a:A:=by exact c' (n:=((IntKind.u64.wrap (IntKind.u64.wrap (IntKind.u64.wrap (u*4294967296)+v) - IntKind.u64.wrap (t*11529215046068469760))).tdiv 2684354560)) aO aO):=a
abbrev arS(a:A:=by exact⟨_,rfl,by first| omega| (rw[gd,WZ];omega)⟩):=a
abbrev Zq(a:A:=by exact q<(↑L.length:Int)):=a
abbrev Zr(a:A:=by exact q<(↑N.length:Int)):=a
abbrev arT(a:A:=by exact yJ 10 5 (k+1)<|yK 0 [] (d (k+1) (by(refine⟨w_,w_,w_,fun j h l=> ?_⟩;rcases aaL (acA l) with h3|h3;(exact Z j h h3);(subst h3;omega))) t_)):=a
abbrev WD(a:A:=by exact(1,o tg)):=a
abbrev WE(a:A:=by exact(2,o vQ)):=a
abbrev WG(a:A:=by exact(3,o Yj)):=a
def axD (h:P:=by
 refine yC 0 (pw M (ao1 M) aa.sl w_ w_) ?_;rintro _ ⟨g,rfl,_,_,_⟩
 exact yF 2 (o (sv g))<|⟨_,rfl,w_,AX (c:=d) (k:=q) a_ a_ a_ a_ w_ w_ w_,a_⟩):=h
abbrev adU(a:A:=by exact yK 0 [] (d (k+1) w_ w_)):=a
def akh (h:P:=by
 simp only[IntKind.wrap,IntKind.bits,IntKind.signed]
 constructor<;>simp<;>omega):=h
abbrev axE(a:A:=by exact⟨w_,w_,by simp;omega,zi a_ a_ a_,a_,rfl⟩):=a
abbrev arU(a:A:=by exact[cI 0,C_ Bq,cI 0,cI 0,cI 0,cS s,cS ⟨#[89,89,89,89,45,77,77,45,68,68]⟩,.loop (bA ⟨#[89,89,89,89,45,77,77,45,68,68]⟩ s)]):=a
def arV (h:P:=by
 have:(z.toList.map fun p=>(p.1,ρ p.2))=z.toList.map fun p=>(p.1,ρ' p.2):=te fun p hp=>h p.2 (by simp[Op.operands];grind)
 simp only[aJ,this]):=h
abbrev ago(a:A:=by exact fun z=>o (i (IntKind.i64.wrap (z.tdiv 16777216)))):=a
abbrev agp(a:A:=by exact .inr (.inr (.inl ⟨rfl,rfl,rfl,rfl,d_,d_⟩))):=a
abbrev arW(a:A:=by exact a [i 2,i ((↑s.size:Int)),i ((↑s.size:Int)),i ((↑(bW s):Int)),sv s,sv s,i 1,i 0,i 0,i 0,i 1,i 0,i 0,i 1,i 0,nl,nl,b false]):=a
def adT (h:P:=by
 rintro _ ⟨t,rfl,_⟩
 exact qF 2 (WQ t) l_):=h
abbrev agm(a:A:=by exact fun z=>[a [sv pa,.p y,.p cc,.p z],o (.p xs)]):=a
def arF (h:P:=by
 unfold rX at s;split at s
 ·rename_i g E heq;simp at s;obtain⟨rfl,rfl⟩:=s;rw[heq]at u;obtain⟨B,d,F,rfl⟩:=u
  simp_all
 simp at s):=h
abbrev Xj(a:A:=by exact⟨w_,a_⟩):=a
def arG (h:P:=by
 have e:(parts.toList.map fun p=>(p.1,ρ' p.2)).toArray=parts.map fun(i,x)=>(i,ρ' x):=by
  apply aaP;simp
 rw[e]at this
 exact cM.val this):=h
def arH(h:P:=by first| exact⟨_,_,_,_,_,_,_,rfl,a_⟩|exact⟨_,_,_,_,_,[],[],rfl,.inl ⟨rfl,rfl,rfl,rfl,rfl⟩,.nil rfl,s_,.nil rfl,s_⟩):=h
def akg (h:P:=by
 rintro _ ⟨u,w,x,rfl,_⟩
 exact qF 5 (.ab [.agg [i u,i w],.one (b x)]) l_):=h
def agn(h:P:=by simp[Op.operands];grind):=h
abbrev ab1(a:A:=by exact[C_ aaW,P_ ai M,C_ (acU C)]):=a
abbrev Wp(a:A:=by exact[sv t,b f]):=a
def arX (h:P:=by
 split at h
 ·simp at h;obtain⟨rfl,rfl⟩:=h;simp[iR n,cr]
 simp at h):=h
def agz (h:P:=by
 simp[IntKind.wrap,IntKind.bits,IntKind.signed]
 omega):=h
abbrev agA(a:A:=by exact[o (i R),a [i k,sv s,i q,i m,i d,nl,nl]]):=a
abbrev WU(a:A:=by exact .sl N H):=a
abbrev aso(a:A:=by exact .inr (((d+L.getD q.toNat 0+N.getD q.toNat 0).tdiv 16777216),(q+1),(M++[(d+L.getD q.toNat 0+N.getD q.toNat 0).tmod 16777216]))):=a
abbrev axI(a:A:=by exact o (.p (.sl ((List.take k.toNat L++s::List.drop k.toNat L).length) (List.flatMap ae (List.take k.toNat L++s::List.drop k.toNat L))))):=a
abbrev akq(a:A:=by exact[sv q,.p b,.p c,.p A]):=a
abbrev akr(a:A:=by exact .sl (ao.take w).length ((ao.take w).flatMap ae)):=a
def asp (h:P:=by
 have h2:(1:Int)<=ah e:=by have:=nT (s:=e) (m:=0) c w_;simpa using this
 rw[o]at V;simp only[sg]at V
 exact⟨rfl,aii w_ hp⟩):=h
abbrev asq(a:A:=by exact⟨_,_,_,_,_,rfl,w_,w_,a_,w_,a_,w_⟩):=a
def VO(h:P:=by simp;omega):=h
abbrev agB(a:A:=by exact yK 0 [0] (g (.inl ((W+1),B)) t_ t_) (hh:=m_)):=a
abbrev aks(a:A:=by exact(fun r=>∃(k:Int)(v:Bool),r= .ab [.one (i k),.one (b v)])):=a
abbrev asr(a:A:=by exact VQ 38 [v.A,o (i r)] (.ab [.agg [i 0,i 1,i 0,i 0,e_,e_,i 1,i 0,i 0,i 0,i 1,i 0,i 0,i 1,i 0,nl,nl,b false],.one (b g)])):=a
def ass (h:P:=by
 refine⟨by simp[B.1],fun i y z=> ?_⟩;cases i with
 |zero=>simp_all
 |succ i=>simp at z;obtain⟨u,j,k⟩:=B.2 i y z;simp_all):=h
abbrev Zu(a:A:=by exact[o (.p x),o (sv s)]):=a
abbrev adZ(a:A:=by exact .sl O.length (acX T)):=a
def agD (h:P:=by
 refine yF 19 ni ?_
 exact l_):=h
abbrev Vs(a:A:=by exact .fn 187):=a
abbrev agE(a:A:=by exact[i k,sv s,i n,i m,i d,nl,nl]):=a
def ab4(h:P:=by simp only[aB];omega):=h
def axJ(h:P:=by simp only[WY];omega):=h
abbrev asv(a:A:=by exact VQ 34 [o (sv ⟨#[105,102]⟩),o (sv B),o (.p q),o (.p D)] (.ab [.one (.p (.sl 3 [I_ r,I_ u,I_ v])),.one (i M),.one (i 0)])):=a
def asb (h:P:=by
 rename_i r H;refine fL a (y _ _ _ h) ?_;rintro n s ⟨rfl,rfl⟩;cases n with
 |normal=>simp_all
 |exit i=>simp_all
 |ret=>simp_all):=h
abbrev agv(a:A:=by exact yw (c+L.getD k.toNat 0+N.getD k.toNat 0)):=a
abbrev asc(a:A:=by exact fun r cs=>r=o (b true)/\cs=[i 0,i 1,i 0,i 0,e_,e_,i 1,i 0,i 0,i 0,i 1,i 0,i 0,i K,i K,.p k,.p W,b false]):=a
def asd (h:P:=by
 simp only[CG]at D;obtain⟨l,hp,V⟩:=D;simp at V;obtain⟨rfl,rfl⟩:=V;obtain⟨B,R,q,H,p,rfl,t,I⟩:=M
 simp_all):=h
abbrev ase(a:A:=by exact[(0+a+0).tmod 16777216,((0+a+0).tdiv 16777216+b+0).tmod 16777216,((0+a+0).tdiv 16777216+b+0).tdiv 16777216]):=a
def akn(h:P:=by first| rfl|(exfalso;omega)|simp_all):=h
def asf (h:P:=by
 obtain⟨k,l⟩:=dt hb s_;simp only[l];split at h
 ·rename_i hle;simp at h;subst h;simp only[hle,if_true,n_ n k]
 simp at h):=h
def YB(h:P:=by simp[aF.wr]):=h
abbrev asg(a:A:=by exact⟨w_,w_,by simp;omega,q6 a_ w_,a_⟩):=a
abbrev ash(a:A:=by exact(fun r=>∃s t v,r= .ab [.one (sv s),.one (sv t),.one (b v)]/\(s.size:Int)<=x.size/\(t.size:Int)<=x.size)):=a
def axH(h:P:=by(try dsimp only);exact⟨w_,by first| omega| (rw[I];omega),by first| exact zc a_ w_ w_ w_ a_ w_|exact zd a_ w_ w_ w_ a_ w_⟩):=h
def ako(h:P:=by cases O;obtain⟨B,d,r,rfl⟩:=s;rcases z with rfl|rfl<;>rfl):=h
abbrev aan(a:A:=by exact o (.ad 0 0 B.length 1)):=a
abbrev asj(a:A:=by exact fun k=>([(1,o n5),(Z9 w),(5,o (i ((↑D.size:Int)+(↑M.size:Int)))),(Wi k)],[C_ [i K,i d,i G,sv D,sv M]])):=a
abbrev agw(a:A:=by exact[o (sv op),o (sv pa),o (.p y),o (.p cc)]):=a
abbrev aao(a:A:=by exact fun _=>(iV k_ aO aO)):=a
def asl (h:P:=by
 rintro _ ⟨m,t,rfl,_⟩
 exact db 12 (a [i m,i t]) [.p x,i M] (r':=a [i m,i t]) (ts:=[])<|⟨_,_,_,rfl,rfl,a_,a_⟩):=h
abbrev adW(a:A:=by exact y=true->1<=B/\B<=3):=a
abbrev adX(a:A:=by exact i ((↑(G_ R k).R.length:Int))):=a
abbrev adY(a:A:=by exact j<(↑(G_ R k).R.length:Int)):=a
abbrev agx(a:A:=by exact[o (.aI 4),o tg,o vQ,o Yj]):=a
def akp (h:P:=by
 intro j a2 a_
 rcases i4 a2 a_ with rfl|rfl|rfl|rfl<;>kernel_rfl):=h
def asm (h:P:=by
 repeat' split at h
 all_goals first| (simp at h;done)|skip
 all_goals (simp at h;obtain⟨rfl,rfl⟩:=h;simp_all[iR n,cr])):=h
abbrev agy(a:A:=by exact fun k=>([(pD x),(sE y),(Xa k)],[])):=a
def ar8 (h:P:=by
 rintro _ ⟨m,V,B,q,t,D,E,f,rfl,_,_,_,_⟩
 exact qF 5 (.ab [.agg [i m,sv t,i V,i B,i q,.p D,.p E],.one (i f)]) l_):=h
abbrev ab3(a:A:=by exact⟨_,w_,w_,a_,w_⟩):=a
abbrev ar9(a:A:=by exact⟨_,rfl,by rw[cp]<;>first| omega| (rw[iY];show _<=(36:Int);omega)|(rw[iY];show _<=(200:Int);omega)⟩):=a
abbrev ar_(a:A:=by exact x2 (e:=5) (L:=B) (i:=t5) (zero:=(List.map ZN (Value.int IntKind.u8 0).cells.toList)) k_ k_ k_ k_ k_ k_ k_ k_ w_ w_):=a
abbrev YA(a:A:=by exact[.p x,i M]):=a
def asa (h:P:=by
 rcases j with rfl|rfl
 ·exact(kv (r:=o (b false)) k_).mono (by simp_all)
 exact(kv (r:=o (b true)) k_).mono (by simp_all)):=h
abbrev akm(a:A:=by exact[.p (aa6 D),sv (G_ C q)]):=a
abbrev aam(a:A:=by exact⟨#[99,111,108]⟩):=a
abbrev Zs(a:A:=by exact VQ 36 (aoL op) ni):=a
abbrev Zt(a:A:=by exact .ad 0 0 Q.length 1):=a
abbrev WH(a:A:=by exact aa.nil rfl):=a
abbrev asP(a:A:=by exact kU w f (IntKind.i64.wrap (IntKind.i64.wrap (w+IntKind.i64.wrap (f.tdiv 1000000)) - 1)) (f.tmod 1000000+1000000) g_):=a
def asQ (h:P:=by
 refine .inr (ix.uL O ⟨fun b O=>qS w_ u O,fun b O=>qS z v O⟩ ?_)
 rcases xr e p z with hd|hd
 ·simp_all
 exact yx hd):=h
abbrev aky(a:A:=by exact .p (.sl 2 [I_ 0,I_ 0,I_ 0,axB,I_ 6,I_ 0,I_ 200,aaZ])):=a
def akz (h:P:=by
 rintro _ ⟨H,rfl,_⟩
 exact qF 3 (.ab [.agg Hx,.one (i H)]) l_):=h
abbrev agK(a:A:=by exact yF 7 VM<|⟨[],_,rfl,.nil rfl,s_⟩):=a
def kg(h:P:=by simp_all):=h
abbrev agL(a:A:=by exact(46,o (.aX (acJ L) (s.toNat*2+1)))):=a
abbrev asR(a:A:=by exact(fun r=>∃y z,r= .ab [.agg [i k,sv s,i n,i m,i d,.p y,.p z],.one (i 0)]/\aa ae [] y/\aa aj [] z)):=a
abbrev asS(a:A:=by exact C_ [i 32,i 1,i 0,i 0,LV.p acQ,LV.p acQ,i 1,i 0,i 0,i 0,i 1,i 0,i 0,i K,i K,LV.p x,LV.p z,b false]):=a
abbrev asT(a:A:=by exact a [i d4,i d5,i d',i en,sv eq,sv es,i e2,i e_,i fd,i fn,i fr,i fv,i fz,i fC,i fD,.p fE,.p fR,b d3]):=a
abbrev asU(a:A:=by exact a [i d',i en,i eq,i es,sv e2,sv e_,i fd,i fn,i fr,i fv,i fz,i fC,i fD,i fE,i fR,.p f_,.p gc,b d5]):=a
abbrev asV(a:A:=by exact a [i dh,i dl,i dn,i ds,sv d0,sv d1,i d2,i d3,i d4,i d5,i d',i en,i eq,i es,i e2,.p e_,.p fd,b dd]):=a
abbrev asW(a:A:=by exact a [i hL,i hN,i hO,i hR,sv hS,sv hT,i hV,i hW,i hX,i h0,i h1,i h2,i h3,i h4,i h5,.p h',.p id,b hK]):=a
abbrev akA(a:A:=by exact fun k=>(0<=k/\k<=Q.length)/\(0:Int)<=0):=a
abbrev asX(a:A:=by exact .p (.sl 2 [I_ a_,S_ bU,I_ be,I_ bo,I_ br,.vl vn,.vl vn,I_ b1,S_ cd,I_ b3,I_ cb,I_ cc,.vl vn,.vl vn])):=a
abbrev asY(a:A:=by exact(fun r=>∃l' V:Int,r=a [i l',i V]/\(l<=h->l'=l/\V=h)/\(h<l->l'=1/\V=0))):=a
abbrev axM(a:A:=by exact[(c+L.getD k.toNat 0).tmod 16777216]):=a
abbrev axN(a:A:=by exact[(c+N.getD k.toNat 0).tmod 16777216]):=a
abbrev akB(a:A:=by exact fun _ h=>by simp at h):=a
abbrev ab8(a:A:=by exact k<(↑N.length:Int)):=a
abbrev Xk(a:A:=by exact gA k_ w_ w_):=a
def asB(h:P:=by first| exact⟨w_,a_,w_⟩|exact⟨w_,.nil rfl,by simp;omega⟩|exact⟨w_,.sl,w_⟩):=h
abbrev asC(a:A:=by exact .ab [.agg [.p f,.p g,.p h,.p (aoH F)],.one (b true)]):=a
abbrev ab7(a:A:=by exact bI (e:=4) k_ k_ w_ w_):=a
abbrev agG(a:A:=by exact qK 0 [] (e (.inl ((r+1),_,f)) g_ t_)):=a
abbrev asD(a:A:=by exact VQ 34 [o (sv op),o (sv B),o (.p q),o (.p D)] (.ab [.one (.p (.sl 2 [I_ r,I_ s])),.one (i M),.one (i 0)])):=a
abbrev asE(a:A:=by exact yK 0 [] (d ((k+1),(dJ j (IntKind.i64.wrap (1*2^min w.toNat 64)))) (by exact⟨w_,w_,y9 a_ w_ a_⟩) t_)):=a
abbrev ad2(a:A:=by exact[C_ aaX,P_ ae M,C_ [sv s]]):=a
abbrev asF(a:A:=by exact[C_ [i (k+1)],C_ [sv x],C_ [sv x],C_ Bq,(abd R)]):=a
abbrev asG(a:A:=by exact[C_ [i (k+1)],C_ [sv x],C_ [sv x],C_ YX,(abd R)]):=a
abbrev asH(a:A:=by exact⟨k,⟨#[]⟩,0,0,_,_,rfl,rfl,.inr (.inr (.inr (.inl ⟨w_,rfl,rfl,rfl,w_,w_⟩))),rfl,a_⟩):=a
abbrev asI(a:A:=by exact[.p y,.p A,.p B,.p E,.p F,.p G,.p H,.p I,.p J,.p K,.p L,.p M,.p N,.p O,.p P,.p x,.p z,.p Q]):=a
abbrev asJ(a:A:=by exact[i (dJ 0 K),i L,i d,i G,sv D,sv M,i n,i s,i m,i t,i l,i Y,i (dJ 0 h),i N,i T,nl,nl,b false]):=a
abbrev axK(a:A:=by exact[i 0,i 1,i 0,i 0,e_,e_,i 1,i 0,i 0,i 0,i 1,i 0,i 0,i K,i K,.p y,.p (.sl v (afD P)),b false]):=a
abbrev asK(a:A:=by exact⟨w_,w_,(ut _ _).symm,w_,w_⟩):=a
abbrev asL(a:A:=by exact[(o (.ad 0 0 1 1)),(o (.p (.sl ((List.drop k.toNat L).length) (List.flatMap ae (List.drop k.toNat L)))))]):=a
abbrev asM(a:A:=by exact[(o (.ad 2 0 0 1)),(o (.p (.sl ((List.take k.toNat L).length) (List.flatMap ae (List.take k.toNat L)))))]):=a
abbrev axL(a:A:=by exact[i 0,i 1,i 0,i 0,e_,e_,i 1,i 0,i 0,i 0,i 1,i 0,i 0,i K,i K,nl,.p (.sl t (aqg Q)),b false]):=a
abbrev Zv(a:A:=by exact R.length<=100):=a
abbrev agH(a:A:=by exact .inl ⟨rfl,kT d_,rfl,rfl,rfl⟩):=a
abbrev agI(a:A:=by exact⟨#[97,109,111,117,110,116]⟩):=a
def akx(h:P:=by simp only[cf,dO,gi,A,gj,O,VP,WY,hl,if_true,f,e]):=h
abbrev asN(a:A:=by exact⟨_,_,rfl,qx (d:=d) (m:=ah d) w_ w_ w_ (kN d) w_ (by exact .inr (z0 (s:=d) a_ a_ rfl a_ a_))⟩):=a
abbrev asw(a:A:=by exact C_ [i 0,i 1,i 0,i 0,LV.p acQ,LV.p acQ,i 1,i 0,i 0,i 0,i 1,i 0,i 0,i 1,i 0,nl,nl,b false]):=a
abbrev asx(a:A:=by exact fun k=>([(0,o (.p (ZO w))),(1,o (.p z)),(19,o (.p (ZO w))),(20,o (aix w)),(21,o (i k))],[])):=a
abbrev ad0(a:A:=by exact lK _ _ _ _ w_ w_ w_ hz w_ C):=a
def ad1(h:P:=by refine⟨_,?_,rfl⟩;kernel_rfl):=h
abbrev asy(a:A:=by exact fun z=>o (b (z && (d==0 && (G==0 && (D.toList==(B_ []).toList && M.toList==(B_ []).toList)))))):=a
abbrev asz(a:A:=by exact VQ 34 [o (sv op),o (sv B),o (.p q),o (.p D)] (.ab [.one (.p (.sl 1 [I_ r])),.one (i M),.one (i 0)])):=a
abbrev agF(a:A:=by exact .inr (.inl ⟨rfl,rfl,d_,rfl⟩)):=a
abbrev aku(a:A:=by exact yK 0 [0,1] (g (.inr ((Q+1),c,a)) t_ t_) (hh:=m_)):=a
def akv (h:P:=by
 rintro _ ⟨q,rfl⟩
 exact qF 5 (axi q) l_):=h
abbrev asA(a:A:=by exact .inr (((d+L.getD q.toNat 0).tdiv 16777216),(q+1),(M++[(d+L.getD q.toNat 0).tmod 16777216]))):=a
abbrev asO(a:A:=by exact .inr (((d+N.getD q.toNat 0).tdiv 16777216),(q+1),(M++[(d+N.getD q.toNat 0).tmod 16777216]))):=a
abbrev XK(a:A:=by exact[.p x,i K]):=a
abbrev ad4(a:A:=by exact k<(↑x.size:Int)):=a
abbrev atc(a:A:=by exact(fun r N=>∃v:Bool,r=o (b v)/\N=[C_ [.p (.vl (vf 185))],P_ ai M,C_ [.p C.x,sv C.t]])):=a
abbrev akJ(a:A:=by exact[i k,sv w,i n,i m,i j,nl,nl]):=a
abbrev agU(a:A:=by exact ll _ _ 0 K W w_ w_ k q m d s h D j):=a
abbrev YE(a:A:=by exact[i l,i h]):=a
abbrev Xl(a:A:=by exact(2,o n5)):=a
abbrev atd(a:A:=by exact ii (G_ W j) (by exact jR a_ w_ w_)):=a
abbrev ate(a:A:=by exact ii (G_ W p) (by exact jR a_ w_ w_)):=a
abbrev Zx(a:A:=by exact(38,o (Yk R))):=a
abbrev atj(a:A:=by exact[i 5,e_,i 0,i 0,i 0,.p A,.ad 2 0 B.length 1]):=a
def agV(h:P:=by simp[Op.operands];simp_all):=h
abbrev atk(a:A:=by exact[i U,i V,i Z,i g,sv J,sv ap,i aw,i a0,i a1,i a2,i be,i bo,i br,i 1,i 0,nl,nl,b e]):=a
abbrev atm(a:A:=by exact yJ 9 6 (k+1)<|yK 0 [0] (e (k+1) (by exact(qz A a_ w_ w_).elim) (by exact(qz A a_ w_ w_).elim))):=a
abbrev atn(a:A:=by exact[i K,i L,i d,i G,sv D,sv M,i n,i s,i m,i t,i l,i Y,i h,i N,i T,.p x,.p z,b false]):=a
abbrev ato(a:A:=by exact .sl 2 [I_ l,S_ w,I_ u,I_ v,I_ j,.vl vn,.vl vn,I_ D,S_ J,I_ E,I_ G,I_ H,.vl vn,.vl vn]):=a
def agW (h:P:=by
 simp only[mh,hc,FX]at this
 exact this):=h
abbrev ad5(a:A:=by exact(41,o (.p ((G_ L s).x)))):=a
abbrev ad6(a:A:=by exact .aX (afa C) (q.toNat*1)):=a
abbrev atp(a:A:=by exact a [i K,i J,i d,i G,sv E,sv N,i F,i H,i I,i O,i Q,i Y,i U,i W,i X,.p Z,.p c,b e]):=a
abbrev as2(a:A:=by exact(fun r L=>∃S':List ByteArray,r= .ab []/\L=[x,y,A,P_ ae S']/\S'.length=N)):=a
abbrev as4(a:A:=by exact[i 2,i J,i d,i G,sv D,sv M,i 1,i 0,i 0,i 0,i 1,i 0,i 0,i 1,i 0,nl,nl,b false]):=a
abbrev as5(a:A:=by exact[i K,i J,i d,i G,sv E,sv M,i n,i s,i m,i t,i l,i Y,i h,i L,i T,.p x,.p z,b e]):=a
abbrev akF(a:A:=by exact .sl V.length (List.flatMap cF V)):=a
abbrev ad3(a:A:=by exact(ao.take w).length<=3):=a
abbrev akG(a:A:=by exact⟨#[89,89,89,89,45,77,77,45,68,68]⟩):=a
abbrev as7(a:A:=by exact(fun r=>∃w X v,r= .ab [.agg [i w,i X],.one (b v)]/\(v=true->aP w X=true))):=a
abbrev as8(a:A:=by exact[C_ [i n],C_ [i 0],C_ [i 0],C_ Bq,C_ [i m],C_ [.p x],C_ [sv s],(Ob.loop (c6 x s n))]):=a
def YD(h:P:=by exfalso;omega):=h
abbrev Zw(a:A:=by exact(1,o n5)):=a
abbrev agR(a:A:=by exact[ce.mk m D c F n U]):=a
abbrev aap(a:A:=by exact K=a4 q u v y A):=a
abbrev as9(a:A:=by exact(fun r N=>∃v:Bool,r=o (b v)/\N=[C_ [.p (.vl (vf 181))],P_ ae M,C_ [sv s]])):=a
abbrev agS(a:A:=by exact(0,o (.p (ZO w)))):=a
abbrev akH(a:A:=by exact[a [i 5,e_,i 0,i 0,i 0,.p (aa4 w),.p z]]):=a
abbrev agT(a:A:=by exact fun z=>o (b (!(z && A==B)))):=a
abbrev XJ(a:A:=by exact[i l,i Y]):=a
abbrev as_(a:A:=by exact[ce.mk m u V D F W]):=a
abbrev VH(a:A:=by exact b5 rfl):=a
def ata (h:P:=by
 simp only[pB,q0]at h;obtain⟨rfl,rfl⟩:=h
 simp only[h1,i,E,F,U,hy,if_true,fO n]):=h
abbrev atb(a:A:=by exact[i K,i J,i d,i G,sv D,sv M,i n,i s,i m,i t,i l,i Y,i h,i L,i T,nl,nl,b e]):=a
abbrev asZ(a:A:=by exact[i 4,i 1,i 0,i 0,e_,e_,i n,i s,i m,i t,i 1,i 0,i 0,i 1,i 0,nl,nl,b false]):=a
abbrev as0(a:A:=by exact[i 8,i 1,i 0,i 0,e_,e_,i 1,i 0,i 0,i 0,i l,i Y,i 0,i 1,i 0,nl,nl,b false]):=a
abbrev akC(a:A:=by exact yJ 19 11 (jj+1)<|yK 0 [0] (f (jj+1) w_ t_)):=a
abbrev akD(a:A:=by exact yK 0 [0,1] (g ((K+1),k,Q) t_ t_) (hh:=m_)):=a
abbrev YC(a:A:=by exact[W,Y,Z,a]):=a
abbrev agM(a:A:=by exact C_ [LV.p (PV.vl aiA),b false]):=a
def as1 (h:P:=by
 rw[z]at U;simp only[YV]at U;rw[<- U]
 exact Eo ans):=h
def akE(h:P:=by rintro r rfl;exact⟨_,rfl,.sl⟩):=h
abbrev WV(a:A:=by exact o (.p x)):=a
abbrev agN(a:A:=by exact .aX (acJ L) (X.toNat*2+1)):=a
def akI(h:P:=by rcases h with rfl|rfl|rfl|rfl<;>exact ax k_):=h
def akR(h:P:=by rintro _ ⟨v,rfl,P⟩;rw[P.2 h]):=h
abbrev ab_(a:A:=by exact yF 6 (o (b true)) l_):=a
abbrev atF(a:A:=by exact[cA,cB 0,C_ [.p C4],C_ [sv op],C_ [.p C4],.loop (bk op B C4 y c z C4 N 0)]):=a
abbrev akS(a:A:=by exact yw ((↑D.size:Int)+(↑M.size:Int))):=a
abbrev atG(a:A:=by exact qJ 8 10 (q+1)<|qK 0 [0,4] (d (.inr ((q+1),(M++[(G_ D q)]))) g_ t_) (hh:=m_)):=a
abbrev akT(a:A:=by exact[a [i 1,sv s,i 0,i 0,i 0,.p y,.p z]]):=a
abbrev atH(a:A:=by exact[C_ [i n],C_ [sv x],C_ [sv y],C_ [b I]]):=a
abbrev atI(a:A:=by exact(fun r=>∃t v,r= .ab [.one (sv t),.one (b v)]/\(t.size:Int)<=s.size)):=a
abbrev atJ(a:A:=by exact[a [sv op,sv pa,.p b,.p M,.p (.sl 1 [.vl (vs [116]),q,J]),.p Z,.p s,.p l]]):=a
def atK (h:P:=by
 obtain⟨I,K,L⟩:=G i x H;obtain⟨v,M,N⟩:=E i I K
 exact⟨v,M,qX J L N⟩):=h
def ag5 (h:P:=by
 simp only[bj,bE,e7,dX,this]
 rfl):=h
def ag6 (h:P:=by
 refine yF 3 (o (b true)) ?_
 exact l_):=h
def akU(h:P:=by rintro _ _ ⟨rfl,rfl⟩;exact p):=h
abbrev acd(a:A:=by exact Q.length<=1000):=a
abbrev YF(a:A:=by exact v.e=false):=a
abbrev akV(a:A:=by exact c' (n:=(x*1152921504606846976)) w_ w_):=a
def atM (h:P:=by
 have D:bE (.v (.one (.ref b 0)))=none:=rfl
 simp[aZ,g5,D,z,A,O,fP,em,Y,x]):=h
def atO(h:P:=by refine⟨_,_,A,S',by simp[Instr.alloc,Q,newVar,i],⟨_,_,j,rfl⟩,k,l⟩):=h
def atP (h:P:=by
 refine a7.still C (v:= .int .i64 n) ?_ (.vl _ rfl)
 simp[Builtin.len_,i,bp j,goInt]):=h
abbrev atQ(a:A:=by exact[cA,cB 0,C_ [.p V],C_ [sv op],C_ [.p C4],.loop (bk op B C4 y c z V N n)]):=a
abbrev aar(a:A:=by exact k=K.getD 0 0):=a
abbrev YG(a:A:=by exact .sl N G):=a
abbrev axP(a:A:=by exact[(afK N),(3,o n5),(5,o (Y3 M)),(6,o (i s)),(7,o (b g)),(9,o (i f))]):=a
abbrev akL(a:A:=by exact[a [i 2,e_,i n,i t,i 0,.p y,.p z]]):=a
abbrev akM(a:A:=by exact[a [i 3,e_,i 0,i 0,i n,.p y,.p z]]):=a
abbrev akN(a:A:=by exact a [i k,sv s,i V,i A,i n,nl,.p YY]):=a
abbrev atr(a:A:=by exact eV (α:=Bool) (enc:=eP) (L:=B) (fz:=false) default k_ k_ k_ d_ w_ w_ d_):=a
abbrev att(a:A:=by exact eV (α:=Bool) (enc:=eP) (L:=c) (fz:=false) default k_ k_ k_ d_ w_ w_ d_):=a
abbrev atu(a:A:=by exact eV (α:=Bool) (enc:=eP) (L:=k) (fz:=false) default k_ k_ k_ d_ w_ w_ d_):=a
abbrev atv(a:A:=by exact⟨_,_,rfl,qx (d:=d) (m:=ah d) w_ w_ w_ (kN d) w_ (by exact .inl w_)⟩):=a
abbrev ab9(a:A:=by exact c>=97):=a
abbrev akO(a:A:=by exact⟨_,.sl,.sl,d_,kv k_,kv k_,kv k_⟩):=a
def atx (h:P:=by
 rw[a]at k;simp only[pB,q0]at k;obtain⟨rfl,rfl⟩:=k
 exact ga w o (dg l)):=h
def aty (h:P:=by
 simp only[aJ,aV]at h |-
 split at h
 ·simp only[CG]at h |-
  grind
 simp at h):=h
abbrev Wa(a:A:=by exact .inl 0):=a
abbrev ag2(a:A:=by exact[C_ [i c],B,C_ [.p A.x]]):=a
def atz(h:P:=by(subst H;(first| rw[if_pos (by assumption)]|rw[if_neg (by simp_all)])<;>rfl)):=h
abbrev ag3(a:A:=by exact⟨#[110,97,109,101]⟩):=a
def ad7(h:P:=by split<;>omega):=h
def atA(h:P:=by rw[<- qy h i];rcases m with m|m<;>simp[fq,l,m,n]<;>intros<;>simp_all):=h
abbrev akP(a:A:=by exact[i k,sv t,i n,i m,i d,.p y,.p z]):=a
abbrev akQ(a:A:=by exact⟨_,rfl,by simp_all[toList_inj]⟩):=a
abbrev atB(a:A:=by exact(M.length:Int)=N/\0<=q/\q<=V/\0<=y/\y<4294967296):=a
abbrev atC(a:A:=by exact[O4 y m d Wj (aji B),x,z,A,C,D,E,F,.tc 5 (pc (B.flatMap aY)) true]):=a
abbrev atD(a:A:=by exact fun z=>o (b (decide (IntKind.i64.wrap (2*q.tmod (tn (t - k)))<=z)))):=a
abbrev ag4(a:A:=by exact yw (c+N.getD k.toNat 0)):=a
abbrev aaq(a:A:=by exact aP m t=true):=a
abbrev axO(a:A:=by exact[i m,i t]):=a
abbrev agX(a:A:=by exact(41,o (.p ((G_ L X).x)))):=a
abbrev WW(a:A:=by exact o (i q)):=a
abbrev agY(a:A:=by exact(D.size:Int)<=s.size):=a
abbrev agZ(a:A:=by exact(M.size:Int)<=s.size):=a
def akK (h:P:=by
 rintro _ ⟨w,rfl⟩
 exact qF 3 (o (b w)) l_):=h
abbrev ag0(a:A:=by exact fun z=>o (i (z.tmod 4))):=a
abbrev ag1(a:A:=by exact .aX (afa C) (X.toNat*1)):=a
abbrev atq(a:A:=by exact[LV.p (I_ y),LV.p (I_ m),LV.p (I_ d),LV.ref 0 3,LV.ad 4 0 D.length 1]):=a
abbrev at7(a:A:=by exact[LV.p (I_ y),LV.p (I_ m),LV.p (I_ d),LV.ref 0 3,LV.ad 4 0 E.length 1]):=a
abbrev at8(a:A:=by exact[LV.p (I_ y),LV.p (I_ m),LV.p (I_ d),LV.ref 0 3,LV.ad 4 0 F.length 1]):=a
abbrev at9(a:A:=by exact[LV.p (I_ y),LV.p (I_ m),LV.p (I_ d),LV.ref 0 3,LV.ad 4 0 G.length 1]):=a
abbrev aua(a:A:=by exact a [b (decide ((↑q.size:Int)>0)),sv q,i (if t>s then t else s)]):=a
abbrev axS(a:A:=by exact o (.ad 4 0 ((List.take k.toNat L++s::List.drop k.toNat L).length) 1)):=a
def aub(h:P:=by simp at h;obtain⟨rfl,rfl⟩:=h;obtain⟨B,d,_,rfl⟩:=M;simp_all):=h
abbrev X8(a:A:=by exact qF 5 nA l_):=a
abbrev auc(a:A:=by exact o (i ((↑D.size:Int) - ((↑D.size:Int)+(↑M.size:Int) - k)))):=a
abbrev ak4(a:A:=by exact[i 5,e_,i 0,i 0,i 0,.p A,.p B]):=a
abbrev acg(a:A:=by exact⟨#[97,98]⟩):=a
abbrev ak5(a:A:=by exact[i 5,e_,i 0,i 0,i 0,.p x,.p y]):=a
abbrev ak6(a:A:=by exact .p (.sl 1 [I_ 1,I_ 1,I_ 200,aaZ])):=a
abbrev ak7(a:A:=by exact .p (.sl 1 [I_ 4,I_ 1,I_ 200,aaZ])):=a
abbrev ak8(a:A:=by exact .p (.sl 1 [I_ 3,I_ 0,I_ 200,aaZ])):=a
abbrev aud(a:A:=by exact kv (f:=99) (args:=[o aih,o (.p (.vl (vs aou)))]) (r:=o (i 0)) k_):=a
abbrev aue(a:A:=by exact kv (f:=99) (args:=[o aih,o (.p (.vl (vs aow)))]) (r:=o (i 1)) k_):=a
abbrev ag9(a:A:=by exact 0<=k/\k<=s.size):=a
abbrev auf(a:A:=by exact[sv ⟨#[89,89,89,89,45,77,77,45,68,68]⟩,.p b,.p c,.p A]):=a
def aug (h:P:=by
 obtain⟨dst,op,type,pos,after,guard⟩:=o;simp only at U;subst U
 rfl):=h
abbrev auh(a:A:=by exact[o (sv op),o (sv B),o (.p (.sl N F)),o (.p y),o (.p c),o (.p z)]):=a
abbrev ak9(a:A:=by exact yF 6 ni<|⟨_,rfl,fun _=>rfl⟩):=a
abbrev ad9(a:A:=by exact .ad 4 0 C.length 1):=a
def aui (h:P:=by
 refine qn 3 47 (an s k<48)<|qp 7 53 (an s k>57)<|qF 5 nA ?_
 exact l_):=h
abbrev ad_(a:A:=by exact[x,y,z,P_ ae S]):=a
abbrev akW(a:A:=by exact[sv ⟨#[116]⟩,.p (aa4 w),.p z]):=a
def atV (h:P:=by
 rintro _ ⟨o,u,y,rfl⟩
 exact qF 5 (.ab [.agg [i o,i u],.one (b y)]) l_):=h
abbrev atX(a:A:=by exact(kv (r:=o nl) k_).mono (by rintro r rfl;exact⟨_,rfl,.nil rfl⟩)):=a
abbrev atY(a:A:=by exact[(afK N),(3,o n5),XC,(6,o (i c)),(7,o (b f)),(9,o (i q))]):=a
abbrev atZ(a:A:=by exact qJ 10 10 (q+1)<|qK 0 [0,1] (d (.inr ((q+1),M)) t_ t_) (hh:=m_)):=a
abbrev at0(a:A:=by exact .inl ⟨w_,rfl,w_⟩):=a
def at1(h:P:=by rw[show pc (L.flatMap dA)=_ from pK L];simpa using x):=h
def akX(h:P:=by subst e;simp[Op.operands]):=h
abbrev ag8(a:A:=by exact ¬k=K.getD R.toNat 0):=a
abbrev ace(a:A:=by exact .sl N F):=a
abbrev akY(a:A:=by exact .p (.sl 2 [I_ d,I_ e])):=a
abbrev at2(a:A:=by exact fun(k,j)=>0<=k/\k<=s.size/\j=(bU s k.toNat:Int)):=a
abbrev akZ(a:A:=by exact o (.ref 3 (0+(q - 1).toNat*1))):=a
abbrev Xm(a:A:=by exact bN 1 w_):=a
abbrev aas(a:A:=by exact C.length=w):=a
abbrev at3(a:A:=by exact[i ((G_ P q).c),i ((G_ P q).lo),i ((G_ P q).hi),sv ((G_ P q).t)]):=a
def at4 (h:P:=by
 have:¬(c=32):=by omega
 refine qu 12 31 c 32<|qF 7 ZY ?_
 exact l_):=h
abbrev at5(a:A:=by exact[cI n,cI 0,cI 0,C_ Bq,cI 0,C_ [.p x],cS s,.loop (c6 x s n)]):=a
abbrev ak2(a:A:=by exact z_ 10++[Vv]):=a
abbrev at6(a:A:=by exact(fun r=>∃v,r=o (b v)/\(v=true->p.size<=s.size))):=a
def ak3(h:P:=by rintro rfl;simp[bS]at j):=h
def WX(h:P:=by split<;>rfl):=h
abbrev ad8(a:A:=by exact b0 n s<=b0 m t):=a
abbrev YH(a:A:=by exact o (Yo N)):=a
def axQ (h:P:=by
 refine qE 4 73 l bJ<|qF 8 (.ab [.agg [i A,i B],.one xA]) ?_
 exact l_):=h
def atS (h:P:=by
 cases M:Nat.blt i j with
 |false=>rfl
 |true=>rw[Ya]at M;omega):=h
def atT (h:P:=by
 split at V
 ·simp at V;subst V;exact od ahQ
 simp at V):=h
abbrev Zy(a:A:=by exact fun k=>0):=a
abbrev Zz(a:A:=by exact(3,o tg)):=a
abbrev ZA(a:A:=by exact(5,o n5)):=a
abbrev ag7(a:A:=by exact(ao.take w).length=w):=a
abbrev axR(a:A:=by exact o (.p (.vl (.string (cT (B++bK (aC s q (↑s.size:Int)))))))):=a
abbrev acf(a:A:=by exact(1,o vQ)):=a
def auF (h:P:=by
 have:=U r L;simp only[oD,hc,FX]at this;rw[zP]at this
 exact this):=h
abbrev alh(a:A:=by exact(7,o (i ((↑Q.length:Int))))):=a
abbrev ali(a:A:=by exact VQ 38 [w.A,o (i r)] (H.F false)):=a
abbrev auH(a:A:=by exact[Va.mk 0 (B_ []) 0 0 18 IS IS]):=a
abbrev auI(a:A:=by exact kv (f:=548) (args:=[o (.p (.vl (vs aa0)))]) (r:=a Yl) k_):=a
abbrev auK(a:A:=by exact .p (.sl 1 [I_ a2,S_ br,I_ a_,I_ be,I_ bo,.vl vn,.vl vn])):=a
def auL(h:P:=by simp only[<- (by assumption:_=List.take w.toNat av)];assumption):=h
abbrev auM(a:A:=by exact fun r L=>r=o axx/\L=[a,b,c,C_ [sv op],C_ [.p x]]):=a
def auN (h:P:=by
 refine eJ 17 (P) ?_;rintro _ _ ⟨rfl,rfl⟩
 exact jv 1 (r:=u) k_):=h
abbrev aat(a:A:=by exact ah c=ah s):=a
def aea(h:P:=by(simp only[aP, *];rfl)):=h
abbrev aci(a:A:=by exact c_ k.toNat w_):=a
abbrev aau(a:A:=by exact o (i s)):=a
abbrev ZB(a:A:=by exact o (b w)):=a
abbrev aeb(a:A:=by exact K=a4 q s t u w):=a
abbrev auO(a:A:=by exact .sl t (axA V)):=a
abbrev XL(a:A:=by exact bN 2 w_):=a
abbrev XM(a:A:=by exact bN 4 w_):=a
abbrev auP(a:A:=by exact[o (sv op),o (sv B),o (.p q),o (.p r),o (.p D),o (.p s)]):=a
abbrev ahf(a:A:=by exact VQ 36 [o (sv op)] nA):=a
abbrev alj(a:A:=by exact fun _=>(fj (L:=M) k_ k_ w_)):=a
abbrev alk(a:A:=by exact[sv (aC w k (↑w.size:Int))]):=a
abbrev ahg(a:A:=by exact⟨#[100,97,121]⟩):=a
def aup(h:P:=by simp[Op.operands,Call.operands];simpa using M):=h
def auq (h:P:=by
 have:¬(c=32):=by omega
 exact yu 12 31 c 32<|yF 7 ZY<|l_):=h
abbrev aur(a:A:=by exact(fun r M=>∃v:Bool,r=o (b v)/\M=[C_ [.p K.x]])):=a
abbrev aus(a:A:=by exact .ab [.one (.p (.sl 2 [I_ q,I_ r])),.one (i M),.one (i 0)]):=a
abbrev aut(a:A:=by exact IntKind.i64.wrap (w+IntKind.i64.wrap (f.tdiv 1000000))<0):=a
abbrev auu(a:A:=by exact kv (f:=99) (args:=[o aih,o (.p axk)]) (r:=o (i 2)) k_):=a
def auv (h:P:=by
 refine(bb (x:=()) k_).trans ?_
 exact(bb (t2 V A e j)).trans rfl):=h
abbrev auw(a:A:=by exact .inr ((d.tdiv 16777216),(q+1),(M++[d.tmod 16777216]))):=a
abbrev axT(a:A:=by exact fun _=>(l2 (M:=Q) (F:=((G_ Q s).F)) Z w_ k_ k_ w_ w_)):=a
abbrev axU(a:A:=by exact fun _=>(l2 (M:=V) (F:=((G_ V s).F)) Z w_ k_ k_ w_ w_)):=a
abbrev auy(a:A:=by exact(g M l).mono fun r e=>⟨k,n,m,d,t,y5,z5,W,e,E,F⟩):=a
def ald(h:P:=by simpa[nc] using h.symm):=h
abbrev aha(a:A:=by exact k=K.getD R.toNat 0):=a
def auA (h:P:=by
 rw[LA];intro e V;obtain⟨p,_,rfl⟩:=List.mem_map.1 V
 rfl):=h
abbrev ahb(a:A:=by exact[i n,i s,i n,i s]):=a
def ahc (h:P:=by
 refine qF 12 nA ?_
 exact l_):=h
abbrev ahd(a:A:=by exact[o (sv s),o (sv p)]):=a
abbrev auB(a:A:=by exact kv (f:=548) (args:=[o (.p (.vl abc))]) (r:=a W6) k_):=a
abbrev auC(a:A:=by exact kv (f:=548) (args:=[o (.p (.vl aba))]) (r:=a ZQ) k_):=a
def auD(h:P:=by(first| exact⟨true,rfl,rfl⟩|exact⟨false,rfl,rfl⟩)):=h
abbrev auE(a:A:=by exact kv (f:=103) (args:=[No false,No false]) (r:=aa1) k_):=a
def ale(h:P:=by simp only[elems,if_true,O,a];rfl):=h
def alf (h:P:=by
 simp only[ge,D,h,i,V,C,tA]
 rfl):=h
abbrev alg(a:A:=by exact .p (.sl 3 [I_ d,I_ e,I_ f])):=a
abbrev ak_(a:A:=by exact[C_ afd,P_ ai M,C_ (acU C)]):=a
abbrev auj(a:A:=by exact BU ((↑s.size:Int)) ((↑s.size:Int)) G s s w_ w_ w_):=a
abbrev ala(a:A:=by exact .ab [.agg S5,.one (b true)]):=a
abbrev alb(a:A:=by exact C_ [LV.p (PV.vl ae3),b true]):=a
abbrev alc(a:A:=by exact[o (.p x),o (sv s),o (i n)]):=a
def auk (h:P:=by
 obtain⟨v,K,M⟩:=u i y J
 exact⟨v,K,Rel.eO I n f M⟩):=h
abbrev aul(a:A:=by exact o (i (((L.getD (K+1 - 1).toNat 0).tmod n+n).tmod n))):=a
abbrev aum(a:A:=by exact(fun r=>∃v:Int,r=o (i v)/\v=(bB c:Int))):=a
abbrev aun(a:A:=by exact(fun r=>∃v:Int,r=o (i v)/\v=(bW s:Int))):=a
def auo (h:P:=by
 refine Fin.fin k_ ⟨u,k_,?_⟩
 exact⟨_,rfl,w_,w_,w_⟩):=h
abbrev ach(a:A:=by exact ku K d G D M):=a
abbrev avi(a:A:=by exact fc 11 (r:= .ab [.one (i ((↑t.size:Int))),.one aiX]) k_):=a
def alq(h:P:=by have:=C.1;simp_all):=h
def avj (h:P:=by
 rename_i U;simp at h;obtain⟨rfl,rfl⟩:=h
 simp[U,fO q]):=h
def avk (h:P:=by
 intro i o z;exfalso
 by_cases h:i<ops.size<;>simp[h]at z):=h
def alr(h:P:=by assumption):=h
abbrev ahj(a:A:=by exact fun z=> .p (axr z)):=a
abbrev ahk(a:A:=by exact fun z=> .p (axp z)):=a
def avl (h:P:=by
 have:S.getD n 0=S[n]:=by simp[x]
 rw[this];exact h _ s_):=h
abbrev alu(a:A:=by exact[C_ afe,P_ ae M,C_ [sv s]]):=a
abbrev alv(a:A:=by exact o (.ref 3 (0+q.toNat*1))):=a
def ahl (h:P:=by
 refine yF 3 ni ?_
 exact l_):=h
abbrev X9(a:A:=by exact bN 3 w_):=a
abbrev aav(a:A:=by exact[i n,i n]):=a
def ahm (h:P:=by
 refine qF 3 ni ?_
 exact l_):=h
abbrev aaw(a:A:=by exact(4,o vQ)):=a
abbrev alw(a:A:=by exact yw (2*q.tmod (tn (t - k)))):=a
abbrev ahn(a:A:=by exact C_ [LV.fn 1491 Xy]):=a
abbrev alx(a:A:=by exact .ab [.one (i v),.one (i k)]):=a
abbrev avo(a:A:=by exact Ch XV (C_ Bq) XV XV XV (C_ [LV.p (S_ s)]) (B_ aa0)):=a
def avp (h:P:=by
 split at h
 ·grind
 rename_i hn;simp only[hn,w4]
 exact yj h):=h
def avq (h:P:=by
 have:=ur h w_;have:=kS (a:=m) (b:=s.size - 1) w_
 omega):=h
abbrev avr(a:A:=by exact 0<=N.getD k.toNat 0/\N.getD k.toNat 0<16777216):=a
abbrev avs(a:A:=by exact kv (f:=151) (args:=[a WA,a W5]) (r:=a Xv) k_):=a
abbrev au0(a:A:=by exact fun k=>([(0,o (sv x)),(1,o (sv y)),(Xa k)],[])):=a
def axW(h:P:=by have:=(qv ao dn);have:=(z9 dn);omega):=h
abbrev au1(a:A:=by exact fun t=>(0:Int)<=0/\(t.size:Int)<=s.size):=a
def au3(h:P:=by simp only[stepG,stepG.exec,Fr,YT,B,YU,doReturn];rfl):=h
abbrev alm(a:A:=by exact[i K,i O,i G,sv D,sv M]):=a
abbrev aln(a:A:=by exact yF 2 (o (sv (aC x 0 k)))<|l_):=a
abbrev au4(a:A:=by exact[a [sv op,sv B,.p q,.p M,.p r,.p D,.p s,.p l]]):=a
abbrev alo(a:A:=by exact[o (i y),o (i m),o (i d)]):=a
abbrev ahh(a:A:=by exact LA.1 hp x (WI y)):=a
def au6 (h:P:=by
 obtain⟨v,z,F⟩:=q i x y
 exact⟨v,z,hm.rel N F⟩):=h
def au7 (h:P:=by
 cases M:Nat.beq i j with
 |false=>rfl
 |true=>simp_all):=h
def au8 (h:P:=by
 cases M:Nat.beq j i with
 |false=>rfl
 |true=>simp_all):=h
def au9(h:P:=by simp at h;obtain⟨rfl,rfl⟩:=h;exact Fin.cond x hu U):=h
abbrev ahi(a:A:=by exact[o (i x),o (i y)]):=a
abbrev ava(a:A:=by exact .sl 1 [I_ l,S_ v,I_ s,I_ u,I_ j,.vl vn,.vl vn]):=a
abbrev avb(a:A:=by exact(fun r=>∃k v,r= .ab [.one (i k),.one (b v)])):=a
abbrev avc(a:A:=by exact kv (f:=548) (args:=[o (.p ae4)]) (r:=a W7) k_):=a
def avd (h:P:=by
 obtain⟨v,P,E⟩:=y i x z
 exact⟨v,P,C.rel M E⟩):=h
def ave(h:P:=by unfold b0;rw[Int.mul_assoc,<- AY w_ w_];congr 2;omega):=h
abbrev avf(a:A:=by exact .loop {fs J with state:= .busy,pending:=none}):=a
abbrev avg(a:A:=by exact BV ((↑s.size:Int)) ((↑s.size:Int)) G s s w_):=a
abbrev alp(a:A:=by exact[.p V3,.p (ZO w),.p z]):=a
abbrev auQ(a:A:=by exact jw _ XW t _ _ _ _ Q m x e E n y F w_ w_ w_ Y w_ w_):=a
abbrev auR(a:A:=by exact jw _ XW G _ _ _ _ f l t c Q u S e w_ w_ w_ X w_ w_):=a
abbrev auS(a:A:=by exact jw _ XW G _ _ _ _ T l t c P u Q S w_ w_ w_ X w_ w_):=a
def auT(h:P:=by refine⟨_,_,A,S',by rfl,⟨_,_,j,rfl⟩,k,l⟩):=h
def auU (h:P:=by
 rw[this];cases r with
 |none=>simp[F]
 |some y=>simp):=h
def auV (h:P:=by
 rintro _ ⟨d,rfl,_,_,_⟩
 exact yF 2 (o (sv d))<|l_):=h
abbrev auW(a:A:=by exact kv (f:=49) (args:=[]) (r:=a [i 0,i 100]) k_):=a
abbrev auX(a:A:=by exact fun w=>(0:Int)<=0/\(w.size:Int)<=80):=a
abbrev auY(a:A:=by exact zp (e:=5) (L:=B) (u:=5) k_ k_ k_ k_ w_ w_ w_):=a
abbrev auZ(a:A:=by exact kv (f:=10) (args:=[o (i 0)]) (r:=No true) k_):=a
def avh(h:P:=by rw[ay.dU _ _ hb]at h;have:=C.cz b B R h;simp;omega):=h
def avN (h:P:=by
 simp[Instr.sliceBounds,Instr.sliceBound,asIntOf]
 omega):=h
def ax2(h:P:=by simp only[aF.ap,this];exact⟨Up.refl _,Up.refl _⟩):=h
def avO (h:P:=by
 have:=U r c L;simp only[uN,hc,FX]at this
 exact this):=h
abbrev ax3(a:A:=by exact o3 op (PV.sl N G) ail XV (C_ [LV.p (PV.sl N H)])):=a
abbrev alH(a:A:=by exact(47,o (sv ((G_ L s).t)))):=a
abbrev avP(a:A:=by exact o (i ((↑P.size:Int)+(↑M.size:Int) - n))):=a
def alI(h:P:=by have:=h.1;omega):=h
abbrev avQ(a:A:=by exact o (.ad 1 0 ((s::List.drop k.toNat L).length) 1)):=a
def avR(h:P:=by rw[<- qy h i];simp only[fq,l,m,o,n,if_true,w4]):=h
def avS (h:P:=by
 obtain⟨⟨c,d⟩,v⟩:=p;simp[Instr.sameBits]
 rfl):=h
abbrev alJ(a:A:=by exact(48,o (.p ((G_ R k).x)))):=a
abbrev avT(a:A:=by exact fun k=>([(Xz s),(5,o (ai4 s)),(Wi k)],[])):=a
abbrev avU(a:A:=by exact o (i ((↑D.size:Int)+(↑M.size:Int) - k))):=a
abbrev aef(a:A:=by exact aP n t=true):=a
abbrev ahp(a:A:=by exact[C_ [.p z,sv t]]):=a
abbrev alK(a:A:=by exact[.p (aa6 D),sv (G_ C X)]):=a
abbrev avV(a:A:=by exact qJ 13 5 (k+1)<|qK 0 [] (d ((k+1),false) t_ t_)):=a
abbrev avW(a:A:=by exact[i y,i m,i d,LV.ref 0 3,LV.ad 8 0 H.length 1]):=a
abbrev avY(a:A:=by exact ku ((↑s.size:Int)) ((↑s.size:Int)) G s s):=a
def avZ (h:P:=by
 refine yV 3 jl<|yF 3 (.ab [.agg axg,.one xA]) ?_
 rfl):=h
abbrev av0(a:A:=by exact[sv B,.p y,.p c,.p z]):=a
abbrev aax(a:A:=by exact qF 6 ni l_):=a
def av1 (h:P:=by
 intro M
 cases f<;>simp[aF.cu]at M<;>simp[aF.ap]):=h
abbrev alA(a:A:=by exact o (.p YY)):=a
abbrev aho(a:A:=by exact[o n5,o (i n)]):=a
abbrev avC(a:A:=by exact s<(↑t:Int)):=a
abbrev axX(a:A:=by exact .inl ((s+1),t,(ir Q s.toNat C (G_ Q s).F))):=a
abbrev axY(a:A:=by exact .inl ((s+1),t,(ir V s.toNat C (G_ V s).F))):=a
abbrev avD(a:A:=by exact fun z=>o (b (decide (z<=0 - tn (t - k))))):=a
abbrev avE(a:A:=by exact .loop {eb x s N q p e J with state:= .busy}):=a
def alB(h:P:=by simp[Frame.enter,Fr,U,O,b]):=h
def avF (h:P:=by
 refine(bb (h _)).trans ?_
 exact(bb (i _)).trans rfl):=h
abbrev avG(a:A:=by exact a [b false,sv q,i (if t>s then t else s)]):=a
abbrev avH(a:A:=by exact .sl (G_ L s).F.length ((G_ L s).F.flatMap ae)):=a
abbrev avI(a:A:=by exact a [i k,e_,i 0,i 0,i (738000+v),nl,nl]):=a
abbrev aed(a:A:=by exact(eR B 3)=B):=a
abbrev alC(a:A:=by exact k<(↑F.length:Int)):=a
abbrev alD(a:A:=by exact k<(↑D.length:Int)):=a
abbrev alE(a:A:=by exact i ((↑A.length:Int))):=a
abbrev alF(a:A:=by exact k<(↑Q.length:Int)):=a
abbrev alG(a:A:=by exact q<(↑D.length:Int)):=a
abbrev aee(a:A:=by exact .loop (fs J)):=a
def avJ (h:P:=by
 obtain⟨rfl,rfl,rfl,rfl,rfl⟩:=h
 exact kv k_):=h
abbrev avK(a:A:=by exact kv (f:=175) (args:=[a Xx]) (r:=ni) k_):=a
abbrev ax1(a:A:=by exact rR (B++bK (aC s q (↑s.size:Int))) w_ w_):=a
abbrev avL(a:A:=by exact kv (f:=387) (args:=afn) (r:=o (e_)) k_):=a
abbrev avt(a:A:=by exact yw (d+L.getD q.toNat 0+N.getD q.toNat 0)):=a
abbrev avu(a:A:=by exact kv (f:=56) (args:=[a Xv]) (r:=ni) k_):=a
abbrev avv(a:A:=by exact kv (f:=53) (args:=[a Xx]) (r:=ni) k_):=a
abbrev avw(a:A:=by exact o (.ad 3 0 ((List.take k.toNat L).length) 1)):=a
abbrev avy(a:A:=by exact kv (f:=186) (args:=afn) (r:=o (nl)) k_):=a
abbrev avz(a:A:=by exact .vl (Value.func (Fn.func 300) #[vs aa0] #[])):=a
def aly(h:P:=by rename_i heq;cases heq):=h
def avA(h:P:=by simp[stepG,stepG.exec,Fr,d]):=h
abbrev alz(a:A:=by exact .inl ⟨t.trans h1,h2⟩):=a
abbrev avM(a:A:=by exact o (.ad 0 0 M.length 1)):=a
abbrev ahy(a:A:=by exact bX _ 95 V d_ d_):=a
abbrev alU(a:A:=by exact o (b (decide (We n)))):=a
abbrev ZC(a:A:=by exact bN 5 w_):=a
abbrev awg(a:A:=by exact fun r cs=>r=o (b true)/\cs=(aoz n)):=a
abbrev awh(a:A:=by exact .ab [.one (aqi q),.one (i kd),.one (i 0)]):=a
def awi (h:P:=by
 rintro _ ⟨l,rfl,_,_⟩
 exact qF 2 (o (i l)) l_):=h
abbrev alW(a:A:=by exact[o (sv x),o (.p aoI)]):=a
abbrev alX(a:A:=by exact fun _=>(fN k_ aO aO)):=a
abbrev awj(a:A:=by exact kv (f:=548) (args:=axl) (r:=a W6) k_):=a
def awk(h:P:=by simp at h;obtain⟨_,rfl⟩:=h;exact d6.refl):=h
abbrev awl(a:A:=by exact yw ((↑P.size:Int)+(↑M.size:Int))):=a
abbrev awm(a:A:=by exact fun k=>([(pD x),(Z2 s),(Xa k)],[])):=a
abbrev awn(a:A:=by exact .ab [.one aik,.one (i (2)),.one (i (0))]):=a
abbrev awo(a:A:=by exact .ab [.one (aqi q),.one (i M),.one (i 0)]):=a
abbrev awp(a:A:=by exact .ab [.one axj,.one (i (4)),.one (i (0))]):=a
abbrev awq(a:A:=by exact .ab [.one aiL,.one (i (5)),.one (i (0))]):=a
abbrev awr(a:A:=by exact .ab [.one aiL,.one (i (2)),.one (i (0))]):=a
abbrev aws(a:A:=by exact .ab [.one aik,.one (i (4)),.one (i (0))]):=a
abbrev awt(a:A:=by exact fun t=>([(0,o (sv t)),(1,o ai1)],[])):=a
abbrev awu(a:A:=by exact .loop {bm u n y m d with state:= .busy}):=a
def YJ(h:P:=by congr 1;omega):=h
abbrev YK(a:A:=by exact(b' z)):=a
abbrev acj(a:A:=by exact(0,([]))):=a
abbrev av5(a:A:=by exact o (.p (.sl B.length (List.flatMap dY B)))):=a
abbrev av6(a:A:=by exact kv (f:=254) (args:=aoQ) (r:=ni) k_):=a
def alR (h:P:=by
 refine yF 3 (w.F true) ?_
 rfl):=h
abbrev aeg(a:A:=by exact w.e=false):=a
abbrev aeh(a:A:=by exact(12,o n5)):=a
abbrev aei(a:A:=by exact(14,o tg)):=a
abbrev aej(a:A:=by exact(18,a Xx)):=a
abbrev alS(a:A:=by exact(27,o (sv (G_ C q)))):=a
abbrev YI(a:A:=by exact ea rfl):=a
abbrev av7(a:A:=by exact yK 0 [0,1] (f (.inr ((q+1),rw,T)) g_ t_)):=a
def av8 (h:P:=by
 rintro _ _ ⟨rfl,rfl⟩
 exact jv 3 (r:=u) k_):=h
abbrev av9(a:A:=by exact fun r=>r= .ab [.agg Hx,.one (i 14)]):=a
abbrev ahr(a:A:=by exact bX _ 9 W d_ d_):=a
def ahs (h:P:=by
 refine yF 6 ni ?_
 rfl):=h
abbrev awa(a:A:=by exact[a [i 4,e_,i 0,i 0,i n,.p y,.p z]]):=a
abbrev aht(a:A:=by exact(33,o (sv x))):=a
def ahu (h:P:=by
 refine yF 5 nA ?_
 rfl):=h
abbrev awb(a:A:=by exact[i k,sv t,i n,i m,i d,.p ap,.p aw]):=a
def ahv (h:P:=by
 refine yF 8 aa1 ?_
 rfl):=h
abbrev awc(a:A:=by exact[i k,sv t,i n,i m,i d,.p b1,.p b3]):=a
abbrev awd(a:A:=by exact[i k,sv t,i n,i m,i d,.p cl,.p cm]):=a
abbrev ahw(a:A:=by exact[v.A,o (i q)]):=a
abbrev awf(a:A:=by exact a [i u,sv A,i V,i B,i C,.p D,.p E]):=a
abbrev ahx(a:A:=by exact bX _ 5 Y d_ d_):=a
abbrev ahq(a:A:=by exact bX _ 2 Z d_ d_):=a
abbrev ax4(a:A:=by exact .inr (3,O,(C++[B_ ao6]),(T++[1]))):=a
def av3 (h:P:=by
 rintro _ _ ⟨rfl,rfl⟩
 exact fc 5 (r:=u) k_):=h
def alL(h:P:=by simpa using O):=h
def alM(h:P:=by simpa using A):=h
abbrev alN(a:A:=by exact absurd (uw a_ a_ a_) w_):=a
abbrev alO(a:A:=by exact[i v,i X,i g,i U]):=a
abbrev alP(a:A:=by exact s.toList==t.toList):=a
abbrev av4(a:A:=by exact yF 7 (o (i j))<|⟨_,rfl,zS a_ w_ w_⟩):=a
abbrev alQ(a:A:=by exact v_ (N).h w_ (K).h w_):=a
abbrev alT(a:A:=by exact[C_ aaW,C_ (acU C)]):=a
abbrev ack(a:A:=by exact yF 6 ni l_):=a
abbrev al2(a:A:=by exact(23,o (.p (aa6 D)))):=a
abbrev al3(a:A:=by exact(L.length:Int)=N):=a
abbrev aw0(a:A:=by exact[afI,(1,o X1),ai5,ajk,(9,a W6)]):=a
abbrev aw1(a:A:=by exact fun k=>([(Xz s),(3,o (i k))],[])):=a
def aw2 (h:P:=by
 intro _ M;simp only[V0,Yc,Yd]at M
 omega):=h
abbrev aw3(a:A:=by exact k<(↑(List.take w ao).length:Int)):=a
abbrev aw4(a:A:=by exact o (b (Op.bytesLess s.toList t.toList))):=a
def aw5 (h:P:=by
 refine bn 1 (u) [x,y,A,P_ ae T] ?_
 exact l_):=h
abbrev aw6(a:A:=by exact k<(↑(List.take w av).length:Int)):=a
abbrev aw7(a:A:=by exact[i k,sv s,i n,i m,i d,.p H,.p I]):=a
abbrev aw8(a:A:=by exact[i k,sv s,i V,i A,i n,.p y,.p z]):=a
abbrev aw9(a:A:=by exact Cr (C_ [i n]) XV XV (C_ Bq) XV x s):=a
abbrev ahB(a:A:=by exact W0 hB h.size):=a
def al4(h:P:=by simp[Instr.checkKey,bp h]):=h
abbrev aw_(a:A:=by exact[a,b,c,C_ [sv op],C_ [.p C4],s]):=a
abbrev ael(a:A:=by exact 1<=ah t):=a
abbrev al5(a:A:=by exact rL n s m t w_ w_ w_):=a
abbrev al6(a:A:=by exact o4 n s m t w_ w_ w_):=a
abbrev ahC(a:A:=by exact(44,o (i X))):=a
abbrev al7(a:A:=by exact[.v (.one (afm c))]):=a
abbrev aem(a:A:=by exact N<=1000):=a
abbrev ahD(a:A:=by exact(17,o (i k))):=a
abbrev al8(a:A:=by exact[C_ aaX,C_ [sv s]]):=a
abbrev ahE(a:A:=by exact(50,o (i j))):=a
abbrev awE(a:A:=by exact[i s.size,i s.size,i G,sv s,sv s]):=a
abbrev al0(a:A:=by exact VQ 9 [W.A,W.A] ni):=a
abbrev aek(a:A:=by exact[i N,i T]):=a
def awF(h:P:=by simp only[uX a_];first| assumption|omega):=h
abbrev ahA(a:A:=by exact(25,o (i q))):=a
abbrev awG(a:A:=by exact[o (sv x),o (.p (.vl (.int .u8 y)))]):=a
abbrev awI(a:A:=by exact[O4 y m d Wj q,x,z,A,B,C,D,E]):=a
abbrev ZD(a:A:=by exact .p C4):=a
abbrev awJ(a:A:=by exact⟨_,_,rfl,rfl,w_,w_,w_,w_⟩):=a
abbrev awK(a:A:=by exact a [i k,sv t,i 0,i 0,i 0,nl,nl]):=a
abbrev awL(a:A:=by exact lm _ _ _ (T.getD jj.toNat 0) V w_ w_):=a
def awM(h:P:=by refine congrArg (fun z=>o (i z)) ?_;omega):=h
def awN (h:P:=by
 refine qE 7 17 y bJ<|qF 19 nA ?_
 exact l_):=h
abbrev awO(a:A:=by exact[i 5,e_,i 0,i 0,i 0,.p A,.p z]):=a
abbrev awP(a:A:=by exact[a [i 2,e_,i V,i A,i 0,nl,nl]]):=a
abbrev awQ(a:A:=by exact⟨#[66,101,114,103,101,110]⟩):=a
abbrev awR(a:A:=by exact s8 (T.getD jj.toNat 0) v w_ w_ w_ w_):=a
def awS (h:P:=by
 refine yV 5 N<|yV 17 jl<|yF 2 X0 ?_
 rfl):=h
abbrev awT(a:A:=by exact mE m ((↑t.size:Int)) w_ w_ w_ w_):=a
abbrev awU(a:A:=by exact mE d ((↑t.size:Int)) w_ w_ w_ w_):=a
abbrev awV(a:A:=by exact .p (.sl 4 [I_ d,I_ e,I_ f,I_ g])):=a
abbrev awW(a:A:=by exact lm _ _ _ (T.getD j.toNat 0) V w_ w_):=a
abbrev awX(a:A:=by exact .inr ((jj+1),N,(M++(aiy hz)))):=a
abbrev awY(a:A:=by exact fun _=>(bI (e:=22) k_ k_ w_ w_)):=a
abbrev al1(a:A:=by exact[x,y,A,P_ ae S]):=a
def awx(h:P:=by rw[<- Ed];kernel_rfl):=h
abbrev awy(a:A:=by exact .ad 1 0 O.length 2):=a
abbrev awz(a:A:=by exact s8 (T.getD j.toNat 0) v w_ w_ w_ w_):=a
abbrev alY(a:A:=by exact .ad 1 0 k.length 1):=a
def awA (h:P:=by
 rintro _ ⟨t,rfl⟩
 exact qF 5 (axv t) l_):=h
abbrev alZ(a:A:=by exact VQ 443 (Xc x) ni):=a
abbrev awB(a:A:=by exact ll _ _ 0 K W w_ w_ k q m d s h C j):=a
abbrev ahz(a:A:=by exact[.p x,sv s]):=a
abbrev awC(a:A:=by exact a [i k,e_,i q,i t,i 0,nl,nl]):=a
abbrev awD(a:A:=by exact a [i k,e_,i 0,i 0,i B,nl,nl]):=a
abbrev awZ(a:A:=by exact a [i k,e_,i 0,i 0,i A,nl,nl]):=a
abbrev aeu(a:A:=by exact(9,o (i k))):=a
abbrev aev(a:A:=by exact S.length=N):=a
abbrev aew(a:A:=by exact a [i L,i T]):=a
abbrev amt(a:A:=by exact hZ 4 0 0 n 4 0 0 n (B_ []) (B_ [])):=a
abbrev aex(a:A:=by exact(8,o (i A))):=a
abbrev aey(a:A:=by exact(6,o (i X))):=a
def amw(h:P:=by have:=(oe 45);omega):=h
abbrev amx(a:A:=by exact[i t,sv s,i V,i A,i n,nl,nl]):=a
abbrev amy(a:A:=by exact[O4 y m d nP nl,x,z,A,B,C,D]):=a
abbrev ahH(a:A:=by exact ¬k=K.getD 0 0):=a
abbrev acn(a:A:=by exact o (aoB L)):=a
def amz (h:P:=by
 refine bn 7 (o (i k)) (Wk w) ?_
 exact l_):=h
abbrev amA(a:A:=by exact fun z=>o (b (decide (z<=w)))):=a
abbrev amB(a:A:=by exact mW w A.length w_ (G_ N r) Y w_ w_):=a
abbrev amC(a:A:=by exact mW w A.length w_ (G_ N I) Y w_ w_):=a
abbrev amD(a:A:=by exact mW w A.length w_ (G_ N K) Y w_ w_):=a
abbrev axd(a:A:=by exact .inr (.inr ⟨w_,rfl,w_⟩)):=a
abbrev amE(a:A:=by exact qF 8 (.ab [.agg Hx,.one (i 18)]) l_):=a
abbrev ahI(a:A:=by exact .p (.vl (vs acO))):=a
abbrev amF(a:A:=by exact Ce (LV.ad 1 0 B.length 1) (aip B)):=a
abbrev axe(a:A:=by exact iT (e:=3) (N:=12) k_ k_ w_ w_):=a
abbrev aco(a:A:=by exact[4,M,M]):=a
def amG (h:P:=by
 simp only[elems];rw[jL (bc hz L2)]
 rfl):=h
abbrev amH(a:A:=by exact vS _ _ 0 K W w_ w_ k q m d s h C):=a
def ame(h:P:=by cases g<;>simp[sg]at h |-<;>omega):=h
def amf(h:P:=by cases k<;>simp[sg]at h |-<;>omega):=h
abbrev amg(a:A:=by exact aa.sl (enc:=ae) (L:=(Xw w))):=a
abbrev amh(a:A:=by exact .sl B.length (List.flatMap dN B)):=a
abbrev ami(a:A:=by exact[i 2,e_,i n,i t,i 0,nl,nl]):=a
abbrev amk(a:A:=by exact[.tc 349 [.ref 0 0,x] false,y]):=a
def aeq(h:P:=by first| exact V8|exact⟨w_,w_,by exact Xe,e3 (L:=[]) (jQ w_) a_,by first| exact jJ a_|exact jK a_⟩|exact⟨w_,w_,by exact Xe,e3 a_ a_,a_⟩):=h
abbrev XN(a:A:=by exact bq (fz:=false) k_ (by exact bc (z:=2) r0 _)):=a
def aer(h:P:=by first| exact V8|exact⟨w_,w_,w_,by exact Xe,by exact Xe,jV (As:=[]) ne_nil a_,jH (V:=[]) mg a_,a_⟩|exact⟨w_,w_,w_,by exact Xe,by exact Xe,jV a_ a_,jH a_ a_,a_⟩):=h
def aes(h:P:=by first| exact V8|exact⟨w_,w_,by exact Xe,by exact Xe,jI (V:=[]) (q:=j) q8 a_ axJ ary arf,a_⟩|exact⟨w_,w_,by exact Xe,by exact Xe,jI a_ a_ a_ ary arf,a_⟩):=h
abbrev aay(a:A:=by exact l0 (α:=ByteArray) (enc:=ae) (z:=1) (e:=9) (L:=C) default k_ k_ N r0 w_ w_ w_):=a
abbrev axb(a:A:=by exact⟨w_,w_,mf ‹C=List.take q.toNat av› (by exact .inr at0),by(exact Yv),by(exact Yv),jO a_ w_,a_⟩):=a
abbrev ZE(a:A:=by exact bq (fz:=false) k_ (by exact bc (z:=7) r0 _)):=a
abbrev acm(a:A:=by exact[cA,cB 0,C_ [.p V],C_ [sv op],C_ [.p Xf],.loop (bk op B Xf y c z V N n)]):=a
abbrev amq(a:A:=by exact⟨w_,w_,mf ‹C=List.take q.toNat av› at0,by(exact Yv),by(exact Yv),jO a_ w_,a_⟩):=a
abbrev amr(a:A:=by exact⟨w_,w_,mf ‹C=List.take q.toNat av› axd,by(exact Yv),by(exact Yv),jO a_ w_,a_⟩):=a
abbrev aet(a:A:=by exact fun _=>(eV (α:=ByteArray) (enc:=ae) (L:=O) (fz:=false) default k_ k_ k_ r0 w_ w_ w_)):=a
abbrev aaz(a:A:=by exact(dP T 5 U d_).mono fun r ⟨X,e,bU,b1,b3⟩=>af0):=a
abbrev axc(a:A:=by exact⟨w_,w_,rfl,by(exact Yv),by(exact Yv),jO (Kd:=[]) akB w_,a_⟩):=a
abbrev al9(a:A:=by exact(fun r M=>∃(B:eF)(g h l q:Ob),r=u/\M=[O4 y m d (.ref 0 3) (.ad 8 0 B.length 1),wr,C_ [e_],.loop (bm v n y m d),g,h,l,q,.tc 5 (pc (B.flatMap aY)) true]/\1<=B.length/\B.length<=2000)):=a
abbrev aen(a:A:=by exact yF 36 alA<|⟨_,[],rfl,.sl,fun h x N=>h x Zh,by exact ab4,s_⟩):=a
def al_ (h:P:=by
 rintro _ ⟨A,B,C,rfl,_⟩;cases m:C
 ·exact qF 26 Xi l_
 refine qC 14 (vx A B) ?_;rintro _ ⟨D,rfl,_⟩
 rcases df (D.toList==x.toList) with l|l
 ·refine qE 4 73 l bJ<|qF 7 Xi ?_
  exact l_
 exact axQ):=h
abbrev ama(a:A:=by exact xb (α:=ByteArray) (enc:=ae) (e:=9) (by':=16) (a:=s) (L2:=(List.drop k.toNat L)) (i:=t9) (zero:=Yh) (cs:=([LV.p (S_ s)])) k_ k_ k_ k_ k_ k_ aa.sl k_ k_ r0 k_ d_ w_ w_):=a
abbrev ahF(a:A:=by exact yF 7 ZY<|⟨_,rfl,by unfold bB;(repeat' split)<;>omega⟩):=a
abbrev aeo(a:A:=by exact[x,z,F,P_ aj (T),C_ [i k],C_ aac,C_ [sv s],C_ [i k],R]):=a
abbrev amb(a:A:=by exact vq hv hw (List.take dn ao) fC (I_ fE) (I_ fR) (I_ f_) (I_ gc) (S_ gl) (S_ go) (I_ gs) (I_ ha) (I_ hb) (I_ hc) (I_ hd) (I_ he) (I_ hf) (I_ hg) (I_ hi) hk hl (aqv S) hF hR hS w_ axW w_):=a
abbrev ahG(a:A:=by exact yu 29 14 d 0<|yF 7 (apd d)<|⟨_,[d],rfl,.sl,fun h x N=>h x Zh,by exact ab4,s_⟩):=a
abbrev aep(a:A:=by exact[x,F,G,P_ aj K,C_ [i k],C_ aac,C_ [sv s],C_ [i k],R]):=a
def amc (h:P:=by
 refine vE f33<|qV 11 A ?_
 have x:¬((↑N:Int)≠(↑N:Int)):=by omega
 refine qE 26 39 ((b' x)) ob<|a3 7 ax3<|qW 2 5 (R:=bk op B YG y c z WU O N) (I)<|aqs):=h
abbrev ams(a:A:=by exact kJ (α:=ByteArray) (enc:=ae) (e:=9) (by':=16) (L2:=(List.take k.toNat L)) (i:=t9) (zero:=Yh) (cs:=([])) k_ k_ k_ k_ k_ k_ k_ k_ aa.sl r0 k_ d_ w_ w_):=a
abbrev am6(a:A:=by exact iS (e:=9) (enc:=ae) (L:=(List.take k.toNat L)) (by':=16) (L2:=(s::List.drop k.toNat L)) (i:=t9) (zero:=Yh) k_ k_ k_ k_ k_ k_ k_ aa.sl r0 k_ d_ w_ w_):=a
abbrev ahM(a:A:=by exact fun r=>(e=0->r= .ab [.agg ajZ,.one (i 0)])/\(¬e=0->r= .ab Zm)):=a
abbrev ahN(a:A:=by exact[j,k,l,C_ [sv op],C_ adA,w,C_ XF,x,C_ abY,y]):=a
abbrev YM(a:A:=by exact qJ 9 8 (k+1)<|fe 0 adQ):=a
abbrev ahO(a:A:=by exact[cA,cB 0,C_ [.p V],C_ [sv op],C_ [.p Zg],.loop (bk op B Zg y c z V N n)]):=a
def am7 (h:P:=by
 refine qC 1 (oN m) ?_;rintro _ ⟨w,rfl,Z⟩;cases z:w
 ·refine qF 10 Xi ?_;exact adz
 have:=Z z;refine qF 13 (.ab [.agg [i m,i k],.one xA]) ?_
 exact adz):=h
abbrev aeB(a:A:=by exact bq (fz:=false) k_ (by rw[bc (z:=1) r0];omega)):=a
abbrev aeC(a:A:=by exact(dP w 2 x d_).mono fun r ⟨X,e,bU,b1,b3⟩=>af0):=a
abbrev aeD(a:A:=by exact(dP K 3 L d_).mono fun r ⟨X,e,bU,b1,b3⟩=>af0):=a
abbrev aeE(a:A:=by exact(dP i 1 f d_).mono fun r ⟨X,e,bU,b1,b3⟩=>af0):=a
def aeF (h:P:=by
 rintro _ ⟨u,rfl,_⟩;refine qC 0 (h6 u w_) ?_
 exact aqS):=h
def am8(h:P:=by first| exact V8|exact⟨w_,w_,by exact Xe,ra (L:=[]) (A_ w_) a_ a_ a_⟩|exact⟨w_,w_,by exact Xe,ra a_ a_ a_ a_⟩):=h
def am9(h:P:=by(have q:((aC t 0 ((t.size:Int) - 1)).size:Int)=t.size - 1:=(cp w_ w_ w_).trans w_);first| exact V8|exact⟨w_,w_⟩):=h
abbrev am_(a:A:=by exact yD 2 [] [[],[],[1]] (List.range 3)<|yI 7 k hy<|iB 1 a9 R k 17<|yJ 9 22 (k+1)<|yK 0 [0,1] (f (.inr ((k+1),X,((G_ R k).e))) aqq t_)):=a
def ana (h:P:=by
 refine eS 4 53 c 0 ?_ ?_<;>intro _
 ·exact qF 11 Xi l_
 refine qB 4 56 (d>1000000000000000) ?_ ?_<;>intro _
 ·exact qF 7 Xi l_
 exact axC):=h
abbrev anb(a:A:=by exact nC (α:=Dp) (enc:=ai) (z:=2) (e:=95) (by':=40) (L2:=O) (i:=t95) (zero:=Wc) k_ k_ k_ k_ k_ k_ Z r0 w_ k_ d_ w_ w_):=a
abbrev anc(a:A:=by exact⟨_,_,_,_,_,_,_,_,_,_,_,_,_,_,_,_,_,_,_,_,rfl,a_,a_,a_,a_,a_,a_,a_,w_,a_,by(exact Yv),a_⟩):=a
abbrev ane(a:A:=by exact⟨_,rfl,rfl,by rw[WJ,dT];omega,by rw[WJ,dT];omega⟩):=a
def anf (h:P:=by
 rintro _ ⟨K,J,d,G,D,M,n,s,m,t,l,Y,h,L,T,x,z,_,_,rfl,_,_,_,_,_,_,_,_,_,_⟩
 exact yF 2 (a adK)<|adI):=h
def ang(h:P:=by(have q:((aC t 1 t.size).size:Int)=t.size - 1:=cp w_ w_ w_);first| exact V8|exact⟨w_,w_⟩):=h
def anh(h:P:=by first| exact⟨fun _=>rfl,fun h=>absurd (show e=0 by omega) h⟩|exact⟨fun h=>absurd h w_,fun _=>rfl⟩):=h
abbrev ani(a:A:=by exact[o (sv ⟨#[116,46,99,105,116,121,46,122,105,112,58,110,117,109,98,101,114]⟩),o (.p abV)]):=a
abbrev anj(a:A:=by exact ny (α:=Dp) (enc:=ai) (z:=2) (e:=95) (L2:=O) (i:=t95) (zero:=Wc) k_ k_ k_ k_ k_ k_ Z r0 w_):=a
abbrev ank(a:A:=by exact⟨_,rfl,rfl,by rw[dT];omega,by rw[dT];omega⟩):=a
abbrev ahK(a:A:=by exact .p (.sl 1 [I_ 2,.vl XE,I_ n,I_ s,I_ 0,y,z])):=a
abbrev amQ(a:A:=by exact bq (fz:=false) k_ (by exact bc (z:=18) r0 _)):=a
abbrev aaA(a:A:=by exact[P_ bY Q,z,C_ aal]):=a
def amR (h:P:=by
 simp[aJ]at h;obtain⟨rfl,rfl⟩:=h
 exact cM.val (s:=pure (ρ' x)) (a7.still B rfl (D x xB))):=h
abbrev amS(a:A:=by exact yu 29 14 e 0<|yF 7 (o akY)<|⟨_,[d,e],rfl,.sl,fun h x N=>h x Zh,by exact ab4,s_⟩):=a
abbrev amT(a:A:=by exact[P_ ai M,.gone,.cells (pc (List.flatMap ae (G_ L s).F)) true,C_ [.p adH,sv ((G_ L s).t)]]):=a
abbrev amU(a:A:=by exact fun _=>(eV (α:=(cV n)) (enc:=bY) (L:=Q) (fz:=false) default k_ k_ k_ r0 w_ w_ w_)):=a
abbrev aeA(a:A:=by exact[C_ S5,C_ af1,C_ Yi,.gone]):=a
def amV (h:P:=by
 refine yO 0 (axq m) axe<|yO 0 (axo m) (y' k_ k_ w_ w_)<|yF 2 (o (i (ln (m - 1)))) ?_
 exact aq1):=h
abbrev acp(a:A:=by exact[o n5,a Yw,o (i 5)]):=a
abbrev acq(a:A:=by exact fun A=>[a akq,o aae]):=a
abbrev amW(a:A:=by exact .p (.sl 2 [I_ 3,.vl XE,I_ 0,I_ 0,I_ n,y,z,I_ 3,.vl XE,I_ 0,I_ 0,I_ q,A,B])):=a
abbrev VY(a:A:=by exact cQ Zf):=a
abbrev amX(a:A:=by exact xf (α:=Ab) (enc:=a9) (z:=18) (e:=45) (L:=([w,C,E])) k_ k_ hy r0 w_ s_ s_):=a
abbrev am0(a:A:=by exact[cA,cB 0,C_ [.p WU],C_ [sv op],C_ [.p YG],.loop (bk op B YG y c z WU O N)]):=a
abbrev am1(a:A:=by exact[cA,cB 0,C_ [.p WU],C_ [sv op],C_ [.p ace],.loop (bk op B ace y c z WU O N)]):=a
abbrev aaB(a:A:=by exact[P_ bY Q,C_ aal]):=a
def am2 (h:P:=by
 cases O;unfold jT at i
 split at i<;>first| exact ard|(simp at i;done)|exact aly):=h
abbrev am3(a:A:=by exact[cA,cB 0,C_ [.p V],C_ [sv op],C_ [.p abU],.loop (bk op B abU y c z V N n)]):=a
abbrev Xn(a:A:=by exact qK 0 [] adQ):=a
abbrev ahL(a:A:=by exact kv (f:=31) (args:=aiO) (r:=axz) k_):=a
abbrev am4(a:A:=by exact .inr (((c+L.getD k.toNat 0+N.getD k.toNat 0).tdiv 16777216),(k+1),axF)):=a
abbrev amI(a:A:=by exact fun r L=>r=o (b true)/\L=[f,g,h,C_ [sv op],C_ adA,t,C_ XF,x]):=a
abbrev amL(a:A:=by exact[x,F,G,P_ aj (st K j),C_ [i k],C_ aac,C_ [sv s],C_ [i k],R]):=a
abbrev YL(a:A:=by exact(3,o Wl)):=a
abbrev amM(a:A:=by exact[Ww,WD,WE,WG,(WM x),(VE k),(14,o (b (decide ad4)))]):=a
abbrev amN(a:A:=by exact[o (sv op),o (sv B),o (.p YG),o (.p y),o (.p c),o (.p z)]):=a
abbrev aez(a:A:=by exact[a YE,a [i m,i n]]):=a
abbrev ZF(a:A:=by exact(35,o Wl)):=a
abbrev am5(a:A:=by exact[(0,o VN),(4,o (i q)),(12,o (.p (.vl (.int .u32 y))))]):=a
def anN (h:P:=by
 have:Sx.aL M (hp.set s ob)=Sx.aL M hp:=rk (t s YB)
 exact ax2):=h
abbrev anO(a:A:=by exact .inr (((c+L.getD k.toNat 0).tdiv 16777216),(k+1),axM)):=a
abbrev anP(a:A:=by exact .inr (((c+N.getD k.toNat 0).tdiv 16777216),(k+1),axN)):=a
abbrev anQ(a:A:=by exact mo k_ (mo k_ (mo k_ (mo k_ (mo k_ (mo k_ (mo Zf (fm)))))))):=a
def aeH (h:P:=by
 refine qF 7 VM ?_
 exact ajJ):=h
abbrev ahV(a:A:=by exact .ad 4 0 ((M++aqU).length) 2):=a
abbrev ahW(a:A:=by exact .ad 4 0 ((M++arc).length) 2):=a
def anS (h:P:=by
 cases D:T.kz t
 all_goals
  simp only[D]at h |-
  exact arX):=h
def anT (h:P:=by
 intro q M
 rcases aaV.1 M with h1|h1
 ·exact h q h1
 exact kg):=h
abbrev anU(a:A:=by exact[j,k,l,C_ [sv op],C_ adJ,w,C_ XF,x,C_ abY,y]):=a
def anV (h:P:=by
 rintro _ ⟨u,_,rfl,_⟩;refine qC 9 (h6 u w_) ?_
 exact aqS):=h
abbrev anW(a:A:=by exact VQ F [a av0,o (.p YG)] (.ab [.agg ajZ,.one (i e)])):=a
abbrev acv(a:A:=by exact[a Dd,a axO]):=a
abbrev aeI(a:A:=by exact[a Xv,a Bo]):=a
abbrev aeJ(a:A:=by exact yJ 9 5 (k+1)<|adU):=a
def anX(h:P:=by intro h;have:=h.2 k w_ w_;omega):=h
def aeK (h:P:=by
 refine yF 7 (a Dd) ?_
 rfl):=h
abbrev anY(a:A:=by exact yJ 8 22 (k+1)<|yK 0 [0,1] (f (.inl (k+1)) aqq t_)):=a
abbrev anZ(a:A:=by exact[f,g,h,C_ [sv op],C_ adA,t,C_ XF,x,C_ abY]):=a
abbrev aaD(a:A:=by exact(39,o Yx)):=a
abbrev aaE(a:A:=by exact(40,o Yx)):=a
abbrev an0(a:A:=by exact lZ (z:=1) (e:=9) (L:=(Xw w)) k_ k_ r0 w_ w_):=a
abbrev YO(a:A:=by exact[C_ aal]):=a
abbrev an1(a:A:=by exact[P_ ai M,.gone,.cells (pc (XT D)) true,C_ akm]):=a
abbrev an2(a:A:=by exact .p (.sl 1 [I_ 3,.vl XE,I_ 0,I_ 0,I_ n,y,z])):=a
abbrev ahS(a:A:=by exact[.p aj3,sv ((G_ L X).t)]):=a
def ans(h:P:=by rw[n4 z u T];simp[stepG.apply,C]):=h
abbrev ant(a:A:=by exact fun w=>([Zw,(3,o (sv w))],[C_ [i q,i u]])):=a
def anu (h:P:=by
 refine e0 8 nA S5 (r':=nA) (ts:=[]) ?_
 exact Ze):=h
def anv (h:P:=by
 refine yE 3 47 v bJ<|yV 3 jl<|yF 2 X0 ?_
 exact ajG):=h
abbrev anw(a:A:=by exact th (z:=1) (e:=9) (L:=L) k_ k_ r0 w_ w_):=a
abbrev anx(a:A:=by exact lZ (z:=1) (e:=9) (L:=L) k_ k_ r0 w_ w_):=a
abbrev anz(a:A:=by exact kv (f:=31) (args:=afx) (r:=o (i 16)) k_):=a
def anB (h:P:=by
 rintro _ ⟨v,rfl⟩;refine qC 0 (j_ v) ?_
 exact akv):=h
def anC (h:P:=by
 refine yV 2 sh<|yF 3 ni ?_
 first| rfl|exact YD):=h
abbrev anD(a:A:=by exact kv (f:=31) (args:=afu) (r:=o (i 2)) k_):=a
abbrev anE(a:A:=by exact kv (f:=31) (args:=afv) (r:=o (i 4)) k_):=a
abbrev anF(a:A:=by exact kv (f:=31) (args:=afw) (r:=o (i 8)) k_):=a
abbrev anG(a:A:=by exact VQ 104 [v.A] (.ab [.agg agE,.one (b true)])):=a
abbrev aaC(a:A:=by exact yF 30 ni l_):=a
abbrev anH(a:A:=by exact[f,g,h,C_ [sv op],C_ aki,t,C_ akJ,x]):=a
abbrev anI(a:A:=by exact[f,g,h,C_ [sv op],C_ ajX,t,C_ ab0,x]):=a
abbrev anJ(a:A:=by exact[f,g,h,C_ [sv op],C_ ajK,t,C_ ab0,x]):=a
abbrev anK(a:A:=by exact[a [i 5,e_,i 0,i 0,i 0,.p akr,.p z]]):=a
abbrev ahT(a:A:=by exact[a Dd,a [i w,i X]]):=a
abbrev acr(a:A:=by exact(39,o Zj)):=a
abbrev acs(a:A:=by exact(40,o Zj)):=a
def ahU (h:P:=by
 refine yF 18 nA ?_
 exact akn):=h
abbrev acu(a:A:=by exact(20,a aaf)):=a
abbrev anL(a:A:=by exact e (.inr ((jj+1),K,(N++as_))) axG t_):=a
def anm(h:P:=by first| exact V8|exact axH):=h
abbrev ann(a:A:=by exact[c,d,e,C_ [sv op],C_ adA,s,C_ XF]):=a
abbrev aeG(a:A:=by exact l6 k_ k_ w_ w_):=a
def ahQ(h:P:=by simpa using u):=h
abbrev ano(a:A:=by exact fun r cs=>r=o (b true)/\cs=ark):=a
def ahR(h:P:=by rw[cp w_ w_ w_];omega):=h
abbrev anp(a:A:=by exact[a WR,a [i x,i I,i y,sv P,sv N]]):=a
abbrev anq(a:A:=by exact fun(f,g)=>(axP,[C_ afX,P_ ai M])):=a
abbrev an6(a:A:=by exact tf (e:=5) (fz:=false) k_ k_ k_ k_):=a
abbrev acw(a:A:=by exact(0,o VN)):=a
abbrev aeM(a:A:=by exact yF 5 nA<|ake):=a
abbrev an8(a:A:=by exact(48,a [.p adH,sv ((G_ L s).t)])):=a
abbrev an9(a:A:=by exact e (.inr ((j+1),K,as_)) axE t_):=a
abbrev aoa(a:A:=by exact[c,d,e,C_ [sv op],C_ adA,s]):=a
abbrev aob(a:A:=by exact VQ 98 [o (sv op),o (sv pa)] asC):=a
abbrev aod(a:A:=by exact[abm,acf,abf,abn,(9,a W6)]):=a
abbrev aoe(a:A:=by exact[abm,acf,abf,abn,(9,a acR)]):=a
def aof(h:P:=by(try dsimp only);exact⟨w_,a_,a_⟩):=h
abbrev aog(a:A:=by exact iT (e:=3) (N:=7) k_ k_ w_ w_):=a
def aoh (h:P:=by
 refine cO 0 cF W p 7<|yC 0 ate ?_
 rintro _ ⟨g,rfl,_⟩
 exact yA 1 a9 a g 192<|yJ 9 8 (p+1)<|yK 0 [0,1,4] (e (.inr ((p+1),(a++[g]))) aeq t_) (hh:=m_)):=h
def aoi (h:P:=by
 refine cO 0 cF W p 7<|yC 0 ate ?_
 rintro _ ⟨g,rfl,_⟩
 exact yA 1 a9 a g 192<|yJ 9 8 (p+1)<|yK 0 [0,3] (e (.inr ((p+1),(a++[g]))) aeq t_) (hh:=m_)):=h
def aoj (h:P:=by
 refine cO 0 cF W j 7<|yC 0 atd ?_
 rintro _ ⟨g,rfl,_⟩
 exact yJ 11 8 (j+1)<|yK 0 [0,1,3] (e (.inr ((j+1),([g]))) aeq t_) (hh:=m_)):=h
def aok (h:P:=by
 refine cO 0 cF W j 7<|yC 0 atd ?_
 rintro _ ⟨g,rfl,_⟩
 exact yJ 11 8 (j+1)<|yK 0 [0,2] (e (.inr ((j+1),([g]))) aeq t_)):=h
abbrev ahX(a:A:=by exact bq (fz:=false) k_ (by rw[bc (z:=2) r0];omega)):=a
def aol (h:P:=by
 obtain⟨rfl,j⟩:=xL (P:=P) B h (D m xB) (D k xB) (D x (by simp[Op.operands]))
 exact cM.unit j):=h
def aom (h:P:=by
 refine kC 7 (o awy) (r':=o (.p (aiC O))) (ts:=[1]) (fun _=>(cQ XN)) ?_
 exact l_):=h
abbrev aon(a:A:=by exact yE 0 43 W oi<|yK 13 [0,1,2,8,5] (d (.inr (1,O,([B_ acO]),([1]))) axc t_)):=a
abbrev aoo(a:A:=by exact yE 0 43 W oi<|yA 3 aj T 1 8<|yK 9 ac7 (d ax4 axb t_) (hh:=m_)):=a
abbrev aop(a:A:=by exact⟨_,rfl,by constructor;(intro h;simp at h);exact anX⟩):=a
def aoq(h:P:=by refine yM 5 81 (r:=avM) (r':=(ao5 M)) (ts:=[0]) VY<|axD):=h
abbrev aor(a:A:=by exact jt 7 (o Wl) (r':=(axw M)) (ts:=[0]) (cQ XN)<|l_):=a
def an3 (h:P:=by
 have:¬(c=32):=by omega
 exact yu 12 31 c 32<|ahF):=h
def an4 (h:P:=by
 refine jt 2 axS (r':=axI) (ts:=[4]) VY ?_
 exact l_):=h
abbrev an5(a:A:=by exact fun r L=>r=o (b v)/\L=ahN):=a
end Go
