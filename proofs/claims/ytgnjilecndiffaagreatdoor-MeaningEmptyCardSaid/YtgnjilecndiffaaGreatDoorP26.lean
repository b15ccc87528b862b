/- A part of the proof of MeaningEmpty. -/
import Derived.Test.YtgnjilecndiffaaGreatDoorP25
set_option linter.all false
set_option maxRecDepth 1000000
set_option maxHeartbeats 0
namespace Go.Sx.E1
open Go.Proofs
variable [MaxL]
theorem any_cons_take {L:List Ab} {k:Int} (h0:0≤k) (hk:k<L.length) (h:(L.take k.toNat).any (fun v=> !v.ne)=false) (h1:(L.getD k.toNat default).ne=true):(L.take (k+1).toNat).any (fun v=> !v.ne)=false:=by
 have e:(k+1).toNat=k.toNat+1:=by omega
 have hl:k.toNat<L.length:=by omega
 rw [e,List.take_succ_eq_append_getElem hl,List.any_append,h];rw [List.getD_eq_getElem?_getD,List.getElem?_eq_getElem hl,Option.getD_some] at h1;simp [h1]
theorem any_at {L:List Ab} {k:Int} (h0:0≤k) (hk:k<L.length) (h1:(L.getD k.toNat default).ne=false):L.any (fun v=> !v.ne)=true:=by
 have hl:k.toNat<L.length:=by omega
 rw [List.getD_eq_getElem?_getD,List.getElem?_eq_getElem hl,Option.getD_some] at h1;exact List.any_eq_true.2 ⟨_,List.getElem_mem hl,by simp [h1]⟩
theorem any_end {L:List Ab} {k:Int} (hk:(L.length:Int)≤k) (h:(L.take k.toNat).any (fun v=> !v.ne)=false):L.any (fun v=> !v.ne)=false:=by
 rwa [List.take_of_length_le (by omega)] at h
theorem c42 (L:List Ab) (x:PV) (hx:IsS encA L x) (hl:L.length≤100):ValC Tryz.prog GG 42 [o (.p x)] (fun r=>r=o (b (L.any (fun v=> !v.ne)))):=by
 refine vX (fn:=Tryz.f42)<| yL 8 hx<| yP 4 [] 14 (pT Tryz.f42 [1,0,1,0,0]) (α:=(Int)) (fun k=>0≤k∧k≤L.length∧(L.take k.toNat).any (fun v=> !v.ne)=false) (fun k=>(L.length - k).toNat) (fun k=>([(5,o (.p x)),(6,o (i ((↑L.length:Int)))),(7,o (i k))],[])) 0 (by exact ⟨by omega,by omega,rfl⟩) ?_
 rintro k hI ih4 J
 try dsimp only at hI ih4 ⊢
 obtain ⟨_,_,_⟩:=hI;refine yB 5 8 (k<(↑L.length:Int)) (fun _=> ?_) fun _=> ?_
 ·refine yI 6 k hx<| yGN 0 encA L k 18<| yV 6 (c10_1 (L.getD k.toNat default)) ?_
  rcases bt2 ((L.getD k.toNat default).ne) with hb5 | hb5
  ·exact yE 1 12 hb5 onb<| yF 5 (o (b true))<| congrArg (fun y=>o (b y)) (any_at (L:=L) (k:=k) (by omega) (by omega) (by assumption)).symm
  exact yE 1 12 hb5 onb<| yJ 8 7 (k+1)<| yK 0 [] (ih4 (k+1) (by exact ⟨by omega,by omega,any_cons_take (by omega) (by omega) (by assumption) (by assumption)⟩) (by (try dsimp only);omega))
 exact yF 6 (o (b false))<| congrArg (fun y=>o (b y)) (any_end (L:=L) (k:=k) (by omega) (by assumption)).symm
theorem c41 (op:ByteArray) (h:(op.toList==(ByteArray.mk #[105,102]).toList)=false):ValC Tryz.prog GG 41 [o (sv op)] (fun r=>r=o (b false)):=by
 refine vX (fn:=Tryz.f41)<| yF 10 (o (b (op.toList==(ByteArray.mk #[105,102]).toList))) ?_
 rw [h]
theorem c9_none (op pa:ByteArray) (cb cc cr kx y:PV) (kd:Int) (KL:List Int) (L:List Ab) (hT:ValC Tryz.prog GG 6 [o (sv op),o (sv pa),o (.p cb),o (.p cc)] (fun r=>r= .tup [.one (.p kx),.one (i kd),.one (i 0)])) (hk:IsS encI KL kx) (hy:IsS encA L y) (hl:L.length≤100) (hlk:KL.length=L.length) (hif:(op.toList==(ByteArray.mk #[105,102]).toList)=false) (hcol:(op.toList==(ByteArray.mk #[99,111,108]).toList)=false) (hne:L.any (fun v=> !v.ne)=true):ValC Tryz.prog GG 9 [o (sv op),o (sv pa),o (.p y),o (.p cb),o (.p cc),o (.p cr)] (fun r=>r=a [i 0,i 1,i 0,i 0,sv ⟨#[]⟩,sv ⟨#[]⟩,i 1,i 0,i 0,i 0,i 1,i 0,i 0,i 1,i 0,nl,nl,b false]):=by
 refine vX (fn:=Tryz.f9)<| yV 10 hT<| yL 15 hy<| yL 1 hk ?_
 have hb0:¬((↑L.length:Int)≠(↑KL.length:Int)):=by omega
 refine yE 3 44 ((bne_eq_false_iff_eq.2 (Decidable.not_not.1 hb0):((↑L.length:Int) !=(↑KL.length:Int))=false)) ob<| yV 11 (c41 op (by omega))<| yV 7 (c42 _ _ hy (by omega))<| yE 1 53 (hne:(L.any fun v=> !v.ne)=true) ob<| yV 11 (kv (f:=7) (args:=[]) (r:=a [i 0,i 1,i 0,i 0,.p (.vl (vs [])),.p (.vl (vs [])),i 1,i 0,i 0,i 0,i 1,i 0,i 0,i 1,i 0,nl,nl,b false]) (by kernel_rfl))<| yF 2 (a [i 0,i 1,i 0,i 0,.p (.vl (vs [])),.p (.vl (vs [])),i 1,i 0,i 0,i 0,i 1,i 0,i 0,i 1,i 0,nl,nl,b false]) ?_
 rfl
theorem kstep {L:List Ab} {k:Int} {j:Nat} {K:Int} (hv:(L.getD j default).vals=false) (h:(L.getD k.toNat default).vals=false→K=0) (hn:¬K=0) (h0:0≤k) (hk:k≤j):k+1≤j:=by
 have:k≠j:=by rintro rfl;exact hn (h (by simpa using hv))
 omega
def KdOk5 (Kd:List Int):Prop:=∀b∈Kd,1≤b∧b≤5
theorem fact_kd5 {Kd:List Int} (n:Nat) (h:KdOk5 Kd) (hn:n<Kd.length):1≤Kd.getD n 0∧Kd.getD n 0≤5:=by
 rw [List.getD_eq_getElem?_getD,List.getElem?_eq_getElem hn,Option.getD_some];exact h _ (List.getElem_mem hn)
theorem c9_failed (op pa:ByteArray) (cb cc cr kx y:PV) (kd:Int) (KL:List Int) (L:List Ab) (hT:ValC Tryz.prog GG 6 [o (sv op),o (sv pa),o (.p cb),o (.p cc)] (fun r=>r= .tup [.one (.p kx),.one (i kd),.one (i 0)])) (hk:IsS encI KL kx) (hK5:KdOk5 KL) (hy:IsS encA L y) (hl:L.length≤100) (hlk:KL.length=L.length) (hif:(op.toList==(ByteArray.mk #[105,102]).toList)=false) (hcol:(op.toList==(ByteArray.mk #[99,111,108]).toList)=false) (hne:L.any (fun v=> !v.ne)=false) (j:Nat) (hj:j<L.length) (hv:(L.getD j default).vals=false):ValC Tryz.prog GG 9 [o (sv op),o (sv pa),o (.p y),o (.p cb),o (.p cc),o (.p cr)] (fun r=>r=a [i 0,i 1,i 0,i 0,sv ⟨#[]⟩,sv ⟨#[]⟩,i 1,i 0,i 0,i 0,i 1,i 0,i 0,i 1,i 0,nl,nl,b true]):=by
 refine vX (fn:=Tryz.f9)<| yV 10 hT<| yL 15 hy<| yL 1 hk ?_
 have hb0:¬((↑L.length:Int)≠(↑KL.length:Int)):=by omega
 refine yE 3 44 ((bne_eq_false_iff_eq.2 (Decidable.not_not.1 hb0):((↑L.length:Int) !=(↑KL.length:Int))=false)) ob<| yV 11 (c41 op (by omega))<| yV 7 (c42 _ _ hy (by omega))<| yE 1 53 (hne:(L.any fun v=> !v.ne)=false) ob<| yE 3 56 (hcol:(op.toList==(ByteArray.mk #[99,111,108]).toList)=false) ob<| yL 26 hy<| yP 4 [0,1] 144 (pT Tryz.f9 [1,1,1,1,1,1,1,1,0,1,0,0]) (α:=(Int×Bool×Int×Int×Int×Int×Int×Int×Int×Int×Int×Int×Int×Int×Int×ByteArray×ByteArray×PV×PV×Bool×Int×Int×Int×Int×Int×Int×Int×Int×Int×Int×Int×Int×Int×ByteArray×ByteArray×PV×PV×Bool)) (fun (k,fl,Ka,lea,mxa,cla,na,sa,ma,ta,dla,dha,boa,rla,rha,bea,ena,xa,za,ea,Kb,leb,mxb,clb,nb,sb,mb,tb,dlb,dhb,bob,rlb,rhb,beb,enb,xb,zb,eb)=>0≤k∧k≤j) (fun (k,fl,Ka,lea,mxa,cla,na,sa,ma,ta,dla,dha,boa,rla,rha,bea,ena,xa,za,ea,Kb,leb,mxb,clb,nb,sb,mb,tb,dlb,dhb,bob,rlb,rhb,beb,enb,xb,zb,eb)=>(L.length - k).toNat) (fun (k,fl,Ka,lea,mxa,cla,na,sa,ma,ta,dla,dha,boa,rla,rha,bea,ena,xa,za,ea,Kb,leb,mxb,clb,nb,sb,mb,tb,dlb,dhb,bob,rlb,rhb,beb,enb,xb,zb,eb)=>([(0,o (.p (.vl (.string op)))),(1,o (.p (.vl (.string pa)))),(2,o (.p y)),(4,o (.p cc)),(5,o (.p cr)),(12,o (.ref 0 0)),(13,o (.p kx)),(17,o (.ref 1 0)),(18,o (b fl)),(68,o (.p y)),(69,o (i ((↑L.length:Int)))),(70,o (i k))],[.cells [i 0,i 0,i 0,i 0,.p (.vl (vs [])),.p (.vl (vs [])),i 0,i 0,i 0,i 0,i 0,i 0,i 0,i 0,i 0,nl,nl,b false] false,.cells [.p (.vl (.string op)),.p (.vl (.string pa)),i kd,i Ka,i lea,i mxa,i cla,.p (.vl (.string bea)),.p (.vl (.string ena)),i na,i sa,i ma,i ta,i dla,i dha,i boa,i rla,i rha,.p xa,.p za,b ea,i Kb,i leb,i mxb,i clb,.p (.vl (.string beb)),.p (.vl (.string enb)),i nb,i sb,i mb,i tb,i dlb,i dhb,i bob,i rlb,i rhb,.p xb,.p zb,b eb,.p cb,.p cc] false])) (0,false,0,0,0,0,0,0,0,0,0,0,0,0,0,(ByteArray.mk (List.map UInt8.ofNat []).toArray),(ByteArray.mk (List.map UInt8.ofNat []).toArray),(PV.vl vn),(PV.vl vn),false,0,0,0,0,0,0,0,0,0,0,0,0,0,(ByteArray.mk (List.map UInt8.ofNat []).toArray),(ByteArray.mk (List.map UInt8.ofNat []).toArray),(PV.vl vn),(PV.vl vn),false) (by omega) ?_
 rintro ⟨k,fl,Ka,lea,mxa,cla,na,sa,ma,ta,dla,dha,boa,rla,rha,bea,ena,xa,za,ea,Kb,leb,mxb,clb,nb,sb,mb,tb,dlb,dhb,bob,rlb,rhb,beb,enb,xb,zb,eb⟩ hI ih11 J
 try dsimp only at hI ih11 ⊢
 obtain ⟨_,_⟩:=hI;refine yp 5 71 (k<(↑L.length:Int))<| yI 7 k hy<| yGN 0 encA L k 18<| yD 5 [[],[],[],[],[],[99999],[],[],[3]] [[],[],[],[],[],[],[],[],[],[],[3]] (List.range 12)<| yI 3 k hk<| yG 0 encI KL k ?_
 have:=(show (1≤KL.getD k.toNat 0∧KL.getD k.toNat 0≤5) from fact_kd5 k.toNat (by omega) (by omega))
 refine yC 0 (c43_1 (L.getD k.toNat default) (KL.getD k.toNat 0) (by omega) (by omega)) ?_;rintro _ ⟨K8,le9,mx10,cl11,be12,en13,n14,s15,m16,t17,dl18,dh19,bo20,rl21,rh22,x23,z24,e25,oth26,rfl,_⟩
 by_cases hb28:(K8=0)
 ·refine ye 14 86 K8 0<| yV 3 (kv (f:=40) (args:=[]) (r:=a [i 0,i 1,i 0,i 0,.p (.vl (vs [])),.p (.vl (vs [])),i 1,i 0,i 0,i 0,i 1,i 0,i 0,i 1,i 0,nl,nl,b true]) (by kernel_rfl))<| yF 2 (a [i 0,i 1,i 0,i 0,.p (.vl (vs [])),.p (.vl (vs [])),i 1,i 0,i 0,i 0,i 1,i 0,i 0,i 1,i 0,nl,nl,b true]) ?_
  rfl
 refine yu 14 86 K8 0 ?_;cases hb29:fl
 ·rcases bt2 ((L.getD k.toNat default).e) with hb30 | hb30
  ·refine yE 10 93 hb30 ob ?_
   by_cases hb31:(k=0)
   ·exact ye 14 97 k 0<| yJ 13 70 (k+1)<| yK 0 [0,1] (ih11 ((k+1),oth26,K8,le9,mx10,cl11,n14,s15,m16,t17,dl18,dh19,bo20,rl21,rh22,be12,en13,x23,z24,e25,Kb,leb,mxb,clb,nb,sb,mb,tb,dlb,dhb,bob,rlb,rhb,beb,enb,xb,zb,eb) (by exact ⟨by omega,kstep hv (by assumption) (by assumption) (by omega) (by omega)⟩) (by dsimp only;omega))
   refine yu 14 97 k 0 ?_
   by_cases hb32:(k=1)
   ·exact ye 6 101 k 1<| yJ 13 70 (k+1)<| yK 0 [0,1] (ih11 ((k+1),oth26,Ka,lea,mxa,cla,na,sa,ma,ta,dla,dha,boa,rla,rha,bea,ena,xa,za,ea,K8,le9,mx10,cl11,n14,s15,m16,t17,dl18,dh19,bo20,rl21,rh22,be12,en13,x23,z24,e25) (by exact ⟨by omega,kstep hv (by assumption) (by assumption) (by omega) (by omega)⟩) (by dsimp only;omega))
   exact yu 6 101 k 1<| yJ 9 70 (k+1)<| yK 0 [0,1] (ih11 ((k+1),oth26,Ka,lea,mxa,cla,na,sa,ma,ta,dla,dha,boa,rla,rha,bea,ena,xa,za,ea,Kb,leb,mxb,clb,nb,sb,mb,tb,dlb,dhb,bob,rlb,rhb,beb,enb,xb,zb,eb) (by exact ⟨by omega,kstep hv (by assumption) (by assumption) (by omega) (by omega)⟩) (by dsimp only;omega))
  refine yE 10 93 hb30 ob ?_
  by_cases hb33:(k=0)
  ·exact ye 14 97 k 0<| yJ 13 70 (k+1)<| yK 0 [0,1] (ih11 ((k+1),true,K8,le9,mx10,cl11,n14,s15,m16,t17,dl18,dh19,bo20,rl21,rh22,be12,en13,x23,z24,e25,Kb,leb,mxb,clb,nb,sb,mb,tb,dlb,dhb,bob,rlb,rhb,beb,enb,xb,zb,eb) (by exact ⟨by omega,kstep hv (by assumption) (by assumption) (by omega) (by omega)⟩) (by dsimp only;omega))
  refine yu 14 97 k 0 ?_
  by_cases hb34:(k=1)
  ·exact ye 6 101 k 1<| yJ 13 70 (k+1)<| yK 0 [0,1] (ih11 ((k+1),true,Ka,lea,mxa,cla,na,sa,ma,ta,dla,dha,boa,rla,rha,bea,ena,xa,za,ea,K8,le9,mx10,cl11,n14,s15,m16,t17,dl18,dh19,bo20,rl21,rh22,be12,en13,x23,z24,e25) (by exact ⟨by omega,kstep hv (by assumption) (by assumption) (by omega) (by omega)⟩) (by dsimp only;omega))
  exact yu 6 101 k 1<| yJ 9 70 (k+1)<| yK 0 [0,1] (ih11 ((k+1),true,Ka,lea,mxa,cla,na,sa,ma,ta,dla,dha,boa,rla,rha,bea,ena,xa,za,ea,Kb,leb,mxb,clb,nb,sb,mb,tb,dlb,dhb,bob,rlb,rhb,beb,enb,xb,zb,eb) (by exact ⟨by omega,kstep hv (by assumption) (by assumption) (by omega) (by omega)⟩) (by dsimp only;omega))
 by_cases hb35:(k=0)
 ·exact ye 24 97 k 0<| yJ 13 70 (k+1)<| yK 0 [0,1] (ih11 ((k+1),true,K8,le9,mx10,cl11,n14,s15,m16,t17,dl18,dh19,bo20,rl21,rh22,be12,en13,x23,z24,e25,Kb,leb,mxb,clb,nb,sb,mb,tb,dlb,dhb,bob,rlb,rhb,beb,enb,xb,zb,eb) (by exact ⟨by omega,kstep hv (by assumption) (by assumption) (by omega) (by omega)⟩) (by dsimp only;omega))
 refine yu 24 97 k 0 ?_
 by_cases hb36:(k=1)
 ·exact ye 6 101 k 1<| yJ 13 70 (k+1)<| yK 0 [0,1] (ih11 ((k+1),true,Ka,lea,mxa,cla,na,sa,ma,ta,dla,dha,boa,rla,rha,bea,ena,xa,za,ea,K8,le9,mx10,cl11,n14,s15,m16,t17,dl18,dh19,bo20,rl21,rh22,be12,en13,x23,z24,e25) (by exact ⟨by omega,kstep hv (by assumption) (by assumption) (by omega) (by omega)⟩) (by dsimp only;omega))
 exact yu 6 101 k 1<| yJ 9 70 (k+1)<| yK 0 [0,1] (ih11 ((k+1),true,Ka,lea,mxa,cla,na,sa,ma,ta,dla,dha,boa,rla,rha,bea,ena,xa,za,ea,Kb,leb,mxb,clb,nb,sb,mb,tb,dlb,dhb,bob,rlb,rhb,beb,enb,xb,zb,eb) (by exact ⟨by omega,kstep hv (by assumption) (by assumption) (by omega) (by omega)⟩) (by dsimp only;omega))
theorem c6_r4 (cb cc:PV):ValC Tryz.prog GG 6 [o (sv ⟨#[116,101,120,116]⟩),o (sv ⟨#[97,98]⟩),o (.p cb),o (.p cc)] (fun r=>r= .tup [.one (nl),.one (i (1)),.one (i (0))]):=kvL (by kernel_rfl)
theorem c6_r5 (cb cc:PV):ValC Tryz.prog GG 6 [o (sv ⟨#[110,117,109,98,101,114]⟩),o (sv ⟨#[45,51,46,53]⟩),o (.p cb),o (.p cc)] (fun r=>r= .tup [.one (nl),.one (i (2)),.one (i (0))]):=kvL (by kernel_rfl)
theorem c6_r6 (cb cc:PV):ValC Tryz.prog GG 6 [o (sv ⟨#[100,97,116,101]⟩),o (sv ⟨#[50,48,50,52,45,48,49,45,51,49]⟩),o (.p cb),o (.p cc)] (fun r=>r= .tup [.one (nl),.one (i (3)),.one (i (0))]):=kvL (by kernel_rfl)
theorem c6_r7 (cb cc:PV):ValC Tryz.prog GG 6 [o (sv ⟨#[98,111,111,108]⟩),o (sv ⟨#[49]⟩),o (.p cb),o (.p cc)] (fun r=>r= .tup [.one (nl),.one (i (4)),.one (i (0))]):=kvL (by kernel_rfl)
theorem c6_r8 (cb cc:PV):ValC Tryz.prog GG 6 [o (sv ⟨#[99,111,110,99,97,116]⟩),o (sv ⟨#[]⟩),o (.p cb),o (.p cc)] (fun r=>r= .tup [.one (.p (.sl (2) [(.vl (vi (1))),(.vl (vi (1)))])),.one (i (1)),.one (i (0))]):=kvL (by kernel_rfl)
theorem c6_r9 (cb cc:PV):ValC Tryz.prog GG 6 [o (sv ⟨#[117,112,112,101,114]⟩),o (sv ⟨#[]⟩),o (.p cb),o (.p cc)] (fun r=>r= .tup [.one (.p (.sl (1) [(.vl (vi (1)))])),.one (i (1)),.one (i (0))]):=kvL (by kernel_rfl)
theorem c6_r10 (cb cc:PV):ValC Tryz.prog GG 6 [o (sv ⟨#[108,111,119,101,114]⟩),o (sv ⟨#[]⟩),o (.p cb),o (.p cc)] (fun r=>r= .tup [.one (.p (.sl (1) [(.vl (vi (1)))])),.one (i (1)),.one (i (0))]):=kvL (by kernel_rfl)
theorem c6_r11 (cb cc:PV):ValC Tryz.prog GG 6 [o (sv ⟨#[116,114,105,109]⟩),o (sv ⟨#[]⟩),o (.p cb),o (.p cc)] (fun r=>r= .tup [.one (.p (.sl (1) [(.vl (vi (1)))])),.one (i (1)),.one (i (0))]):=kvL (by kernel_rfl)
theorem c6_r15 (cb cc:PV):ValC Tryz.prog GG 6 [o (sv ⟨#[108,101,110,103,116,104]⟩),o (sv ⟨#[]⟩),o (.p cb),o (.p cc)] (fun r=>r= .tup [.one (.p (.sl (1) [(.vl (vi (1)))])),.one (i (2)),.one (i (0))]):=kvL (by kernel_rfl)
theorem c6_r16 (cb cc:PV):ValC Tryz.prog GG 6 [o (sv ⟨#[112,97,114,115,101]⟩),o (sv ⟨#[]⟩),o (.p cb),o (.p cc)] (fun r=>r= .tup [.one (.p (.sl (1) [(.vl (vi (1)))])),.one (i (2)),.one (i (0))]):=kvL (by kernel_rfl)
theorem c6_r17 (cb cc:PV):ValC Tryz.prog GG 6 [o (sv ⟨#[112,114,105,110,116]⟩),o (sv ⟨#[]⟩),o (.p cb),o (.p cc)] (fun r=>r= .tup [.one (.p (.sl (1) [(.vl (vi (2)))])),.one (i (1)),.one (i (0))]):=kvL (by kernel_rfl)
theorem c6_r18 (cb cc:PV):ValC Tryz.prog GG 6 [o (sv ⟨#[97,100,100]⟩),o (sv ⟨#[]⟩),o (.p cb),o (.p cc)] (fun r=>r= .tup [.one (.p (.sl (2) [(.vl (vi (2))),(.vl (vi (2)))])),.one (i (2)),.one (i (0))]):=kvL (by kernel_rfl)
theorem c6_r19 (cb cc:PV):ValC Tryz.prog GG 6 [o (sv ⟨#[115,117,98]⟩),o (sv ⟨#[]⟩),o (.p cb),o (.p cc)] (fun r=>r= .tup [.one (.p (.sl (2) [(.vl (vi (2))),(.vl (vi (2)))])),.one (i (2)),.one (i (0))]):=kvL (by kernel_rfl)
theorem c6_r20 (cb cc:PV):ValC Tryz.prog GG 6 [o (sv ⟨#[109,117,108]⟩),o (sv ⟨#[]⟩),o (.p cb),o (.p cc)] (fun r=>r= .tup [.one (.p (.sl (2) [(.vl (vi (2))),(.vl (vi (2)))])),.one (i (2)),.one (i (0))]):=kvL (by kernel_rfl)
theorem c6_r21 (cb cc:PV):ValC Tryz.prog GG 6 [o (sv ⟨#[114,111,117,110,100]⟩),o (sv ⟨#[48]⟩),o (.p cb),o (.p cc)] (fun r=>r= .tup [.one (.p (.sl (1) [(.vl (vi (2)))])),.one (i (2)),.one (i (0))]):=kvL (by kernel_rfl)
theorem c6_r22 (cb cc:PV):ValC Tryz.prog GG 6 [o (sv ⟨#[114,111,117,110,100]⟩),o (sv ⟨#[50]⟩),o (.p cb),o (.p cc)] (fun r=>r= .tup [.one (.p (.sl (1) [(.vl (vi (2)))])),.one (i (2)),.one (i (0))]):=kvL (by kernel_rfl)
theorem c6_r23 (cb cc:PV):ValC Tryz.prog GG 6 [o (sv ⟨#[114,101,97,100]⟩),o (sv ⟨#[89,89,89,89,45,77,77,45,68,68]⟩),o (.p cb),o (.p cc)] (fun r=>r= .tup [.one (.p (.sl (1) [(.vl (vi (1)))])),.one (i (3)),.one (i (0))]):=kvL (by kernel_rfl)
theorem c6_r24 (cb cc:PV):ValC Tryz.prog GG 6 [o (sv ⟨#[115,104,111,119]⟩),o (sv ⟨#[68,46,77,46,89,89,89,89]⟩),o (.p cb),o (.p cc)] (fun r=>r= .tup [.one (.p (.sl (1) [(.vl (vi (3)))])),.one (i (1)),.one (i (0))]):=kvL (by kernel_rfl)
theorem c6_r25 (cb cc:PV):ValC Tryz.prog GG 6 [o (sv ⟨#[115,104,111,119]⟩),o (sv ⟨#[89,89,89,89,45,77,77,45,68,68]⟩),o (.p cb),o (.p cc)] (fun r=>r= .tup [.one (.p (.sl (1) [(.vl (vi (3)))])),.one (i (1)),.one (i (0))]):=kvL (by kernel_rfl)
theorem c6_r26 (cb cc:PV):ValC Tryz.prog GG 6 [o (sv ⟨#[100,97,121,115]⟩),o (sv ⟨#[]⟩),o (.p cb),o (.p cc)] (fun r=>r= .tup [.one (.p (.sl (2) [(.vl (vi (3))),(.vl (vi (2)))])),.one (i (3)),.one (i (0))]):=kvL (by kernel_rfl)
theorem c6_r27 (cb cc:PV):ValC Tryz.prog GG 6 [o (sv ⟨#[98,101,116,119,101,101,110]⟩),o (sv ⟨#[]⟩),o (.p cb),o (.p cc)] (fun r=>r= .tup [.one (.p (.sl (2) [(.vl (vi (3))),(.vl (vi (3)))])),.one (i (2)),.one (i (0))]):=kvL (by kernel_rfl)
theorem c6_r28 (cb cc:PV):ValC Tryz.prog GG 6 [o (sv ⟨#[101,113,117,97,108]⟩),o (sv ⟨#[116,101,120,116]⟩),o (.p cb),o (.p cc)] (fun r=>r= .tup [.one (.p (.sl (2) [(.vl (vi (1))),(.vl (vi (1)))])),.one (i (4)),.one (i (0))]):=kvL (by kernel_rfl)
theorem c6_r29 (cb cc:PV):ValC Tryz.prog GG 6 [o (sv ⟨#[101,113,117,97,108]⟩),o (sv ⟨#[110,117,109,98,101,114]⟩),o (.p cb),o (.p cc)] (fun r=>r= .tup [.one (.p (.sl (2) [(.vl (vi (2))),(.vl (vi (2)))])),.one (i (4)),.one (i (0))]):=kvL (by kernel_rfl)
theorem c6_r30 (cb cc:PV):ValC Tryz.prog GG 6 [o (sv ⟨#[101,113,117,97,108]⟩),o (sv ⟨#[100,97,116,101]⟩),o (.p cb),o (.p cc)] (fun r=>r= .tup [.one (.p (.sl (2) [(.vl (vi (3))),(.vl (vi (3)))])),.one (i (4)),.one (i (0))]):=kvL (by kernel_rfl)
theorem c6_r31 (cb cc:PV):ValC Tryz.prog GG 6 [o (sv ⟨#[98,101,102,111,114,101]⟩),o (sv ⟨#[]⟩),o (.p cb),o (.p cc)] (fun r=>r= .tup [.one (.p (.sl (2) [(.vl (vi (3))),(.vl (vi (3)))])),.one (i (4)),.one (i (0))]):=kvL (by kernel_rfl)
theorem c6_r32 (cb cc:PV):ValC Tryz.prog GG 6 [o (sv ⟨#[108,101,115,115]⟩),o (sv ⟨#[]⟩),o (.p cb),o (.p cc)] (fun r=>r= .tup [.one (.p (.sl (2) [(.vl (vi (2))),(.vl (vi (2)))])),.one (i (4)),.one (i (0))]):=kvL (by kernel_rfl)
theorem c6_r35 (cb cc:PV):ValC Tryz.prog GG 6 [o (sv ⟨#[110,111,116]⟩),o (sv ⟨#[]⟩),o (.p cb),o (.p cc)] (fun r=>r= .tup [.one (.p (.sl (1) [(.vl (vi (4)))])),.one (i (4)),.one (i (0))]):=kvL (by kernel_rfl)
theorem c6_r36 (cb cc:PV):ValC Tryz.prog GG 6 [o (sv ⟨#[97,110,100]⟩),o (sv ⟨#[]⟩),o (.p cb),o (.p cc)] (fun r=>r= .tup [.one (.p (.sl (2) [(.vl (vi (4))),(.vl (vi (4)))])),.one (i (4)),.one (i (0))]):=kvL (by kernel_rfl)
theorem c6_r37 (cb cc:PV):ValC Tryz.prog GG 6 [o (sv ⟨#[105,102]⟩),o (sv ⟨#[110,117,109,98,101,114]⟩),o (.p cb),o (.p cc)] (fun r=>r= .tup [.one (.p (.sl (3) [(.vl (vi (4))),(.vl (vi (2))),(.vl (vi (2)))])),.one (i (2)),.one (i (0))]):=kvL (by kernel_rfl)
theorem c6_r38 (cb cc:PV):ValC Tryz.prog GG 6 [o (sv ⟨#[105,102]⟩),o (sv ⟨#[116,101,120,116]⟩),o (.p cb),o (.p cc)] (fun r=>r= .tup [.one (.p (.sl (3) [(.vl (vi (4))),(.vl (vi (1))),(.vl (vi (1)))])),.one (i (1)),.one (i (0))]):=kvL (by kernel_rfl)
theorem c6_r42 (cb cc:PV):ValC Tryz.prog GG 6 [o (sv ⟨#[119,104,101,114,101]⟩),o (sv ⟨#[97]⟩),o (.p cb),o (.p cc)] (fun r=>r= .tup [.one (.p (.sl (2) [(.vl (vi (5))),(.vl (vi (1)))])),.one (i (5)),.one (i (0))]):=kvL (by kernel_rfl)
theorem c6_r43 (cb cc:PV):ValC Tryz.prog GG 6 [o (sv ⟨#[119,104,101,114,101]⟩),o (sv ⟨#[99,105,116,121]⟩),o (.p cb),o (.p cc)] (fun r=>r= .tup [.one (.p (.sl (2) [(.vl (vi (5))),(.vl (vi (1)))])),.one (i (5)),.one (i (0))]):=kvL (by kernel_rfl)
theorem c6_r44 (cb cc:PV):ValC Tryz.prog GG 6 [o (sv ⟨#[106,111,105,110]⟩),o (sv ⟨#[97]⟩),o (.p cb),o (.p cc)] (fun r=>r= .tup [.one (.p (.sl (2) [(.vl (vi (5))),(.vl (vi (5)))])),.one (i (5)),.one (i (0))]):=kvL (by kernel_rfl)
theorem c6_r45 (cb cc:PV):ValC Tryz.prog GG 6 [o (sv ⟨#[112,105,99,107]⟩),o (sv ⟨#[97]⟩),o (.p cb),o (.p cc)] (fun r=>r= .tup [.one (.p (.sl (1) [(.vl (vi (5)))])),.one (i (5)),.one (i (0))]):=kvL (by kernel_rfl)
theorem c6_r46 (cb cc:PV):ValC Tryz.prog GG 6 [o (sv ⟨#[112,105,99,107]⟩),o (sv ⟨#[98,44,97]⟩),o (.p cb),o (.p cc)] (fun r=>r= .tup [.one (.p (.sl (1) [(.vl (vi (5)))])),.one (i (5)),.one (i (0))]):=kvL (by kernel_rfl)
theorem c6_r49 (cb cc:PV):ValC Tryz.prog GG 6 [o (sv ⟨#[99,111,117,110,116]⟩),o (sv ⟨#[]⟩),o (.p cb),o (.p cc)] (fun r=>r= .tup [.one (.p (.sl (1) [(.vl (vi (5)))])),.one (i (2)),.one (i (0))]):=kvL (by kernel_rfl)
theorem c6_r50 (cb cc:PV):ValC Tryz.prog GG 6 [o (sv ⟨#[102,105,114,115,116]⟩),o (sv ⟨#[97,58,116,101,120,116]⟩),o (.p cb),o (.p cc)] (fun r=>r= .tup [.one (.p (.sl (1) [(.vl (vi (5)))])),.one (i (1)),.one (i (0))]):=kvL (by kernel_rfl)
theorem c6_r51 (cb cc:PV):ValC Tryz.prog GG 6 [o (sv ⟨#[102,105,114,115,116]⟩),o (sv ⟨#[98,58,110,117,109,98,101,114]⟩),o (.p cb),o (.p cc)] (fun r=>r= .tup [.one (.p (.sl (1) [(.vl (vi (5)))])),.one (i (2)),.one (i (0))]):=kvL (by kernel_rfl)
theorem c6_r52 (cb cc:PV):ValC Tryz.prog GG 6 [o (sv ⟨#[116,119,105,99,101]⟩),o (sv ⟨#[]⟩),o (.p cb),o (.p cc)] (fun r=>r= .tup [.one (nl),.one (i (0)),.one (i (13))]):=kvL (by kernel_rfl)
theorem c6_r53 (cb cc:PV):ValC Tryz.prog GG 6 [o (sv ⟨#[114,111,117,110,100]⟩),o (sv ⟨#[55]⟩),o (.p cb),o (.p cc)] (fun r=>r= .tup [.one (nl),.one (i (0)),.one (i (11))]):=kvL (by kernel_rfl)
theorem c6_r12 (cb cc:PV):ValC Tryz.prog GG 6 [o (sv ⟨#[101,120,116,114,97,99,116]⟩),o (sv ⟨#[92,100,43,35,49]⟩),o (.p cb),o (.p cc)] (fun r=>r= .tup [.one (.p (.sl (1) [(.vl (vi (1)))])),.one (i (1)),.one (i (0))]):=kvE (by kernel_rfl)
theorem c6_r13 (cb cc:PV):ValC Tryz.prog GG 6 [o (sv ⟨#[101,120,116,114,97,99,116]⟩),o (sv ⟨#[92,97,43,35,50]⟩),o (.p cb),o (.p cc)] (fun r=>r= .tup [.one (.p (.sl (1) [(.vl (vi (1)))])),.one (i (1)),.one (i (0))]):=kvE (by kernel_rfl)
theorem c6_r14 (cb cc:PV):ValC Tryz.prog GG 6 [o (sv ⟨#[101,120,116,114,97,99,116]⟩),o (sv ⟨#[97,92,111,42,35,49]⟩),o (.p cb),o (.p cc)] (fun r=>r= .tup [.one (.p (.sl (1) [(.vl (vi (1)))])),.one (i (1)),.one (i (0))]):=kvE (by kernel_rfl)
theorem c6_r33 (cb cc:PV):ValC Tryz.prog GG 6 [o (sv ⟨#[109,97,116,99,104]⟩),o (sv ⟨#[92,100,123,52,125,45,92,100,43,45,92,100,43]⟩),o (.p cb),o (.p cc)] (fun r=>r= .tup [.one (.p (.sl (1) [(.vl (vi (1)))])),.one (i (4)),.one (i (0))]):=kvE (by kernel_rfl)
theorem c6_r34 (cb cc:PV):ValC Tryz.prog GG 6 [o (sv ⟨#[109,97,116,99,104]⟩),o (sv ⟨#[92,108,42]⟩),o (.p cb),o (.p cc)] (fun r=>r= .tup [.one (.p (.sl (1) [(.vl (vi (1)))])),.one (i (4)),.one (i (0))]):=kvE (by kernel_rfl)
theorem c6_r47 (cb cc:PV):ValC Tryz.prog GG 6 [o (sv ⟨#[115,117,109]⟩),o (sv ⟨#[97,62,61,45,49,48,48,48]⟩),o (.p cb),o (.p cc)] (fun r=>r= .tup [.one (.p (.sl 1 [(.vl (vi 5))])),.one (i 2),.one (i 0)]):=kvF (by kernel_rfl)
theorem c6_r48 (cb cc:PV):ValC Tryz.prog GG 6 [o (sv ⟨#[115,117,109]⟩),o (sv ⟨#[98,62,61,53]⟩),o (.p cb),o (.p cc)] (fun r=>r= .tup [.one (.p (.sl 1 [(.vl (vi 5))])),.one (i 2),.one (i 0)]):=kvF (by kernel_rfl)
theorem c6_r0 (cb:PV):ValC Tryz.prog GG 6 [o (sv ⟨#[99,111,108]⟩),o (sv ⟨#[110,97,109,101]⟩),o (.p cb),o (.p (.sl 4 [.vl (vs [110,97,109,101]),.vl (vi 1),.vl (vs [97,109,111,117,110,116]),.vl (vi 2),.vl (vs [100,97,121]),.vl (vi 3),.vl (vs [111,116,104,101,114]),.vl (vi 5)]))] (fun r=>r= .tup [.one (nl),.one (i 1),.one (i 0)]):=kvF (by kernel_rfl)
theorem c6_r1 (cb:PV):ValC Tryz.prog GG 6 [o (sv ⟨#[99,111,108]⟩),o (sv ⟨#[97,109,111,117,110,116]⟩),o (.p cb),o (.p (.sl 4 [.vl (vs [110,97,109,101]),.vl (vi 1),.vl (vs [97,109,111,117,110,116]),.vl (vi 2),.vl (vs [100,97,121]),.vl (vi 3),.vl (vs [111,116,104,101,114]),.vl (vi 5)]))] (fun r=>r= .tup [.one (nl),.one (i 2),.one (i 0)]):=kvF (by kernel_rfl)
theorem c6_r2 (cb:PV):ValC Tryz.prog GG 6 [o (sv ⟨#[99,111,108]⟩),o (sv ⟨#[100,97,121]⟩),o (.p cb),o (.p (.sl 4 [.vl (vs [110,97,109,101]),.vl (vi 1),.vl (vs [97,109,111,117,110,116]),.vl (vi 2),.vl (vs [100,97,121]),.vl (vi 3),.vl (vs [111,116,104,101,114]),.vl (vi 5)]))] (fun r=>r= .tup [.one (nl),.one (i 3),.one (i 0)]):=kvF (by kernel_rfl)
theorem c6_r3 (cb:PV):ValC Tryz.prog GG 6 [o (sv ⟨#[99,111,108]⟩),o (sv ⟨#[111,116,104,101,114]⟩),o (.p cb),o (.p (.sl 4 [.vl (vs [110,97,109,101]),.vl (vi 1),.vl (vs [97,109,111,117,110,116]),.vl (vi 2),.vl (vs [100,97,121]),.vl (vi 3),.vl (vs [111,116,104,101,114]),.vl (vi 5)]))] (fun r=>r= .tup [.one (nl),.one (i 5),.one (i 0)]):=kvF (by kernel_rfl)
theorem c6_r54 (cb:PV):ValC Tryz.prog GG 6 [o (sv ⟨#[99,111,108]⟩),o (sv ⟨#[110,111,110,101]⟩),o (.p cb),o (.p (.sl 4 [.vl (vs [110,97,109,101]),.vl (vi 1),.vl (vs [97,109,111,117,110,116]),.vl (vi 2),.vl (vs [100,97,121]),.vl (vi 3),.vl (vs [111,116,104,101,114]),.vl (vi 5)]))] (fun r=>r= .tup [.one (nl),.one (i 0),.one (i 13)]):=kvF (by kernel_rfl)
def T6 (op pa:ByteArray) (cb cc kx:PV) (kd e:Int):Prop:=ValC Tryz.prog GG 6 [o (sv op),o (sv pa),o (.p cb),o (.p cc)] (fun r=>r= .tup [.one (.p kx),.one (i kd),.one (i e)])
def T6E (CL:List CRow) (v:Int) (yb zb xq:PV):Prop:=∃(kx:PV) (kd e:Int) (KL:List Int),IsS encI KL kx∧KdOk5 KL∧(KL.length:Int)≤3∧T6 ((CL.getD v.toNat default).R.getD 0 default) ((CL.getD v.toNat default).R.getD 1 default) (.sl 1 [.vl (vs [116]),yb,zb]) xq kx kd e
theorem kd5 {l:List Int} (h:(l.all fun b=>decide (1≤b) && decide (b≤5))=true):KdOk5 l:=by
 intro b hb
 simp_all
theorem colP {QL:List ACol} {x:PV} (h:ColsEq QL) (hx:IsS encCol QL x):x= .sl colsL.length (colsL.flatMap encCol):=by
 subst h;cases hx with
 | sl=>rfl
 | nil h=>simp [colsL] at h
theorem citP {w:Nat} {y:PV} (h1:1≤w) (h4:w≤4) (hy:IsS encS (citL.take w) y):y= .sl (citL.take w).length ((citL.take w).flatMap encS):=by
 cases hy with
 | sl=>rfl
 | nil h=>exfalso;have:=cit_len h4;grind
theorem t6_0 (yb zb xq:PV) (hT:MadeT yb zb) (hq:xq= .sl colsL.length (colsL.flatMap encCol)):T6E callsL 0 yb zb xq:=by
 subst hq;exact ⟨.vl vn,1,0,[],.nil rfl,kd5 (by decide),by decide,c6_r0 _⟩
theorem t6_1 (yb zb xq:PV) (hT:MadeT yb zb) (hq:xq= .sl colsL.length (colsL.flatMap encCol)):T6E callsL 1 yb zb xq:=by
 subst hq;exact ⟨.vl vn,2,0,[],.nil rfl,kd5 (by decide),by decide,c6_r1 _⟩
theorem t6_2 (yb zb xq:PV) (hT:MadeT yb zb) (hq:xq= .sl colsL.length (colsL.flatMap encCol)):T6E callsL 2 yb zb xq:=by
 subst hq;exact ⟨.vl vn,3,0,[],.nil rfl,kd5 (by decide),by decide,c6_r2 _⟩
theorem t6_3 (yb zb xq:PV) (hT:MadeT yb zb) (hq:xq= .sl colsL.length (colsL.flatMap encCol)):T6E callsL 3 yb zb xq:=by
 subst hq;exact ⟨.vl vn,5,0,[],.nil rfl,kd5 (by decide),by decide,c6_r3 _⟩
theorem t6_4 (yb zb xq:PV) (hT:MadeT yb zb) (hq:xq= .sl colsL.length (colsL.flatMap encCol)):T6E callsL 4 yb zb xq:=by
 exact ⟨.vl vn,1,0,[],.nil rfl,kd5 (by decide),by decide,c6_r4 _ _⟩
theorem t6_5 (yb zb xq:PV) (hT:MadeT yb zb) (hq:xq= .sl colsL.length (colsL.flatMap encCol)):T6E callsL 5 yb zb xq:=by
 exact ⟨.vl vn,2,0,[],.nil rfl,kd5 (by decide),by decide,c6_r5 _ _⟩
theorem t6_6 (yb zb xq:PV) (hT:MadeT yb zb) (hq:xq= .sl colsL.length (colsL.flatMap encCol)):T6E callsL 6 yb zb xq:=by
 exact ⟨.vl vn,3,0,[],.nil rfl,kd5 (by decide),by decide,c6_r6 _ _⟩
theorem t6_7 (yb zb xq:PV) (hT:MadeT yb zb) (hq:xq= .sl colsL.length (colsL.flatMap encCol)):T6E callsL 7 yb zb xq:=by
 exact ⟨.vl vn,4,0,[],.nil rfl,kd5 (by decide),by decide,c6_r7 _ _⟩
theorem t6_8 (yb zb xq:PV) (hT:MadeT yb zb) (hq:xq= .sl colsL.length (colsL.flatMap encCol)):T6E callsL 8 yb zb xq:=by
 exact ⟨.sl 2 [.vl (vi 1),.vl (vi 1)],1,0,[1,1],.sl,kd5 (by decide),by decide,c6_r8 _ _⟩
theorem t6_9 (yb zb xq:PV) (hT:MadeT yb zb) (hq:xq= .sl colsL.length (colsL.flatMap encCol)):T6E callsL 9 yb zb xq:=by
 exact ⟨.sl 1 [.vl (vi 1)],1,0,[1],.sl,kd5 (by decide),by decide,c6_r9 _ _⟩
theorem t6_10 (yb zb xq:PV) (hT:MadeT yb zb) (hq:xq= .sl colsL.length (colsL.flatMap encCol)):T6E callsL 10 yb zb xq:=by
 exact ⟨.sl 1 [.vl (vi 1)],1,0,[1],.sl,kd5 (by decide),by decide,c6_r10 _ _⟩
theorem t6_11 (yb zb xq:PV) (hT:MadeT yb zb) (hq:xq= .sl colsL.length (colsL.flatMap encCol)):T6E callsL 11 yb zb xq:=by
 exact ⟨.sl 1 [.vl (vi 1)],1,0,[1],.sl,kd5 (by decide),by decide,c6_r11 _ _⟩
theorem t6_12 (yb zb xq:PV) (hT:MadeT yb zb) (hq:xq= .sl colsL.length (colsL.flatMap encCol)):T6E callsL 12 yb zb xq:=by
 exact ⟨.sl 1 [.vl (vi 1)],1,0,[1],.sl,kd5 (by decide),by decide,c6_r12 _ _⟩
theorem t6_13 (yb zb xq:PV) (hT:MadeT yb zb) (hq:xq= .sl colsL.length (colsL.flatMap encCol)):T6E callsL 13 yb zb xq:=by
 exact ⟨.sl 1 [.vl (vi 1)],1,0,[1],.sl,kd5 (by decide),by decide,c6_r13 _ _⟩
theorem t6_14 (yb zb xq:PV) (hT:MadeT yb zb) (hq:xq= .sl colsL.length (colsL.flatMap encCol)):T6E callsL 14 yb zb xq:=by
 exact ⟨.sl 1 [.vl (vi 1)],1,0,[1],.sl,kd5 (by decide),by decide,c6_r14 _ _⟩
theorem t6_15 (yb zb xq:PV) (hT:MadeT yb zb) (hq:xq= .sl colsL.length (colsL.flatMap encCol)):T6E callsL 15 yb zb xq:=by
 exact ⟨.sl 1 [.vl (vi 1)],2,0,[1],.sl,kd5 (by decide),by decide,c6_r15 _ _⟩
theorem t6_16 (yb zb xq:PV) (hT:MadeT yb zb) (hq:xq= .sl colsL.length (colsL.flatMap encCol)):T6E callsL 16 yb zb xq:=by
 exact ⟨.sl 1 [.vl (vi 1)],2,0,[1],.sl,kd5 (by decide),by decide,c6_r16 _ _⟩
theorem t6_17 (yb zb xq:PV) (hT:MadeT yb zb) (hq:xq= .sl colsL.length (colsL.flatMap encCol)):T6E callsL 17 yb zb xq:=by
 exact ⟨.sl 1 [.vl (vi 2)],1,0,[2],.sl,kd5 (by decide),by decide,c6_r17 _ _⟩
theorem t6_18 (yb zb xq:PV) (hT:MadeT yb zb) (hq:xq= .sl colsL.length (colsL.flatMap encCol)):T6E callsL 18 yb zb xq:=by
 exact ⟨.sl 2 [.vl (vi 2),.vl (vi 2)],2,0,[2,2],.sl,kd5 (by decide),by decide,c6_r18 _ _⟩
theorem t6_19 (yb zb xq:PV) (hT:MadeT yb zb) (hq:xq= .sl colsL.length (colsL.flatMap encCol)):T6E callsL 19 yb zb xq:=by
 exact ⟨.sl 2 [.vl (vi 2),.vl (vi 2)],2,0,[2,2],.sl,kd5 (by decide),by decide,c6_r19 _ _⟩
theorem t6_20 (yb zb xq:PV) (hT:MadeT yb zb) (hq:xq= .sl colsL.length (colsL.flatMap encCol)):T6E callsL 20 yb zb xq:=by
 exact ⟨.sl 2 [.vl (vi 2),.vl (vi 2)],2,0,[2,2],.sl,kd5 (by decide),by decide,c6_r20 _ _⟩
theorem t6_21 (yb zb xq:PV) (hT:MadeT yb zb) (hq:xq= .sl colsL.length (colsL.flatMap encCol)):T6E callsL 21 yb zb xq:=by
 exact ⟨.sl 1 [.vl (vi 2)],2,0,[2],.sl,kd5 (by decide),by decide,c6_r21 _ _⟩
theorem t6_22 (yb zb xq:PV) (hT:MadeT yb zb) (hq:xq= .sl colsL.length (colsL.flatMap encCol)):T6E callsL 22 yb zb xq:=by
 exact ⟨.sl 1 [.vl (vi 2)],2,0,[2],.sl,kd5 (by decide),by decide,c6_r22 _ _⟩
theorem t6_23 (yb zb xq:PV) (hT:MadeT yb zb) (hq:xq= .sl colsL.length (colsL.flatMap encCol)):T6E callsL 23 yb zb xq:=by
 exact ⟨.sl 1 [.vl (vi 1)],3,0,[1],.sl,kd5 (by decide),by decide,c6_r23 _ _⟩
theorem t6_24 (yb zb xq:PV) (hT:MadeT yb zb) (hq:xq= .sl colsL.length (colsL.flatMap encCol)):T6E callsL 24 yb zb xq:=by
 exact ⟨.sl 1 [.vl (vi 3)],1,0,[3],.sl,kd5 (by decide),by decide,c6_r24 _ _⟩
theorem t6_25 (yb zb xq:PV) (hT:MadeT yb zb) (hq:xq= .sl colsL.length (colsL.flatMap encCol)):T6E callsL 25 yb zb xq:=by
 exact ⟨.sl 1 [.vl (vi 3)],1,0,[3],.sl,kd5 (by decide),by decide,c6_r25 _ _⟩
theorem t6_26 (yb zb xq:PV) (hT:MadeT yb zb) (hq:xq= .sl colsL.length (colsL.flatMap encCol)):T6E callsL 26 yb zb xq:=by
 exact ⟨.sl 2 [.vl (vi 3),.vl (vi 2)],3,0,[3,2],.sl,kd5 (by decide),by decide,c6_r26 _ _⟩
theorem t6_27 (yb zb xq:PV) (hT:MadeT yb zb) (hq:xq= .sl colsL.length (colsL.flatMap encCol)):T6E callsL 27 yb zb xq:=by
 exact ⟨.sl 2 [.vl (vi 3),.vl (vi 3)],2,0,[3,3],.sl,kd5 (by decide),by decide,c6_r27 _ _⟩
theorem t6_28 (yb zb xq:PV) (hT:MadeT yb zb) (hq:xq= .sl colsL.length (colsL.flatMap encCol)):T6E callsL 28 yb zb xq:=by
 exact ⟨.sl 2 [.vl (vi 1),.vl (vi 1)],4,0,[1,1],.sl,kd5 (by decide),by decide,c6_r28 _ _⟩
theorem t6_29 (yb zb xq:PV) (hT:MadeT yb zb) (hq:xq= .sl colsL.length (colsL.flatMap encCol)):T6E callsL 29 yb zb xq:=by
 exact ⟨.sl 2 [.vl (vi 2),.vl (vi 2)],4,0,[2,2],.sl,kd5 (by decide),by decide,c6_r29 _ _⟩
theorem t6_30 (yb zb xq:PV) (hT:MadeT yb zb) (hq:xq= .sl colsL.length (colsL.flatMap encCol)):T6E callsL 30 yb zb xq:=by
 exact ⟨.sl 2 [.vl (vi 3),.vl (vi 3)],4,0,[3,3],.sl,kd5 (by decide),by decide,c6_r30 _ _⟩
theorem t6_31 (yb zb xq:PV) (hT:MadeT yb zb) (hq:xq= .sl colsL.length (colsL.flatMap encCol)):T6E callsL 31 yb zb xq:=by
 exact ⟨.sl 2 [.vl (vi 3),.vl (vi 3)],4,0,[3,3],.sl,kd5 (by decide),by decide,c6_r31 _ _⟩
theorem t6_32 (yb zb xq:PV) (hT:MadeT yb zb) (hq:xq= .sl colsL.length (colsL.flatMap encCol)):T6E callsL 32 yb zb xq:=by
 exact ⟨.sl 2 [.vl (vi 2),.vl (vi 2)],4,0,[2,2],.sl,kd5 (by decide),by decide,c6_r32 _ _⟩
theorem t6_33 (yb zb xq:PV) (hT:MadeT yb zb) (hq:xq= .sl colsL.length (colsL.flatMap encCol)):T6E callsL 33 yb zb xq:=by
 exact ⟨.sl 1 [.vl (vi 1)],4,0,[1],.sl,kd5 (by decide),by decide,c6_r33 _ _⟩
theorem t6_34 (yb zb xq:PV) (hT:MadeT yb zb) (hq:xq= .sl colsL.length (colsL.flatMap encCol)):T6E callsL 34 yb zb xq:=by
 exact ⟨.sl 1 [.vl (vi 1)],4,0,[1],.sl,kd5 (by decide),by decide,c6_r34 _ _⟩
theorem t6_35 (yb zb xq:PV) (hT:MadeT yb zb) (hq:xq= .sl colsL.length (colsL.flatMap encCol)):T6E callsL 35 yb zb xq:=by
 exact ⟨.sl 1 [.vl (vi 4)],4,0,[4],.sl,kd5 (by decide),by decide,c6_r35 _ _⟩
theorem t6_36 (yb zb xq:PV) (hT:MadeT yb zb) (hq:xq= .sl colsL.length (colsL.flatMap encCol)):T6E callsL 36 yb zb xq:=by
 exact ⟨.sl 2 [.vl (vi 4),.vl (vi 4)],4,0,[4,4],.sl,kd5 (by decide),by decide,c6_r36 _ _⟩
theorem t6_37 (yb zb xq:PV) (hT:MadeT yb zb) (hq:xq= .sl colsL.length (colsL.flatMap encCol)):T6E callsL 37 yb zb xq:=by
 exact ⟨.sl 3 [.vl (vi 4),.vl (vi 2),.vl (vi 2)],2,0,[4,2,2],.sl,kd5 (by decide),by decide,c6_r37 _ _⟩
theorem t6_38 (yb zb xq:PV) (hT:MadeT yb zb) (hq:xq= .sl colsL.length (colsL.flatMap encCol)):T6E callsL 38 yb zb xq:=by
 exact ⟨.sl 3 [.vl (vi 4),.vl (vi 1),.vl (vi 1)],1,0,[4,1,1],.sl,kd5 (by decide),by decide,c6_r38 _ _⟩
theorem t6_39 (yb zb xq:PV) (hT:MadeT yb zb) (hq:xq= .sl colsL.length (colsL.flatMap encCol)):T6E callsL 39 yb zb xq:=by
 obtain ⟨w,R,Kd,hy,h1,h4,hz,hR,hk,h3,h0,hr⟩:=hT;obtain rfl:=citP h1 h4 hy;have h:=c6_r39 xq w R zb Kd h1 h4 hz hR hr
 by_cases hw:w<2
 ·rw [if_pos hw] at h;exact ⟨.vl vn,0,13,[],.nil rfl,kd5 (by decide),by decide,h⟩
 ·rw [if_neg hw] at h;cases hb:badZ R
  ·rw [hb] at h;exact ⟨.sl 1 [.vl (vi 1)],2,0,[1],.sl,kd5 (by decide),by decide,h⟩
  ·rw [hb] at h;exact ⟨.vl vn,0,14,[],.nil rfl,kd5 (by decide),by decide,h⟩
theorem t6_40 (yb zb xq:PV) (hT:MadeT yb zb) (hq:xq= .sl colsL.length (colsL.flatMap encCol)):T6E callsL 40 yb zb xq:=by
 obtain ⟨w,R,Kd,hy,h1,h4,hz,hR,hk,h3,h0,hr⟩:=hT;obtain rfl:=citP h1 h4 hy;exact ⟨.sl 1 [.vl (vi 1)],1,0,[1],.sl,kd5 (by decide),by decide,c6_r40 xq w R zb Kd h1 h4 hz hR h0 hr⟩
theorem t6_41 (yb zb xq:PV) (hT:MadeT yb zb) (hq:xq= .sl colsL.length (colsL.flatMap encCol)):T6E callsL 41 yb zb xq:=by
 obtain ⟨w,R,Kd,hy,h1,h4,hz,hR,hk,h3,h0,hr⟩:=hT;obtain rfl:=citP h1 h4 hy;exact ⟨.vl vn,5,0,[],.nil rfl,kd5 (by decide),by decide,c6_r41 xq w R zb Kd h1 h4 hz hR hr⟩
theorem t6_42 (yb zb xq:PV) (hT:MadeT yb zb) (hq:xq= .sl colsL.length (colsL.flatMap encCol)):T6E callsL 42 yb zb xq:=by
 exact ⟨.sl 2 [.vl (vi 5),.vl (vi 1)],5,0,[5,1],.sl,kd5 (by decide),by decide,c6_r42 _ _⟩
theorem t6_43 (yb zb xq:PV) (hT:MadeT yb zb) (hq:xq= .sl colsL.length (colsL.flatMap encCol)):T6E callsL 43 yb zb xq:=by
 exact ⟨.sl 2 [.vl (vi 5),.vl (vi 1)],5,0,[5,1],.sl,kd5 (by decide),by decide,c6_r43 _ _⟩
theorem t6_44 (yb zb xq:PV) (hT:MadeT yb zb) (hq:xq= .sl colsL.length (colsL.flatMap encCol)):T6E callsL 44 yb zb xq:=by
 exact ⟨.sl 2 [.vl (vi 5),.vl (vi 5)],5,0,[5,5],.sl,kd5 (by decide),by decide,c6_r44 _ _⟩
theorem t6_45 (yb zb xq:PV) (hT:MadeT yb zb) (hq:xq= .sl colsL.length (colsL.flatMap encCol)):T6E callsL 45 yb zb xq:=by
 exact ⟨.sl 1 [.vl (vi 5)],5,0,[5],.sl,kd5 (by decide),by decide,c6_r45 _ _⟩
theorem t6_46 (yb zb xq:PV) (hT:MadeT yb zb) (hq:xq= .sl colsL.length (colsL.flatMap encCol)):T6E callsL 46 yb zb xq:=by
 exact ⟨.sl 1 [.vl (vi 5)],5,0,[5],.sl,kd5 (by decide),by decide,c6_r46 _ _⟩
theorem t6_47 (yb zb xq:PV) (hT:MadeT yb zb) (hq:xq= .sl colsL.length (colsL.flatMap encCol)):T6E callsL 47 yb zb xq:=by
 exact ⟨.sl 1 [.vl (vi 5)],2,0,[5],.sl,kd5 (by decide),by decide,c6_r47 _ _⟩
theorem t6_48 (yb zb xq:PV) (hT:MadeT yb zb) (hq:xq= .sl colsL.length (colsL.flatMap encCol)):T6E callsL 48 yb zb xq:=by
 exact ⟨.sl 1 [.vl (vi 5)],2,0,[5],.sl,kd5 (by decide),by decide,c6_r48 _ _⟩
theorem t6_49 (yb zb xq:PV) (hT:MadeT yb zb) (hq:xq= .sl colsL.length (colsL.flatMap encCol)):T6E callsL 49 yb zb xq:=by
 exact ⟨.sl 1 [.vl (vi 5)],2,0,[5],.sl,kd5 (by decide),by decide,c6_r49 _ _⟩
theorem t6_50 (yb zb xq:PV) (hT:MadeT yb zb) (hq:xq= .sl colsL.length (colsL.flatMap encCol)):T6E callsL 50 yb zb xq:=by
 exact ⟨.sl 1 [.vl (vi 5)],1,0,[5],.sl,kd5 (by decide),by decide,c6_r50 _ _⟩
theorem t6_51 (yb zb xq:PV) (hT:MadeT yb zb) (hq:xq= .sl colsL.length (colsL.flatMap encCol)):T6E callsL 51 yb zb xq:=by
 exact ⟨.sl 1 [.vl (vi 5)],2,0,[5],.sl,kd5 (by decide),by decide,c6_r51 _ _⟩
theorem t6_52 (yb zb xq:PV) (hT:MadeT yb zb) (hq:xq= .sl colsL.length (colsL.flatMap encCol)):T6E callsL 52 yb zb xq:=by
 exact ⟨.vl vn,0,13,[],.nil rfl,kd5 (by decide),by decide,c6_r52 _ _⟩
theorem t6_53 (yb zb xq:PV) (hT:MadeT yb zb) (hq:xq= .sl colsL.length (colsL.flatMap encCol)):T6E callsL 53 yb zb xq:=by
 exact ⟨.vl vn,0,11,[],.nil rfl,kd5 (by decide),by decide,c6_r53 _ _⟩
theorem t6_54 (yb zb xq:PV) (hT:MadeT yb zb) (hq:xq= .sl colsL.length (colsL.flatMap encCol)):T6E callsL 54 yb zb xq:=by
 subst hq;exact ⟨.vl vn,0,13,[],.nil rfl,kd5 (by decide),by decide,c6_r54 _⟩
theorem t6 {CL:List CRow} {v:Int} {yb zb xq:PV} {QL:List ACol} (hc:CallsEq CL) (h0:0≤v) (h1:v<55) (hT:MadeT yb zb) (hQ:ColsEq QL) (hx:IsS encCol QL xq):T6E CL v yb zb xq:=by
 subst hc;have hq:=colP hQ hx;have hv:v=0∨v=1∨v=2∨v=3∨v=4∨v=5∨v=6∨v=7∨v=8∨v=9∨v=10∨v=11∨v=12∨v=13∨v=14∨v=15∨v=16∨v=17∨v=18∨v=19∨v=20∨v=21∨v=22∨v=23∨v=24∨v=25∨v=26∨v=27∨v=28∨v=29∨v=30∨v=31∨v=32∨v=33∨v=34∨v=35∨v=36∨v=37∨v=38∨v=39∨v=40∨v=41∨v=42∨v=43∨v=44∨v=45∨v=46∨v=47∨v=48∨v=49∨v=50∨v=51∨v=52∨v=53∨v=54:=by omega
 rcases hv with rfl | rfl | rfl | rfl | rfl | rfl | rfl | rfl | rfl | rfl | rfl | rfl | rfl | rfl | rfl | rfl | rfl | rfl | rfl | rfl | rfl | rfl | rfl | rfl | rfl | rfl | rfl | rfl | rfl | rfl | rfl | rfl | rfl | rfl | rfl | rfl | rfl | rfl | rfl | rfl | rfl | rfl | rfl | rfl | rfl | rfl | rfl | rfl | rfl | rfl | rfl | rfl | rfl | rfl | rfl
 ·exact t6_0 yb zb xq hT hq
 ·exact t6_1 yb zb xq hT hq
 ·exact t6_2 yb zb xq hT hq
 ·exact t6_3 yb zb xq hT hq
 ·exact t6_4 yb zb xq hT hq
 ·exact t6_5 yb zb xq hT hq
 ·exact t6_6 yb zb xq hT hq
 ·exact t6_7 yb zb xq hT hq
 ·exact t6_8 yb zb xq hT hq
 ·exact t6_9 yb zb xq hT hq
 ·exact t6_10 yb zb xq hT hq
 ·exact t6_11 yb zb xq hT hq
 ·exact t6_12 yb zb xq hT hq
 ·exact t6_13 yb zb xq hT hq
 ·exact t6_14 yb zb xq hT hq
 ·exact t6_15 yb zb xq hT hq
 ·exact t6_16 yb zb xq hT hq
 ·exact t6_17 yb zb xq hT hq
 ·exact t6_18 yb zb xq hT hq
 ·exact t6_19 yb zb xq hT hq
 ·exact t6_20 yb zb xq hT hq
 ·exact t6_21 yb zb xq hT hq
 ·exact t6_22 yb zb xq hT hq
 ·exact t6_23 yb zb xq hT hq
 ·exact t6_24 yb zb xq hT hq
 ·exact t6_25 yb zb xq hT hq
 ·exact t6_26 yb zb xq hT hq
 ·exact t6_27 yb zb xq hT hq
 ·exact t6_28 yb zb xq hT hq
 ·exact t6_29 yb zb xq hT hq
 ·exact t6_30 yb zb xq hT hq
 ·exact t6_31 yb zb xq hT hq
 ·exact t6_32 yb zb xq hT hq
 ·exact t6_33 yb zb xq hT hq
 ·exact t6_34 yb zb xq hT hq
 ·exact t6_35 yb zb xq hT hq
 ·exact t6_36 yb zb xq hT hq
 ·exact t6_37 yb zb xq hT hq
 ·exact t6_38 yb zb xq hT hq
 ·exact t6_39 yb zb xq hT hq
 ·exact t6_40 yb zb xq hT hq
 ·exact t6_41 yb zb xq hT hq
 ·exact t6_42 yb zb xq hT hq
 ·exact t6_43 yb zb xq hT hq
 ·exact t6_44 yb zb xq hT hq
 ·exact t6_45 yb zb xq hT hq
 ·exact t6_46 yb zb xq hT hq
 ·exact t6_47 yb zb xq hT hq
 ·exact t6_48 yb zb xq hT hq
 ·exact t6_49 yb zb xq hT hq
 ·exact t6_50 yb zb xq hT hq
 ·exact t6_51 yb zb xq hT hq
 ·exact t6_52 yb zb xq hT hq
 ·exact t6_53 yb zb xq hT hq
 ·exact t6_54 yb zb xq hT hq
theorem c6_0 (CL:List CRow) (v:Int) (yb zb xq:PV) (QL:List ACol) (hc:CallsEq CL) (h0:0≤v) (h1:v<55) (hT:MadeT yb zb) (hQ:ColsEq QL) (hx:IsS encCol QL xq):
  ValC Tryz.prog GG 6 [o (sv ((CL.getD v.toNat default).R.getD 0 default)),o (sv ((CL.getD v.toNat default).R.getD 1 default)),o (.p (.sl 1 [.vl (vs [116]),yb,zb])),o (.p xq)] (fun r=>∃(kx:PV) (kd e:Int) (KL:List Int),r= .tup [.one (.p kx),.one (i kd),.one (i e)]∧IsS encI KL kx∧KdOk5 KL∧(KL.length:Int)≤3∧T6 ((CL.getD v.toNat default).R.getD 0 default) ((CL.getD v.toNat default).R.getD 1 default) (.sl 1 [.vl (vs [116]),yb,zb]) xq kx kd e):=by
 obtain ⟨kx,kd,e,KL,q1,q2,q3,q4⟩:=t6 hc h0 h1 hT hQ hx;exact ValC.mono q4 (fun r h=>⟨kx,kd,e,KL,h,q1,q2,q3,q4⟩)
theorem full_sh:ShP true 0 200 110 ⟨#[]⟩ ⟨#[]⟩:=⟨⟨#[]⟩,⟨⟨by decide,fun j h0 h1=>by have h2:((⟨#[]⟩:ByteArray).size:Int)=0:=rfl;omega⟩,by decide,by decide,by decide,by decide,by decide,fun j h0 h1=>by have h2:((⟨#[]⟩:ByteArray).size:Int)=0:=rfl;omega,by decide,by decide,fun j h0 h1=>by have h2:((⟨#[]⟩:ByteArray).size:Int)=0:=rfl;omega,fun j h0 h1=>by have h2:((⟨#[]⟩:ByteArray).size:Int)=0:=rfl;omega⟩⟩
theorem full_nm:NumP true (-1000000000000000) 0 1000000000000000 0:= .inl ⟨rfl,by decide,by decide,by decide⟩
theorem c18_r0:ValC Tryz.prog GG 18 [o (i 0)] (fun r=>r=a [i 0,i 1,i 0,i 0,.p (.vl (vs [])),.p (.vl (vs [])),i 1,i 0,i 0,i 0,i 1,i 0,i 0,i 1,i 0,nl,nl,b true]):=kvF (by kernel_rfl)
theorem c18_r1:ValC Tryz.prog GG 18 [o (i 1)] (fun r=>r=a [i 2,i 0,i 200,i 110,.p (.vl (vs [])),.p (.vl (vs [])),i 1,i 0,i 0,i 0,i 1,i 0,i 0,i 1,i 0,nl,nl,b false]):=kvF (by kernel_rfl)
theorem c18_r2:ValC Tryz.prog GG 18 [o (i 2)] (fun r=>r=a [i 4,i 1,i 0,i 0,.p (.vl (vs [])),.p (.vl (vs [])),i (-1000000000000000),i 0,i 1000000000000000,i 0,i 1,i 0,i 0,i 1,i 0,nl,nl,b false]):=kvF (by kernel_rfl)
theorem c18_r3:ValC Tryz.prog GG 18 [o (i 3)] (fun r=>r=a [i 8,i 1,i 0,i 0,.p (.vl (vs [])),.p (.vl (vs [])),i 1,i 0,i 0,i 0,i 0,i 3652058,i 0,i 1,i 0,nl,nl,b false]):=kvF (by kernel_rfl)
theorem c18_r4:ValC Tryz.prog GG 18 [o (i 4)] (fun r=>r=a [i 16,i 1,i 0,i 0,.p (.vl (vs [])),.p (.vl (vs [])),i 1,i 0,i 0,i 0,i 1,i 0,i 3,i 1,i 0,nl,nl,b false]):=kvF (by kernel_rfl)
theorem c18_r5:ValC Tryz.prog GG 18 [o (i 5)] (fun r=>r=a [i 32,i 1,i 0,i 0,.p (.vl (vs [])),.p (.vl (vs [])),i 1,i 0,i 0,i 0,i 1,i 0,i 0,i 0,i 100,nl,nl,b false]):=kvF (by kernel_rfl)
theorem c18 (k:Int) (h0:0≤k) (h5:k≤5):ValC Tryz.prog GG 18 [o (i k)] (fun r=>∃(p1' p2' p3' p4' p5' e':Bool) (K' le' mx' cl':Int) (be' en':ByteArray) (n' s' m' t' dl' dh' bo' rl' rh':Int) (x' z':PV) (w':Nat) (D':List Dp),r=a [i K',i le',i mx',i cl',sv be',sv en',i n',i s',i m',i t',i dl',i dh',i bo',i rl',i rh',.p x',.p z',b e']∧K'=kndI p1' p2' p3' p4' p5'∧ShP p1' le' mx' cl' be' en'∧NumP p2' n' s' m' t'∧SpP p3' 3652058 dl' dh'∧BoP p4' bo'∧SpP p5' 100 rl' rh'∧IsS encS (abcL.take w') x'∧w'≤3∧IsS encD D' z'∧D'.length≤100):=by
 have hk:k=0∨k=1∨k=2∨k=3∨k=4∨k=5:=by omega
 rcases hk with rfl | rfl | rfl | rfl | rfl | rfl
 ·exact c18_r0.mono (by rintro r rfl;exact ⟨false,false,false,false,false,true,_,_,_,_,_,_,_,_,_,_,_,_,_,_,_,_,_,0,[],rfl,rfl,shP_f rfl,nmP_f rfl,spP_f rfl,boP_f rfl,spP_f rfl,.nil rfl,by omega,.nil rfl,by simp⟩)
 ·exact c18_r1.mono (by rintro r rfl;exact ⟨true,false,false,false,false,false,_,_,_,_,_,_,_,_,_,_,_,_,_,_,_,_,_,0,[],rfl,rfl,full_sh,nmP_f rfl,spP_f rfl,boP_f rfl,spP_f rfl,.nil rfl,by omega,.nil rfl,by simp⟩)
 ·exact c18_r2.mono (by rintro r rfl;exact ⟨false,true,false,false,false,false,_,_,_,_,_,_,_,_,_,_,_,_,_,_,_,_,_,0,[],rfl,rfl,shP_f rfl,full_nm,spP_f rfl,boP_f rfl,spP_f rfl,.nil rfl,by omega,.nil rfl,by simp⟩)
 ·exact c18_r3.mono (by rintro r rfl;exact ⟨false,false,true,false,false,false,_,_,_,_,_,_,_,_,_,_,_,_,_,_,_,_,_,0,[],rfl,rfl,shP_f rfl,nmP_f rfl,⟨by decide,by decide,by decide⟩,boP_f rfl,spP_f rfl,.nil rfl,by omega,.nil rfl,by simp⟩)
 ·exact c18_r4.mono (by rintro r rfl;exact ⟨false,false,false,true,false,false,_,_,_,_,_,_,_,_,_,_,_,_,_,_,_,_,_,0,[],rfl,rfl,shP_f rfl,nmP_f rfl,spP_f rfl,⟨by decide,by decide⟩,spP_f rfl,.nil rfl,by omega,.nil rfl,by simp⟩)
 exact c18_r5.mono (by rintro r rfl;exact ⟨false,false,false,false,true,false,_,_,_,_,_,_,_,_,_,_,_,_,_,_,_,_,_,0,[],rfl,rfl,shP_f rfl,nmP_f rfl,spP_f rfl,boP_f rfl,⟨by decide,by decide,by decide⟩,.nil rfl,by omega,.nil rfl,by simp⟩)
theorem c126 {w:Nat} (C:List ByteArray) (R:List (Row w)) (x y:PV) (hx:IsS encS C x) (hy:IsS encRow R y) (hw:C.length=w) (h8:w≤8) (hR:R.length≤100):ValC Tryz.prog GG 126 [o (.p x),o (.p y)] (fun r=>r=o (b true)):=by
 refine vX (fn:=Tryz.f126)<| yP 11 [] 20 (pT Tryz.f126 [1,0,1,0,0]) (α:=(Int)) (fun k=>0≤k∧k≤R.length) (fun k=>(R.length - k).toNat) (fun k=>([(0,o (.p x)),(1,o (.p y)),(5,o (i k))],[])) 0 (by omega) ?_
 rintro k hI ih4 J
 try dsimp only at hI ih4 ⊢
 obtain ⟨_,_⟩:=hI;refine yL 5 hy<| yB 2 9 (k<(↑R.length:Int)) (fun _=> ?_) fun _=> ?_
 ·refine yI 8 k hy<| yG 0 encRow R k ?_
  have:=((R.getD k.toNat default)).hw;refine yL 0 ((R.getD k.toNat default)).h<| yL 1 hx ?_
  have hb5:¬((↑(R.getD k.toNat default).R.length:Int)≠(↑C.length:Int)):=by omega
  exact yE 2 19 ((bne_eq_false_iff_eq.2 (Decidable.not_not.1 hb5):((↑(R.getD k.toNat default).R.length:Int) !=(↑C.length:Int))=false)) ob<| yJ 9 5 (k+1)<| yK 0 [] (ih4 (k+1) (by omega) (by omega))
 refine yF 6 (o (b true)) ?_;rfl
theorem c264 {w:Nat} (C F:List ByteArray) (R:List (Row w)) (x y z:PV) (t:ByteArray) (hx:IsS encS C x) (hy:IsS encRow R y) (hz:IsS encS F z) (hw:C.length=w) (h8:w≤8) (hR:R.length≤100) (hF:F.length≤100):ValC Tryz.prog GG 264 [o (.p x),o (.p y),a [.p z,sv t]] (fun r=>∃v:Bool,r=o (b v)):=by
 refine vX (fn:=Tryz.f264)<| yV 9 (c126 _ _ _ _ hx hy (by omega) (by omega) (by omega))<| yC 7 (c127_1 _ _ t hx (by omega)) ?_
 rintro _ ⟨v0,rfl,_,_,_⟩;refine yB 12 28 (v0<0) (fun _=> ?_) fun _=> ?_
 ·refine yF 5 (o (b false)) ?_
  first | exact ⟨_,rfl⟩
 refine yP 9 [0] 107 (pT Tryz.f264 [1,1,1,1,0,1,0,0]) (α:=(Int)) (fun k=>0≤k∧k≤F.length∧(∀j:Nat,(j:Int)<k→0≤idxF C (F.getD j default))) (fun k=>(F.length - k).toNat) (fun k=>([(0,o (.p x)),(1,o (.p y)),(5,o (.ref 0 0)),(8,o (i v0)),(9,o (i k))],[.cells [.p z,.p (.vl (.string t))] false])) 0 (by exact ⟨by omega,by omega,by omega⟩) ?_;rintro k hI ih7 J
 try dsimp only at hI ih7 ⊢
 obtain ⟨_,_,_⟩:=hI;refine yL 6 hz<| yB 2 33 (k<(↑F.length:Int)) (fun _=> ?_) fun _=> ?_
 ·refine yI 10 k hz<| yG 0 encS F k<| yC 0 (c127_1 _ _ (F.getD k.toNat default) hx (by omega)) ?_
  rintro _ ⟨v9,rfl,_,_,_⟩;refine yB 2 43 (v9<0) (fun _=> ?_) fun _=> ?_
  ·refine yF 5 (o (b false)) ?_
   first | exact ⟨_,rfl⟩
  exact yJ 9 9 (k+1)<| yK 0 [0] (ih7 (k+1) (by exact ⟨by omega,by omega,idx_more (by omega) (by assumption) (by assumption) (by omega)⟩) (by (try dsimp only);omega))
 refine yP 9 [0] 107 (pT Tryz.f264 [1,1,1,1,1,0,1,0,0]) (α:=(Int)) (fun kk=>0≤kk∧kk≤R.length) (fun kk=>(R.length - kk).toNat) (fun kk=>([(0,o (.p x)),(1,o (.p y)),(5,o (.ref 0 0)),(8,o (i v0)),(10,o (i kk))],[.cells [.p z,.p (.vl (.string t))] false])) 0 (by omega) ?_;rintro kk hI ih8 J
 try dsimp only at hI ih8 ⊢
 obtain ⟨_,_⟩:=hI;refine yL 5 hy<| yB 2 47 (kk<(↑R.length:Int)) (fun _=> ?_) fun _=> ?_
 ·refine yP 10 [0] 107 (pT Tryz.f264 [1,1,1,1,1,0,1,0,0,1,0,0,1,0,0]) (α:=(Int)) (fun jj=>0≤jj∧jj≤kk) (fun jj=>(kk - jj).toNat) (fun jj=>([(0,o (.p x)),(1,o (.p y)),(5,o (.ref 0 0)),(8,o (i v0)),(10,o (i kk)),(11,o (i jj))],[.cells [.p z,.p (.vl (.string t))] false])) 0 (by omega) ?_;rintro jj hI ih14 J
  try dsimp only at hI ih14 ⊢
  obtain ⟨_,_⟩:=hI;refine yB 7 52 (jj<kk) (fun _=> ?_) fun _=> ?_
  ·refine yP 15 [0] 107 (pT Tryz.f264 [1,1,1,1,1,0,1,0,0,1,0,0,1,0,0,1,0,0,1,0,1,0,0]) (α:=(Int×Bool)) (fun (q,sm)=>0≤q∧q≤F.length) (fun (q,sm)=>(F.length - q).toNat) (fun (q,sm)=>([(0,o (.p x)),(1,o (.p y)),(5,o (.ref 0 0)),(8,o (i v0)),(10,o (i kk)),(11,o (i jj)),(12,o (b sm)),(13,o (i q))],[.cells [.p z,.p (.vl (.string t))] false])) (0,true) (by omega) ?_;rintro ⟨q,sm⟩ hI ih22 J
   try dsimp only at hI ih22 ⊢
   obtain ⟨_,_⟩:=hI;refine yL 6 hz<| yB 2 60 (q<(↑F.length:Int)) (fun _=> ?_) fun _=> ?_
   ·cases hb23:sm
    ·refine yD 6 [] [] (List.range 16)<| yI 2 kk hy<| yG 0 encRow R kk ?_
     have:=((R.getD kk.toNat default)).hw;refine yI 1 v0 ((R.getD kk.toNat default)).h<| yGN 0 encC ((R.getD kk.toNat default).R) v0 7<| yI 2 jj hy<| yG 0 encRow R jj ?_
     have:=((R.getD jj.toNat default)).hw;refine yI 1 v0 ((R.getD jj.toNat default)).h<| yGN 0 encC ((R.getD jj.toNat default).R) v0 7<| yC 0 (c123_0 (((R.getD kk.toNat default).R.getD v0.toNat default).k) (((R.getD kk.toNat default).R.getD v0.toNat default).dn) (((R.getD kk.toNat default).R.getD v0.toNat default).ds) (((R.getD kk.toNat default).R.getD v0.toNat default).n) (((R.getD jj.toNat default).R.getD v0.toNat default).k) (((R.getD jj.toNat default).R.getD v0.toNat default).dn) (((R.getD jj.toNat default).R.getD v0.toNat default).ds) (((R.getD jj.toNat default).R.getD v0.toNat default).n) (((R.getD kk.toNat default).R.getD v0.toNat default).s) (((R.getD jj.toNat default).R.getD v0.toNat default).s)) ?_
     rintro _ ⟨v30,rfl,_⟩;exact yJ 19 11 (jj+1)<| yK 0 [0] (ih14 (jj+1) (by omega) (by (try dsimp only);omega))
    refine yI 13 q hz<| yG 0 encS F q<| yC 0 (c127_0 _ _ (F.getD q.toNat default) hx (by omega) (by exact idx_all (by assumption) (by omega) (by omega))) ?_
    rintro _ ⟨v32,rfl,_,_,_⟩;refine yD 2 [] [] (List.range 16)<| yI 2 kk hy<| yG 0 encRow R kk ?_
    have:=((R.getD kk.toNat default)).hw;refine yI 1 v32 ((R.getD kk.toNat default)).h<| yGN 0 encC ((R.getD kk.toNat default).R) v32 7<| yI 2 jj hy<| yG 0 encRow R jj ?_
    have:=((R.getD jj.toNat default)).hw;refine yI 1 v32 ((R.getD jj.toNat default)).h<| yGN 0 encC ((R.getD jj.toNat default).R) v32 7<| yC 0 (c123_0 (((R.getD kk.toNat default).R.getD v32.toNat default).k) (((R.getD kk.toNat default).R.getD v32.toNat default).dn) (((R.getD kk.toNat default).R.getD v32.toNat default).ds) (((R.getD kk.toNat default).R.getD v32.toNat default).n) (((R.getD jj.toNat default).R.getD v32.toNat default).k) (((R.getD jj.toNat default).R.getD v32.toNat default).dn) (((R.getD jj.toNat default).R.getD v32.toNat default).ds) (((R.getD jj.toNat default).R.getD v32.toNat default).n) (((R.getD kk.toNat default).R.getD v32.toNat default).s) (((R.getD jj.toNat default).R.getD v32.toNat default).s)) ?_
    rintro _ ⟨v42,rfl,_⟩;exact yJ 9 13 (q+1)<| yK 0 [0] (ih22 ((q+1),v42) (by omega) (by (try dsimp only);omega))
   refine yD 6 [] [] (List.range 16)<| yI 2 kk hy<| yG 0 encRow R kk ?_
   have:=((R.getD kk.toNat default)).hw;refine yI 1 v0 ((R.getD kk.toNat default)).h<| yGN 0 encC ((R.getD kk.toNat default).R) v0 7<| yI 2 jj hy<| yG 0 encRow R jj ?_
   have:=((R.getD jj.toNat default)).hw;refine yI 1 v0 ((R.getD jj.toNat default)).h<| yGN 0 encC ((R.getD jj.toNat default).R) v0 7<| yC 0 (c123_0 (((R.getD kk.toNat default).R.getD v0.toNat default).k) (((R.getD kk.toNat default).R.getD v0.toNat default).dn) (((R.getD kk.toNat default).R.getD v0.toNat default).ds) (((R.getD kk.toNat default).R.getD v0.toNat default).n) (((R.getD jj.toNat default).R.getD v0.toNat default).k) (((R.getD jj.toNat default).R.getD v0.toNat default).dn) (((R.getD jj.toNat default).R.getD v0.toNat default).ds) (((R.getD jj.toNat default).R.getD v0.toNat default).n) (((R.getD kk.toNat default).R.getD v0.toNat default).s) (((R.getD jj.toNat default).R.getD v0.toNat default).s)) ?_
   rintro _ ⟨v50,rfl,_⟩;cases hb52:sm
   ·exact yJ 19 11 (jj+1)<| yK 0 [0] (ih14 (jj+1) (by omega) (by (try dsimp only);omega))
   cases hb53:v50
   ·refine yF 15 (o (b false)) ?_
    first | exact ⟨_,rfl⟩
   exact yJ 19 11 (jj+1)<| yK 0 [0] (ih14 (jj+1) (by omega) (by (try dsimp only);omega))
  exact yJ 9 10 (kk+1)<| yK 0 [0] (ih8 (kk+1) (by omega) (by (try dsimp only);omega))
 refine yF 6 (o (b true)) ?_
 first | exact ⟨_,rfl⟩
theorem c128 {w:Nat} (C F:List ByteArray) (R:List (Row w)) (x y z:PV) (hx:IsS encS C x) (hy:IsS encRow R y) (hz:IsS encS F z) (hw:C.length=w) (h8:w≤8) (hR:R.length≤100) (hF:F.length≤100):ValC Tryz.prog GG 128 [o (.p x),o (.p y),o (.p z)] (fun r=>∃v:Bool,r=o (b v)):=by
 refine vX (fn:=Tryz.f128)<| yP 11 [] 26 (pT Tryz.f128 [1,0,1,0,0]) (α:=(Int)) (fun k=>0≤k∧k≤C.length) (fun k=>(C.length - k).toNat) (fun k=>([(0,o (.p x)),(1,o (.p y)),(2,o (.p z)),(7,o (i k))],[])) 0 (by omega) ?_
 rintro k hI ih4 J
 try dsimp only at hI ih4 ⊢
 obtain ⟨_,_⟩:=hI;refine yL 5 hx<| yB 2 12 (k<(↑C.length:Int)) (fun _=> ?_) fun _=> ?_
 ·refine yI 11 k hx<| yG 0 encS C k<| yC 1 (c264 _ _ _ _ _ _ (C.getD k.toNat default) hx hy hz (by omega) (by omega) (by omega) (by omega)) ?_
  rintro _ ⟨v3,rfl⟩;cases hb4:v3
  ·refine yF 12 (o (b false)) ?_
   first | exact ⟨_,rfl⟩
  exact yJ 16 7 (k+1)<| yK 0 [] (ih4 (k+1) (by omega) (by omega))
 refine yF 6 (o (b true)) ?_
 first | exact ⟨_,rfl⟩
end Go.Sx.E1
