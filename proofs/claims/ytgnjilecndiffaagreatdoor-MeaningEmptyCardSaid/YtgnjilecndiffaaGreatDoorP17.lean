/- A part of the proof of MeaningEmpty. -/
import Derived.Test.YtgnjilecndiffaaGreatDoorP16
set_option linter.all false
set_option maxRecDepth 1000000
set_option maxHeartbeats 0
namespace Go.Sx.E1
open Go.Proofs
variable [MaxL]
theorem mul_sm {x y a b:Int} (h1:x=a) (h2:y=b):x*y=a*b:=by rw [h1,h2]
theorem mul_d2 {p n a b:Int} (hn:n=a+16777216*b):n*p=a*p+16777216*(b*p):=by rw [hn];grind
theorem mul_d3 {p n a b c:Int} (hn:n=a+16777216*b+281474976710656*c):n*p=a*p+16777216*(b*p)+281474976710656*(c*p):=by rw [hn];grind
theorem mulD2 {a b:Int} (h0:0≤a∧a≤16777215000000) (h1:0≤b∧b≤16777215000000):DigOk [(0+a+0).tmod 16777216,((0+a+0).tdiv 16777216+b+0).tmod 16777216,((0+a+0).tdiv 16777216+b+0).tdiv 16777216]∧digV [(0+a+0).tmod 16777216,((0+a+0).tdiv 16777216+b+0).tmod 16777216,((0+a+0).tdiv 16777216+b+0).tdiv 16777216]=a+16777216*b:=by
 have n0:0≤0+a+0:=by omega
 have e0:=Int.tdiv_eq_ediv_of_nonneg (a:=0+a+0) (b:=16777216) n0;have n1:0≤(0+a+0).tdiv 16777216+b+0:=by omega
 rw [Int.tmod_eq_emod_of_nonneg n1,Int.tdiv_eq_ediv_of_nonneg n1,Int.tmod_eq_emod_of_nonneg n0,e0];constructor
 ·intro x hx;simp only [List.mem_cons,List.mem_nil_iff,or_false] at hx;omega
 simp only [digV];omega
theorem mulD3 {a b c:Int} (h0:0≤a∧a≤16777215000000) (h1:0≤b∧b≤16777215000000) (h2:0≤c∧c≤16777215000000):DigOk [(0+a+0).tmod 16777216,((0+a+0).tdiv 16777216+b+0).tmod 16777216,(((0+a+0).tdiv 16777216+b+0).tdiv 16777216+c+0).tmod 16777216,(((0+a+0).tdiv 16777216+b+0).tdiv 16777216+c+0).tdiv 16777216]∧digV [(0+a+0).tmod 16777216,((0+a+0).tdiv 16777216+b+0).tmod 16777216,(((0+a+0).tdiv 16777216+b+0).tdiv 16777216+c+0).tmod 16777216,(((0+a+0).tdiv 16777216+b+0).tdiv 16777216+c+0).tdiv 16777216]=a+16777216*b+281474976710656*c:=by
 have n0:0≤0+a+0:=by omega
 have e0:=Int.tdiv_eq_ediv_of_nonneg (a:=0+a+0) (b:=16777216) n0;have n1:0≤(0+a+0).tdiv 16777216+b+0:=by omega
 have e1:=Int.tdiv_eq_ediv_of_nonneg (a:=(0+a+0).tdiv 16777216+b+0) (b:=16777216) n1;have n2:0≤((0+a+0).tdiv 16777216+b+0).tdiv 16777216+c+0:=by omega
 rw [Int.tmod_eq_emod_of_nonneg n2,Int.tdiv_eq_ediv_of_nonneg n2,Int.tmod_eq_emod_of_nonneg n1,e1,Int.tmod_eq_emod_of_nonneg n0,e0];constructor
 ·intro x hx;simp only [List.mem_cons,List.mem_nil_iff,or_false] at hx;omega
 simp only [digV];omega
theorem c384_1 (s t:ByteArray) (hs:(s.size:Int)≤1000000) (ht:(t.size:Int)≤1000000) (h1:natV s<16777216) (h2:1≤natV t) (h3:natV t≤1000000):ValC Tryz.prog GG 384 [o (sv s),o (sv t)] (fun r=>∃c:ByteArray,r=o (sv c)∧(c.size:Int)≤15∧natV c=natV s*natV t∧E1.Canon c):=by
 refine vX (fn:=Tryz.f384)<| yC 7 (c386_3 s (by omega)) ?_
 rintro _ ⟨n0,ok1,rfl,hq2,hq3,_,_⟩;refine yC 9 (c386_4 t (by omega)) ?_;rintro _ ⟨n6,ok7,rfl,hq8,hq9,_,_⟩;cases hb12:ok1
 ·have:=hq3 hb12;exfalso;omega
 have:=hq2 hb12;cases hb15:ok7
 ·have:=hq9 hb15;exfalso;omega
 have:=hq8 hb15;refine yJ 20 32 (n0*n6) ?_ (h0:=by have:=(show (0≤n0*n6∧n0*n6≤16777215000000) from fact_mul (by omega) (by omega) (by omega) (by omega));omega) (h1:=by have:=(show (0≤n0*n6∧n0*n6≤16777215000000) from fact_mul (by omega) (by omega) (by omega) (by omega));omega);refine yC 0 (c383 (n0*n6) (by have:=(show (0≤n0*n6∧n0*n6≤16777215000000) from fact_mul (by omega) (by omega) (by omega) (by omega));omega) (by have:=(show (0≤n0*n6∧n0*n6≤16777215000000) from fact_mul (by omega) (by omega) (by omega) (by omega));omega)) ?_;rintro _ ⟨c18,rfl,_,_,_⟩;exact yF 2 (o (.p (.vl (.string c18))))<| ⟨_,rfl,by omega,by rw [‹natV _=_*_›];exact mul_sm (by omega) (by omega),by assumption⟩
theorem c384_2 (s t:ByteArray) (hs:(s.size:Int)≤1000000) (ht:(t.size:Int)≤1000000) (h0:16777216≤natV s) (h1:natV s<281474976710656) (h2:1≤natV t) (h3:natV t≤1000000):ValC Tryz.prog GG 384 [o (sv s),o (sv t)] (fun r=>∃c:ByteArray,r=o (sv c)∧(c.size:Int)≤15∧natV c=natV s*natV t∧E1.Canon c):=by
 refine vX (fn:=Tryz.f384)<| yC 7 (c386_3 s (by omega)) ?_
 rintro _ ⟨n0,ok1,rfl,hq2,hq3,_,_⟩;refine yC 9 (c386_4 t (by omega)) ?_;rintro _ ⟨n6,ok7,rfl,_,_,_,_⟩;cases hb12:ok1
 ·have:=hq3 hb12;refine yC 19 (c387_2 s (by omega) (by omega) (by omega)) ?_;rintro _ ⟨d014,d115,rfl,_,_,_,_,_⟩;refine yV 5 (c387_1 t (by omega) (by omega) (by omega))<| yD 55 [] [] (List.range 19)<| yO2 106 0 (yw (d014*natV t) (h0:=by have:=(show (0≤d014*natV t∧d014*natV t≤16777215000000) from fact_mul (by omega) (by omega) (by omega) (by omega));omega) (h1:=by have:=(show (0≤d014*natV t∧d014*natV t≤16777215000000) from fact_mul (by omega) (by omega) (by omega) (by omega));omega)) (fun z=> .cells [i ((IntKind.i64.wrap (IntKind.i64.wrap (0+z)+0)).tmod 16777216),i (IntKind.i64.wrap ((IntKind.i64.wrap (IntKind.i64.wrap (0+z)+0)).tdiv 16777216)),i 0] false)<| yO2 0 0 (yw (0+d014*natV t) (h0:=by have:=(show (0≤d014*natV t∧d014*natV t≤16777215000000) from fact_mul (by omega) (by omega) (by omega) (by omega));omega) (h1:=by have:=(show (0≤d014*natV t∧d014*natV t≤16777215000000) from fact_mul (by omega) (by omega) (by omega) (by omega));omega)) (fun z=> .cells [i ((IntKind.i64.wrap (z+0)).tmod 16777216),i (IntKind.i64.wrap ((IntKind.i64.wrap (z+0)).tdiv 16777216)),i 0] false)<| yO2 0 0 (yw (0+d014*natV t+0) (h0:=by have:=(show (0≤d014*natV t∧d014*natV t≤16777215000000) from fact_mul (by omega) (by omega) (by omega) (by omega));omega) (h1:=by have:=(show (0≤d014*natV t∧d014*natV t≤16777215000000) from fact_mul (by omega) (by omega) (by omega) (by omega));omega)) (fun z=> .cells [i (z.tmod 16777216),i (IntKind.i64.wrap (z.tdiv 16777216)),i 0] false)<| yQ 0 0 1 (yw ((0+d014*natV t+0).tdiv 16777216) (h0:=by have:=(show (0≤d014*natV t∧d014*natV t≤16777215000000) from fact_mul (by omega) (by omega) (by omega) (by omega));have:=Int.tdiv_eq_ediv_of_nonneg (a:=(0+d014*natV t+0)) (b:=16777216) (by omega);omega) (h1:=by have:=(show (0≤d014*natV t∧d014*natV t≤16777215000000) from fact_mul (by omega) (by omega) (by omega) (by omega));have:=Int.tdiv_eq_ediv_of_nonneg (a:=(0+d014*natV t+0)) (b:=16777216) (by omega);omega)) i<| yD 0 [] [] (List.range 19)<| yO2 83 0 (yw (d115*natV t) (h0:=by have:=(show (0≤d115*natV t∧d115*natV t≤16777215000000) from fact_mul (by omega) (by omega) (by omega) (by omega));omega) (h1:=by have:=(show (0≤d115*natV t∧d115*natV t≤16777215000000) from fact_mul (by omega) (by omega) (by omega) (by omega));omega)) (fun z=> .cells [i ((0+d014*natV t+0).tmod 16777216),i ((IntKind.i64.wrap (IntKind.i64.wrap ((0+d014*natV t+0).tdiv 16777216+z)+0)).tmod 16777216),i (IntKind.i64.wrap ((IntKind.i64.wrap (IntKind.i64.wrap ((0+d014*natV t+0).tdiv 16777216+z)+0)).tdiv 16777216))] false)<| yO2 0 0 (yw ((0+d014*natV t+0).tdiv 16777216+d115*natV t) (h0:=by have:=(show (0≤d115*natV t∧d115*natV t≤16777215000000) from fact_mul (by omega) (by omega) (by omega) (by omega));have:=(show (0≤d014*natV t∧d014*natV t≤16777215000000) from fact_mul (by omega) (by omega) (by omega) (by omega));have:=Int.tdiv_eq_ediv_of_nonneg (a:=(0+d014*natV t+0)) (b:=16777216) (by omega);omega) (h1:=by have:=(show (0≤d115*natV t∧d115*natV t≤16777215000000) from fact_mul (by omega) (by omega) (by omega) (by omega));have:=(show (0≤d014*natV t∧d014*natV t≤16777215000000) from fact_mul (by omega) (by omega) (by omega) (by omega));have:=Int.tdiv_eq_ediv_of_nonneg (a:=(0+d014*natV t+0)) (b:=16777216) (by omega);omega)) (fun z=> .cells [i ((0+d014*natV t+0).tmod 16777216),i ((IntKind.i64.wrap (z+0)).tmod 16777216),i (IntKind.i64.wrap ((IntKind.i64.wrap (z+0)).tdiv 16777216))] false)<| yO2 0 0 (yw ((0+d014*natV t+0).tdiv 16777216+d115*natV t+0) (h0:=by have:=(show (0≤d115*natV t∧d115*natV t≤16777215000000) from fact_mul (by omega) (by omega) (by omega) (by omega));have:=(show (0≤d014*natV t∧d014*natV t≤16777215000000) from fact_mul (by omega) (by omega) (by omega) (by omega));have:=Int.tdiv_eq_ediv_of_nonneg (a:=(0+d014*natV t+0)) (b:=16777216) (by omega);omega) (h1:=by have:=(show (0≤d115*natV t∧d115*natV t≤16777215000000) from fact_mul (by omega) (by omega) (by omega) (by omega));have:=(show (0≤d014*natV t∧d014*natV t≤16777215000000) from fact_mul (by omega) (by omega) (by omega) (by omega));have:=Int.tdiv_eq_ediv_of_nonneg (a:=(0+d014*natV t+0)) (b:=16777216) (by omega);omega)) (fun z=> .cells [i ((0+d014*natV t+0).tmod 16777216),i (z.tmod 16777216),i (IntKind.i64.wrap (z.tdiv 16777216))] false)<| yQ 0 0 2 (yw (((0+d014*natV t+0).tdiv 16777216+d115*natV t+0).tdiv 16777216) (h0:=by have:=(show (0≤d115*natV t∧d115*natV t≤16777215000000) from fact_mul (by omega) (by omega) (by omega) (by omega));have:=(show (0≤d014*natV t∧d014*natV t≤16777215000000) from fact_mul (by omega) (by omega) (by omega) (by omega));have:=Int.tdiv_eq_ediv_of_nonneg (a:=(0+d014*natV t+0)) (b:=16777216) (by omega);have:=Int.tdiv_eq_ediv_of_nonneg (a:=((0+d014*natV t+0).tdiv 16777216+d115*natV t+0)) (b:=16777216) (by omega);omega) (h1:=by have:=(show (0≤d115*natV t∧d115*natV t≤16777215000000) from fact_mul (by omega) (by omega) (by omega) (by omega));have:=(show (0≤d014*natV t∧d014*natV t≤16777215000000) from fact_mul (by omega) (by omega) (by omega) (by omega));have:=Int.tdiv_eq_ediv_of_nonneg (a:=(0+d014*natV t+0)) (b:=16777216) (by omega);have:=Int.tdiv_eq_ediv_of_nonneg (a:=((0+d014*natV t+0).tdiv 16777216+d115*natV t+0)) (b:=16777216) (by omega);omega)) i<| yT 0 [0] (c393 _ _ (show IsS encI ([(0+d014*natV t+0).tmod 16777216,((0+d014*natV t+0).tdiv 16777216+d115*natV t+0).tmod 16777216,((0+d014*natV t+0).tdiv 16777216+d115*natV t+0).tdiv 16777216]) _ from IsS.sl) (by exact (mulD2 (fact_mul (by omega) (by omega) (by omega) (by omega)) (fact_mul (by omega) (by omega) (by omega) (by omega))).1) (by simp)) ?_
  rintro _ ⟨c25,rfl,_,_,_⟩;exact yF 2 (o (.p (.vl (.string c25))))<| ⟨_,rfl,by simp at*;omega,by rw [‹natV _=digV _›,(mulD2 (fact_mul (by omega) (by omega) (by omega) (by omega)) (fact_mul (by omega) (by omega) (by omega) (by omega))).2,mul_d2 (n:=natV s) (p:=natV t) (by assumption)],by assumption⟩
 have:=hq2 hb12;exfalso;omega
theorem c384_3 (s t:ByteArray) (hs:(s.size:Int)≤1000000) (ht:(t.size:Int)≤1000000) (h0:281474976710656≤natV s) (h1:natV s<4722366482869645213696) (h2:1≤natV t) (h3:natV t≤1000000):ValC Tryz.prog GG 384 [o (sv s),o (sv t)] (fun r=>∃c:ByteArray,r=o (sv c)∧(c.size:Int)≤15∧natV c=natV s*natV t∧E1.Canon c):=by
 refine vX (fn:=Tryz.f384)<| yC 7 (c386_3 s (by omega)) ?_
 rintro _ ⟨n0,ok1,rfl,hq2,_,_,_⟩;refine yC 9 (c386_4 t (by omega)) ?_;rintro _ ⟨n6,ok7,rfl,_,_,_,_⟩;cases hb12:ok1
 ·refine yC 19 (c387_3 s (by omega) (by omega) (by omega)) ?_;rintro _ ⟨d014,d115,d216,rfl,_,_,_,_,_,_,_⟩;refine yV 5 (c387_1 t (by omega) (by omega) (by omega))<| yD 55 [] [] (List.range 19)<| yO2 106 0 (yw (d014*natV t) (h0:=by have:=(show (0≤d014*natV t∧d014*natV t≤16777215000000) from fact_mul (by omega) (by omega) (by omega) (by omega));omega) (h1:=by have:=(show (0≤d014*natV t∧d014*natV t≤16777215000000) from fact_mul (by omega) (by omega) (by omega) (by omega));omega)) (fun z=> .cells [i ((IntKind.i64.wrap (IntKind.i64.wrap (0+z)+0)).tmod 16777216),i (IntKind.i64.wrap ((IntKind.i64.wrap (IntKind.i64.wrap (0+z)+0)).tdiv 16777216)),i 0,i 0] false)<| yO2 0 0 (yw (0+d014*natV t) (h0:=by have:=(show (0≤d014*natV t∧d014*natV t≤16777215000000) from fact_mul (by omega) (by omega) (by omega) (by omega));omega) (h1:=by have:=(show (0≤d014*natV t∧d014*natV t≤16777215000000) from fact_mul (by omega) (by omega) (by omega) (by omega));omega)) (fun z=> .cells [i ((IntKind.i64.wrap (z+0)).tmod 16777216),i (IntKind.i64.wrap ((IntKind.i64.wrap (z+0)).tdiv 16777216)),i 0,i 0] false)<| yO2 0 0 (yw (0+d014*natV t+0) (h0:=by have:=(show (0≤d014*natV t∧d014*natV t≤16777215000000) from fact_mul (by omega) (by omega) (by omega) (by omega));omega) (h1:=by have:=(show (0≤d014*natV t∧d014*natV t≤16777215000000) from fact_mul (by omega) (by omega) (by omega) (by omega));omega)) (fun z=> .cells [i (z.tmod 16777216),i (IntKind.i64.wrap (z.tdiv 16777216)),i 0,i 0] false)<| yQ 0 0 1 (yw ((0+d014*natV t+0).tdiv 16777216) (h0:=by have:=(show (0≤d014*natV t∧d014*natV t≤16777215000000) from fact_mul (by omega) (by omega) (by omega) (by omega));have:=Int.tdiv_eq_ediv_of_nonneg (a:=(0+d014*natV t+0)) (b:=16777216) (by omega);omega) (h1:=by have:=(show (0≤d014*natV t∧d014*natV t≤16777215000000) from fact_mul (by omega) (by omega) (by omega) (by omega));have:=Int.tdiv_eq_ediv_of_nonneg (a:=(0+d014*natV t+0)) (b:=16777216) (by omega);omega)) i<| yD 0 [] [] (List.range 19)<| yO2 106 0 (yw (d115*natV t) (h0:=by have:=(show (0≤d115*natV t∧d115*natV t≤16777215000000) from fact_mul (by omega) (by omega) (by omega) (by omega));omega) (h1:=by have:=(show (0≤d115*natV t∧d115*natV t≤16777215000000) from fact_mul (by omega) (by omega) (by omega) (by omega));omega)) (fun z=> .cells [i ((0+d014*natV t+0).tmod 16777216),i ((IntKind.i64.wrap (IntKind.i64.wrap ((0+d014*natV t+0).tdiv 16777216+z)+0)).tmod 16777216),i (IntKind.i64.wrap ((IntKind.i64.wrap (IntKind.i64.wrap ((0+d014*natV t+0).tdiv 16777216+z)+0)).tdiv 16777216)),i 0] false)<| yO2 0 0 (yw ((0+d014*natV t+0).tdiv 16777216+d115*natV t) (h0:=by have:=(show (0≤d115*natV t∧d115*natV t≤16777215000000) from fact_mul (by omega) (by omega) (by omega) (by omega));have:=(show (0≤d014*natV t∧d014*natV t≤16777215000000) from fact_mul (by omega) (by omega) (by omega) (by omega));have:=Int.tdiv_eq_ediv_of_nonneg (a:=(0+d014*natV t+0)) (b:=16777216) (by omega);omega) (h1:=by have:=(show (0≤d115*natV t∧d115*natV t≤16777215000000) from fact_mul (by omega) (by omega) (by omega) (by omega));have:=(show (0≤d014*natV t∧d014*natV t≤16777215000000) from fact_mul (by omega) (by omega) (by omega) (by omega));have:=Int.tdiv_eq_ediv_of_nonneg (a:=(0+d014*natV t+0)) (b:=16777216) (by omega);omega)) (fun z=> .cells [i ((0+d014*natV t+0).tmod 16777216),i ((IntKind.i64.wrap (z+0)).tmod 16777216),i (IntKind.i64.wrap ((IntKind.i64.wrap (z+0)).tdiv 16777216)),i 0] false)<| yO2 0 0 (yw ((0+d014*natV t+0).tdiv 16777216+d115*natV t+0) (h0:=by have:=(show (0≤d115*natV t∧d115*natV t≤16777215000000) from fact_mul (by omega) (by omega) (by omega) (by omega));have:=(show (0≤d014*natV t∧d014*natV t≤16777215000000) from fact_mul (by omega) (by omega) (by omega) (by omega));have:=Int.tdiv_eq_ediv_of_nonneg (a:=(0+d014*natV t+0)) (b:=16777216) (by omega);omega) (h1:=by have:=(show (0≤d115*natV t∧d115*natV t≤16777215000000) from fact_mul (by omega) (by omega) (by omega) (by omega));have:=(show (0≤d014*natV t∧d014*natV t≤16777215000000) from fact_mul (by omega) (by omega) (by omega) (by omega));have:=Int.tdiv_eq_ediv_of_nonneg (a:=(0+d014*natV t+0)) (b:=16777216) (by omega);omega)) (fun z=> .cells [i ((0+d014*natV t+0).tmod 16777216),i (z.tmod 16777216),i (IntKind.i64.wrap (z.tdiv 16777216)),i 0] false)<| yQ 0 0 2 (yw (((0+d014*natV t+0).tdiv 16777216+d115*natV t+0).tdiv 16777216) (h0:=by have:=(show (0≤d115*natV t∧d115*natV t≤16777215000000) from fact_mul (by omega) (by omega) (by omega) (by omega));have:=(show (0≤d014*natV t∧d014*natV t≤16777215000000) from fact_mul (by omega) (by omega) (by omega) (by omega));have:=Int.tdiv_eq_ediv_of_nonneg (a:=(0+d014*natV t+0)) (b:=16777216) (by omega);have:=Int.tdiv_eq_ediv_of_nonneg (a:=((0+d014*natV t+0).tdiv 16777216+d115*natV t+0)) (b:=16777216) (by omega);omega) (h1:=by have:=(show (0≤d115*natV t∧d115*natV t≤16777215000000) from fact_mul (by omega) (by omega) (by omega) (by omega));have:=(show (0≤d014*natV t∧d014*natV t≤16777215000000) from fact_mul (by omega) (by omega) (by omega) (by omega));have:=Int.tdiv_eq_ediv_of_nonneg (a:=(0+d014*natV t+0)) (b:=16777216) (by omega);have:=Int.tdiv_eq_ediv_of_nonneg (a:=((0+d014*natV t+0).tdiv 16777216+d115*natV t+0)) (b:=16777216) (by omega);omega)) i<| yD 0 [] [] (List.range 19)<| yO2 83 0 (yw (d216*natV t) (h0:=by have:=(show (0≤d216*natV t∧d216*natV t≤16777215000000) from fact_mul (by omega) (by omega) (by omega) (by omega));omega) (h1:=by have:=(show (0≤d216*natV t∧d216*natV t≤16777215000000) from fact_mul (by omega) (by omega) (by omega) (by omega));omega)) (fun z=> .cells [i ((0+d014*natV t+0).tmod 16777216),i (((0+d014*natV t+0).tdiv 16777216+d115*natV t+0).tmod 16777216),i ((IntKind.i64.wrap (IntKind.i64.wrap (((0+d014*natV t+0).tdiv 16777216+d115*natV t+0).tdiv 16777216+z)+0)).tmod 16777216),i (IntKind.i64.wrap ((IntKind.i64.wrap (IntKind.i64.wrap (((0+d014*natV t+0).tdiv 16777216+d115*natV t+0).tdiv 16777216+z)+0)).tdiv 16777216))] false)<| yO2 0 0 (yw (((0+d014*natV t+0).tdiv 16777216+d115*natV t+0).tdiv 16777216+d216*natV t) (h0:=by have:=(show (0≤d216*natV t∧d216*natV t≤16777215000000) from fact_mul (by omega) (by omega) (by omega) (by omega));have:=(show (0≤d115*natV t∧d115*natV t≤16777215000000) from fact_mul (by omega) (by omega) (by omega) (by omega));have:=(show (0≤d014*natV t∧d014*natV t≤16777215000000) from fact_mul (by omega) (by omega) (by omega) (by omega));have:=Int.tdiv_eq_ediv_of_nonneg (a:=(0+d014*natV t+0)) (b:=16777216) (by omega);have:=Int.tdiv_eq_ediv_of_nonneg (a:=((0+d014*natV t+0).tdiv 16777216+d115*natV t+0)) (b:=16777216) (by omega);omega) (h1:=by have:=(show (0≤d216*natV t∧d216*natV t≤16777215000000) from fact_mul (by omega) (by omega) (by omega) (by omega));have:=(show (0≤d115*natV t∧d115*natV t≤16777215000000) from fact_mul (by omega) (by omega) (by omega) (by omega));have:=(show (0≤d014*natV t∧d014*natV t≤16777215000000) from fact_mul (by omega) (by omega) (by omega) (by omega));have:=Int.tdiv_eq_ediv_of_nonneg (a:=(0+d014*natV t+0)) (b:=16777216) (by omega);have:=Int.tdiv_eq_ediv_of_nonneg (a:=((0+d014*natV t+0).tdiv 16777216+d115*natV t+0)) (b:=16777216) (by omega);omega)) (fun z=> .cells [i ((0+d014*natV t+0).tmod 16777216),i (((0+d014*natV t+0).tdiv 16777216+d115*natV t+0).tmod 16777216),i ((IntKind.i64.wrap (z+0)).tmod 16777216),i (IntKind.i64.wrap ((IntKind.i64.wrap (z+0)).tdiv 16777216))] false)<| yO2 0 0 (yw (((0+d014*natV t+0).tdiv 16777216+d115*natV t+0).tdiv 16777216+d216*natV t+0) (h0:=by have:=(show (0≤d216*natV t∧d216*natV t≤16777215000000) from fact_mul (by omega) (by omega) (by omega) (by omega));have:=(show (0≤d115*natV t∧d115*natV t≤16777215000000) from fact_mul (by omega) (by omega) (by omega) (by omega));have:=(show (0≤d014*natV t∧d014*natV t≤16777215000000) from fact_mul (by omega) (by omega) (by omega) (by omega));have:=Int.tdiv_eq_ediv_of_nonneg (a:=(0+d014*natV t+0)) (b:=16777216) (by omega);have:=Int.tdiv_eq_ediv_of_nonneg (a:=((0+d014*natV t+0).tdiv 16777216+d115*natV t+0)) (b:=16777216) (by omega);omega) (h1:=by have:=(show (0≤d216*natV t∧d216*natV t≤16777215000000) from fact_mul (by omega) (by omega) (by omega) (by omega));have:=(show (0≤d115*natV t∧d115*natV t≤16777215000000) from fact_mul (by omega) (by omega) (by omega) (by omega));have:=(show (0≤d014*natV t∧d014*natV t≤16777215000000) from fact_mul (by omega) (by omega) (by omega) (by omega));have:=Int.tdiv_eq_ediv_of_nonneg (a:=(0+d014*natV t+0)) (b:=16777216) (by omega);have:=Int.tdiv_eq_ediv_of_nonneg (a:=((0+d014*natV t+0).tdiv 16777216+d115*natV t+0)) (b:=16777216) (by omega);omega)) (fun z=> .cells [i ((0+d014*natV t+0).tmod 16777216),i (((0+d014*natV t+0).tdiv 16777216+d115*natV t+0).tmod 16777216),i (z.tmod 16777216),i (IntKind.i64.wrap (z.tdiv 16777216))] false)<| yQ 0 0 3 (yw ((((0+d014*natV t+0).tdiv 16777216+d115*natV t+0).tdiv 16777216+d216*natV t+0).tdiv 16777216) (h0:=by have:=(show (0≤d216*natV t∧d216*natV t≤16777215000000) from fact_mul (by omega) (by omega) (by omega) (by omega));have:=(show (0≤d115*natV t∧d115*natV t≤16777215000000) from fact_mul (by omega) (by omega) (by omega) (by omega));have:=(show (0≤d014*natV t∧d014*natV t≤16777215000000) from fact_mul (by omega) (by omega) (by omega) (by omega));have:=Int.tdiv_eq_ediv_of_nonneg (a:=(0+d014*natV t+0)) (b:=16777216) (by omega);have:=Int.tdiv_eq_ediv_of_nonneg (a:=((0+d014*natV t+0).tdiv 16777216+d115*natV t+0)) (b:=16777216) (by omega);have:=Int.tdiv_eq_ediv_of_nonneg (a:=(((0+d014*natV t+0).tdiv 16777216+d115*natV t+0).tdiv 16777216+d216*natV t+0)) (b:=16777216) (by omega);omega) (h1:=by have:=(show (0≤d216*natV t∧d216*natV t≤16777215000000) from fact_mul (by omega) (by omega) (by omega) (by omega));have:=(show (0≤d115*natV t∧d115*natV t≤16777215000000) from fact_mul (by omega) (by omega) (by omega) (by omega));have:=(show (0≤d014*natV t∧d014*natV t≤16777215000000) from fact_mul (by omega) (by omega) (by omega) (by omega));have:=Int.tdiv_eq_ediv_of_nonneg (a:=(0+d014*natV t+0)) (b:=16777216) (by omega);have:=Int.tdiv_eq_ediv_of_nonneg (a:=((0+d014*natV t+0).tdiv 16777216+d115*natV t+0)) (b:=16777216) (by omega);have:=Int.tdiv_eq_ediv_of_nonneg (a:=(((0+d014*natV t+0).tdiv 16777216+d115*natV t+0).tdiv 16777216+d216*natV t+0)) (b:=16777216) (by omega);omega)) i<| yT 0 [0] (c393 _ _ (show IsS encI ([(0+d014*natV t+0).tmod 16777216,((0+d014*natV t+0).tdiv 16777216+d115*natV t+0).tmod 16777216,(((0+d014*natV t+0).tdiv 16777216+d115*natV t+0).tdiv 16777216+d216*natV t+0).tmod 16777216,(((0+d014*natV t+0).tdiv 16777216+d115*natV t+0).tdiv 16777216+d216*natV t+0).tdiv 16777216]) _ from IsS.sl) (by exact (mulD3 (fact_mul (by omega) (by omega) (by omega) (by omega)) (fact_mul (by omega) (by omega) (by omega) (by omega)) (fact_mul (by omega) (by omega) (by omega) (by omega))).1) (by simp)) ?_
  rintro _ ⟨c28,rfl,_,_,_⟩;exact yF 2 (o (.p (.vl (.string c28))))<| ⟨_,rfl,by simp at*;omega,by rw [‹natV _=digV _›,(mulD3 (fact_mul (by omega) (by omega) (by omega) (by omega)) (fact_mul (by omega) (by omega) (by omega) (by omega)) (fact_mul (by omega) (by omega) (by omega) (by omega))).2,mul_d3 (n:=natV s) (p:=natV t) (by assumption)],by assumption⟩
 have:=hq2 hb12;exfalso;omega
theorem c384 (s t:ByteArray) (hs:(s.size:Int)≤1000000) (ht:(t.size:Int)≤1000000) (h1:natV s<4722366482869645213696) (h2:1≤natV t) (h3:natV t≤1000000):ValC Tryz.prog GG 384 [o (sv s),o (sv t)] (fun r=>∃c:ByteArray,r=o (sv c)∧(c.size:Int)≤15∧natV c=natV s*natV t∧E1.Canon c):=by
 by_cases g1:natV s<16777216
 ·exact c384_1 s t hs ht g1 h2 h3
 by_cases g2:natV s<281474976710656
 ·exact c384_2 s t hs ht (by omega) g2 h2 h3
 exact c384_3 s t hs ht (by omega) h1 h2 h3
theorem c121 (N S:Int):ValC Tryz.prog GG 121 [a [i N,i S]] (fun r=>r=o (b (right04 N S))):=by
 refine vX (fn:=Tryz.f121)<| yB 11 6 (S≥0) (fun _=> ?_) fun _=> ?_
 ·refine yB 5 11 (S≤6) (fun _=> ?_) fun _=> ?_
  ·refine yB 5 16 (N≥-1000000000000000) (fun _=> ?_) fun _=> ?_
   ·refine yB 5 21 (N≤1000000000000000) (fun _=> ?_) fun _=> ?_
    ·refine yBe 4 25 S 0 (fun _=> ?_) fun _=> ?_
     ·refine yF 8 (o (b true)) ?_
      (simp only [right04, *];rfl)
     refine yF 8 (o (b (N.tmod 10 !=0))) ?_
     (have e:(S==0)=false:=beq_eq_false_iff_ne.2 (by assumption);simp [right04, *];done)
    refine yF 12 (o (b false)) ?_
    (simp only [right04, *];rfl)
   refine yF 17 (o (b false)) ?_
   (simp only [right04, *];rfl)
  refine yF 22 (o (b false)) ?_
  (simp only [right04, *];rfl)
 refine yF 27 (o (b false)) ?_
 (simp only [right04, *];rfl)
theorem c121_1 (n s:Int) (h:right04 n s=true):ValC Tryz.prog GG 121 [a [i n,i s]] (fun r=>r=o (b true)):=by
 have:=c121 n s
 simp_all
theorem right_bounds {n s:Int} (h:right04 n s=true): -1000000000000000≤n∧n≤1000000000000000∧0≤s∧s≤6:=by
 unfold right04 at h
 simp_all
def p10 (n:Int):Int:=10^n.toNat
theorem c268k0:ValC Tryz.prog GG 268 [o (i 0)] (fun r=>∃c:ByteArray,r=o (sv c)∧(c.size:Int)≤15∧natV c=p10 0∧E1.Canon c):=
 (kv (r:=o (sv ⟨#[1]⟩)) (by kernel_rfl)).mono (fun r h=>⟨⟨#[1]⟩,h,by decide,by decide,.inr (by decide)⟩)
theorem c268k1:ValC Tryz.prog GG 268 [o (i 1)] (fun r=>∃c:ByteArray,r=o (sv c)∧(c.size:Int)≤15∧natV c=p10 1∧E1.Canon c):=
 (kv (r:=o (sv ⟨#[10]⟩)) (by kernel_rfl)).mono (fun r h=>⟨⟨#[10]⟩,h,by decide,by decide,.inr (by decide)⟩)
theorem c268k2:ValC Tryz.prog GG 268 [o (i 2)] (fun r=>∃c:ByteArray,r=o (sv c)∧(c.size:Int)≤15∧natV c=p10 2∧E1.Canon c):=
 (kv (r:=o (sv ⟨#[100]⟩)) (by kernel_rfl)).mono (fun r h=>⟨⟨#[100]⟩,h,by decide,by decide,.inr (by decide)⟩)
theorem c268k3:ValC Tryz.prog GG 268 [o (i 3)] (fun r=>∃c:ByteArray,r=o (sv c)∧(c.size:Int)≤15∧natV c=p10 3∧E1.Canon c):=
 (kv (r:=o (sv ⟨#[3,232]⟩)) (by kernel_rfl)).mono (fun r h=>⟨⟨#[3,232]⟩,h,by decide,by decide,.inr (by decide)⟩)
theorem c268k4:ValC Tryz.prog GG 268 [o (i 4)] (fun r=>∃c:ByteArray,r=o (sv c)∧(c.size:Int)≤15∧natV c=p10 4∧E1.Canon c):=
 (kv (r:=o (sv ⟨#[39,16]⟩)) (by kernel_rfl)).mono (fun r h=>⟨⟨#[39,16]⟩,h,by decide,by decide,.inr (by decide)⟩)
theorem c268k5:ValC Tryz.prog GG 268 [o (i 5)] (fun r=>∃c:ByteArray,r=o (sv c)∧(c.size:Int)≤15∧natV c=p10 5∧E1.Canon c):=
 (kv (r:=o (sv ⟨#[1,134,160]⟩)) (by kernel_rfl)).mono (fun r h=>⟨⟨#[1,134,160]⟩,h,by decide,by decide,.inr (by decide)⟩)
theorem c268k6:ValC Tryz.prog GG 268 [o (i 6)] (fun r=>∃c:ByteArray,r=o (sv c)∧(c.size:Int)≤15∧natV c=p10 6∧E1.Canon c):=
 (kv (r:=o (sv ⟨#[15,66,64]⟩)) (by kernel_rfl)).mono (fun r h=>⟨⟨#[15,66,64]⟩,h,by decide,by decide,.inr (by decide)⟩)
theorem c268 (n:Int) (h0:0≤n) (h6:n≤6):ValC Tryz.prog GG 268 [o (i n)] (fun r=>∃c:ByteArray,r=o (sv c)∧(c.size:Int)≤15∧natV c=p10 n∧E1.Canon c∧1≤natV c∧natV c≤1000000):=by
 have:∀k:Int,(ValC Tryz.prog GG 268 [o (i k)] (fun r=>∃c:ByteArray,r=o (sv c)∧(c.size:Int)≤15∧natV c=p10 k∧E1.Canon c))→1≤p10 k→p10 k≤1000000→ValC Tryz.prog GG 268 [o (i k)] (fun r=>∃c:ByteArray,r=o (sv c)∧(c.size:Int)≤15∧natV c=p10 k∧E1.Canon c∧1≤natV c∧natV c≤1000000):=
  fun k h h1 h2=>h.mono (fun r ⟨c,e1,e2,e3,e4⟩=>⟨c,e1,e2,e3,e4,by omega,by omega⟩)
 rcases (show n=0∨n=1∨n=2∨n=3∨n=4∨n=5∨n=6 by omega) with h | h | h | h | h | h | h<;>subst h
 ·exact this 0 c268k0 (by decide) (by decide)
 ·exact this 1 c268k1 (by decide) (by decide)
 ·exact this 2 c268k2 (by decide) (by decide)
 ·exact this 3 c268k3 (by decide) (by decide)
 ·exact this 4 c268k4 (by decide) (by decide)
 ·exact this 5 c268k5 (by decide) (by decide)
 exact this 6 c268k6 (by decide) (by decide)
theorem wide_le {n p:Int} (h0:0≤n) (h1:n≤1000000000000000) (h2:1≤p) (h3:p≤1000000):n*p≤1000000000000000000000:=by
 have:=Int.mul_le_mul h1 h3 (by omega) (by omega);omega
theorem c380 (g:Bool) (c:ByteArray) (s S:Int) (hc:(c.size:Int)≤1000) (h0:0≤s) (h1:s≤S) (h2:S≤6) (hv:natV c≤1000000000000000):ValC Tryz.prog GG 380 [a [b g,sv c,i s],o (i S)] (fun r=>∃d:ByteArray,r=a [b g,sv d,i S]∧(d.size:Int)≤15∧natV d=natV c*p10 (S - s)∧E1.Canon d∧natV d≤1000000000000000000000):=by
 refine vX (fn:=Tryz.f380)<| yD 6 [] [[],[],[],[],[],[],[],[],[],[],[],[],[1]] [0,1,2,3,4,5,6,7,10,8,9,11,12]<| yJ 9 12 (S - s)<| yC 0 (c268 (S - s) (by omega) (by omega)) ?_
 rintro _ ⟨c0,rfl,_,hq2,_,_,_⟩;refine yC 0 (c384 c c0 (by omega) (by omega) (by omega) (by omega) (by omega)) ?_;rintro _ ⟨c6,rfl,_,hq8,_⟩;exact yF 3 (a [b g,.p (.vl (.string c6)),i S])<| ⟨_,rfl,by omega,by rw [hq8,hq2],by assumption,by rw [hq8];exact wide_le (natV_nonneg _) (by omega) (by omega) (by omega)⟩
theorem c388_1 (d0:Int):ValC Tryz.prog GG 388 [o (.p (.sl 1 [.vl (.int .i64 d0)]))] (fun r=>∃(y:PV) (M:List Int),r=o (.p y)∧IsS encI M y∧(DigOk [d0]→DigOk M)∧digV M=digV [d0]∧M.length≤1):=by
 refine vX (fn:=Tryz.f388) ?_
 by_cases hb0:(d0=0)
 ·exact ye 23 14 d0 0<| yF 36 (o (.p (.sl 0 [])))<| ⟨_,[],rfl,.sl,fun h x hx=>h x (by simp only [List.mem_cons,List.mem_nil_iff,or_false] at hx ⊢<;>omega),by (simp only [digV];omega),by simp⟩
 exact yu 23 14 d0 0<| yF 7 (o (.p (.sl 1 [(.vl (vi d0))])))<| ⟨_,[d0],rfl,.sl,fun h x hx=>h x (by simp only [List.mem_cons,List.mem_nil_iff,or_false] at hx ⊢<;>omega),by rfl,by simp⟩
theorem c388_2 (d0 d1:Int):ValC Tryz.prog GG 388 [o (.p (.sl 2 [.vl (.int .i64 d0),.vl (.int .i64 d1)]))] (fun r=>∃(y:PV) (M:List Int),r=o (.p y)∧IsS encI M y∧(DigOk [d0,d1]→DigOk M)∧digV M=digV [d0,d1]∧M.length≤2):=by
 refine vX (fn:=Tryz.f388) ?_
 by_cases hb0:(d1=0)
 ·refine ye 23 14 d1 0 ?_
  by_cases hb1:(d0=0)
  ·exact ye 29 14 d0 0<| yF 36 (o (.p (.sl 0 [])))<| ⟨_,[],rfl,.sl,fun h x hx=>h x (by simp only [List.mem_cons,List.mem_nil_iff,or_false] at hx ⊢<;>omega),by (simp only [digV];omega),by simp⟩
  exact yu 29 14 d0 0<| yF 7 (o (.p (.sl 1 [(.vl (vi d0))])))<| ⟨_,[d0],rfl,.sl,fun h x hx=>h x (by simp only [List.mem_cons,List.mem_nil_iff,or_false] at hx ⊢<;>omega),by (simp only [digV];omega),by simp⟩
 exact yu 23 14 d1 0<| yF 7 (o (.p (.sl 2 [(.vl (vi d0)),(.vl (vi d1))])))<| ⟨_,[d0,d1],rfl,.sl,fun h x hx=>h x (by simp only [List.mem_cons,List.mem_nil_iff,or_false] at hx ⊢<;>omega),by rfl,by simp⟩
theorem c388_3 (d0 d1 d2:Int):ValC Tryz.prog GG 388 [o (.p (.sl 3 [.vl (.int .i64 d0),.vl (.int .i64 d1),.vl (.int .i64 d2)]))] (fun r=>∃(y:PV) (M:List Int),r=o (.p y)∧IsS encI M y∧(DigOk [d0,d1,d2]→DigOk M)∧digV M=digV [d0,d1,d2]∧M.length≤3):=by
 refine vX (fn:=Tryz.f388) ?_
 by_cases hb0:(d2=0)
 ·refine ye 23 14 d2 0 ?_
  by_cases hb1:(d1=0)
  ·refine ye 29 14 d1 0 ?_
   by_cases hb2:(d0=0)
   ·exact ye 29 14 d0 0<| yF 36 (o (.p (.sl 0 [])))<| ⟨_,[],rfl,.sl,fun h x hx=>h x (by simp only [List.mem_cons,List.mem_nil_iff,or_false] at hx ⊢<;>omega),by (simp only [digV];omega),by simp⟩
   exact yu 29 14 d0 0<| yF 7 (o (.p (.sl 1 [(.vl (vi d0))])))<| ⟨_,[d0],rfl,.sl,fun h x hx=>h x (by simp only [List.mem_cons,List.mem_nil_iff,or_false] at hx ⊢<;>omega),by (simp only [digV];omega),by simp⟩
  exact yu 29 14 d1 0<| yF 7 (o (.p (.sl 2 [(.vl (vi d0)),(.vl (vi d1))])))<| ⟨_,[d0,d1],rfl,.sl,fun h x hx=>h x (by simp only [List.mem_cons,List.mem_nil_iff,or_false] at hx ⊢<;>omega),by (simp only [digV];omega),by simp⟩
 exact yu 23 14 d2 0<| yF 7 (o (.p (.sl 3 [(.vl (vi d0)),(.vl (vi d1)),(.vl (vi d2))])))<| ⟨_,[d0,d1,d2],rfl,.sl,fun h x hx=>h x (by simp only [List.mem_cons,List.mem_nil_iff,or_false] at hx ⊢<;>omega),by rfl,by simp⟩
theorem c388_4 (d0 d1 d2 d3:Int):ValC Tryz.prog GG 388 [o (.p (.sl 4 [.vl (.int .i64 d0),.vl (.int .i64 d1),.vl (.int .i64 d2),.vl (.int .i64 d3)]))] (fun r=>∃(y:PV) (M:List Int),r=o (.p y)∧IsS encI M y∧(DigOk [d0,d1,d2,d3]→DigOk M)∧digV M=digV [d0,d1,d2,d3]∧M.length≤4):=by
 refine vX (fn:=Tryz.f388) ?_
 by_cases hb0:(d3=0)
 ·refine ye 23 14 d3 0 ?_
  by_cases hb1:(d2=0)
  ·refine ye 29 14 d2 0 ?_
   by_cases hb2:(d1=0)
   ·refine ye 29 14 d1 0 ?_
    by_cases hb3:(d0=0)
    ·exact ye 29 14 d0 0<| yF 36 (o (.p (.sl 0 [])))<| ⟨_,[],rfl,.sl,fun h x hx=>h x (by simp only [List.mem_cons,List.mem_nil_iff,or_false] at hx ⊢<;>omega),by (simp only [digV];omega),by simp⟩
    exact yu 29 14 d0 0<| yF 7 (o (.p (.sl 1 [(.vl (vi d0))])))<| ⟨_,[d0],rfl,.sl,fun h x hx=>h x (by simp only [List.mem_cons,List.mem_nil_iff,or_false] at hx ⊢<;>omega),by (simp only [digV];omega),by simp⟩
   exact yu 29 14 d1 0<| yF 7 (o (.p (.sl 2 [(.vl (vi d0)),(.vl (vi d1))])))<| ⟨_,[d0,d1],rfl,.sl,fun h x hx=>h x (by simp only [List.mem_cons,List.mem_nil_iff,or_false] at hx ⊢<;>omega),by (simp only [digV];omega),by simp⟩
  exact yu 29 14 d2 0<| yF 7 (o (.p (.sl 3 [(.vl (vi d0)),(.vl (vi d1)),(.vl (vi d2))])))<| ⟨_,[d0,d1,d2],rfl,.sl,fun h x hx=>h x (by simp only [List.mem_cons,List.mem_nil_iff,or_false] at hx ⊢<;>omega),by (simp only [digV];omega),by simp⟩
 exact yu 23 14 d3 0<| yF 7 (o (.p (.sl 4 [(.vl (vi d0)),(.vl (vi d1)),(.vl (vi d2)),(.vl (vi d3))])))<| ⟨_,[d0,d1,d2,d3],rfl,.sl,fun h x hx=>h x (by simp only [List.mem_cons,List.mem_nil_iff,or_false] at hx ⊢<;>omega),by rfl,by simp⟩
theorem c388_n:ValC Tryz.prog GG 388 [o nl] (fun r=>r=o nl):=by
 refine vX (fn:=Tryz.f388)<| yF 30 (o (nl)) ?_
 rfl
theorem c388_0:ValC Tryz.prog GG 388 [o (.p (.sl 0 []))] (fun r=>r=o (.p (.sl 0 []))):=by
 refine vX (fn:=Tryz.f388)<| yF 30 (o (.p (.sl 0 []))) ?_
 rfl
theorem c388 (L:List Int) (x:PV) (hx:IsS encI L x) (hd:DigOk L) (hL:L.length≤4):ValC Tryz.prog GG 388 [o (.p x)] (fun r=>∃(y:PV) (M:List Int),r=o (.p y)∧IsS encI M y∧DigOk M∧digV M=digV L∧M.length≤L.length):=by
 cases hx with
 | nil h=>subst h;exact (c388_n).mono (fun r h=>⟨_,[],h,.nil rfl,hd,rfl,by simp⟩)
 | sl=>
  match L,hL,hd with
  | [],_,hd=>exact (c388_0).mono (fun r h=>⟨_,[],h,.sl,hd,rfl,by simp⟩)
  | [d0],_,hd=>exact (c388_1 d0).mono (fun r ⟨y,M,h1,h2,h3,h4,h5⟩=>⟨y,M,h1,h2,h3 hd,h4,h5⟩)
  | [d0,d1],_,hd=>exact (c388_2 d0 d1).mono (fun r ⟨y,M,h1,h2,h3,h4,h5⟩=>⟨y,M,h1,h2,h3 hd,h4,h5⟩)
  | [d0,d1,d2],_,hd=>exact (c388_3 d0 d1 d2).mono (fun r ⟨y,M,h1,h2,h3,h4,h5⟩=>⟨y,M,h1,h2,h3 hd,h4,h5⟩)
  | [d0,d1,d2,d3],_,hd=>exact (c388_4 d0 d1 d2 d3).mono (fun r ⟨y,M,h1,h2,h3,h4,h5⟩=>⟨y,M,h1,h2,h3 hd,h4,h5⟩)
  | _::_::_::_::_::_,hL,_=>simp at hL<;>omega
theorem minus_nil {U V:List Int} (hU:U.length≤0) (hV:V.length≤U.length):digV []=digV U - digV V:=by
 have e1:U=[]:=List.length_eq_zero_iff.1 (by omega);have e2:V=[]:=List.length_eq_zero_iff.1 (by omega);subst e1 e2;rfl
theorem c391 (U V:List Int) (x y:PV) (hx:IsS encI U x) (hy:IsS encI V y) (hu:DigOk U) (hv:DigOk V) (hU:U.length≤4) (hV:V.length≤U.length) (hle:digV V≤digV U):ValC Tryz.prog GG 391 [o (.p x),o (.p y)] (fun r=>∃(z:PV) (M:List Int),r=o (.p z)∧IsS encI M z∧DigOk M∧digV M=digV U - digV V∧M.length≤U.length):=by
 refine vX (fn:=Tryz.f391)<| yP 19 [] 41 (pT Tryz.f391 [1,1,1,0,1,0,0]) (α:=(Int×Int) ⊕ (Int×Int×List Int)) (fun ix_=>match ix_ with | (.inl (b0,k))=>b0=0∧k=0 | (.inr (b1,q,M))=>0≤q∧q≤U.length∧(M.length:Int)=q∧(b1=0∨b1=1)∧DigOk M∧digV M=digV (U.take q.toNat) - digV (V.take q.toNat)+b1*16777216^q.toNat∧0≤b1∧b1≤1) (fun ix_=>match ix_ with | (.inl (b0,k))=>(U.length - k).toNat | (.inr (b1,q,M))=>(U.length - q).toNat) (fun ix_=>match ix_ with | (.inl (b0,k))=>([(0,o (.p x)),(1,o (.p y)),(5,o (nl)),(6,o (i b0)),(7,o (i k))],[]) | (.inr (b1,q,M))=>([(0,o (.p x)),(1,o (.p y)),(5,o (.lsl 0 0 M.length 1)),(6,o (i b1)),(7,o (i q))],[.cells (pc (List.flatMap encI M)) false])) (.inl (0,0)) (by omega) ?_
 rintro (⟨b0,k⟩ | ⟨b1,q,M⟩) hI ih6 J
 try dsimp only at hI ih6 ⊢
 ·obtain ⟨_,_⟩:=hI;refine yL 5 hx<| yB 2 12 (k<(↑U.length:Int)) (fun _=> ?_) fun _=> ?_
  ·refine yI 8 k hx<| yG 0 encI U k ?_
   have:=(show (0≤U.getD k.toNat 0∧U.getD k.toNat 0<16777216) from fact_getD k.toNat (by omega))
   refine yJ 9 8 (U.getD k.toNat 0 - b0)<| yL 0 hy<| yB 2 24 (k<(↑V.length:Int)) (fun _=> ?_) fun _=> ?_
   ·refine yI 5 k hy<| yG 0 encI V k ?_
    have:=(show (0≤V.getD k.toNat 0∧V.getD k.toNat 0<16777216) from fact_getD k.toNat (by omega))
    refine yJ 13 8 (U.getD k.toNat 0 - b0 - V.getD k.toNat 0)<| yE 0 32 (yw (U.getD k.toNat 0 - b0 - V.getD k.toNat 0)) (fun z=>o (b (decide (z<0))))<| yB 0 32 (U.getD k.toNat 0 - b0 - V.getD k.toNat 0<0) (fun _=> ?_) fun _=> ?_
    ·exact yJ 24 7 (k+1)<| yQ 0 1 0 (yw (U.getD k.toNat 0 - b0 - V.getD k.toNat 0+16777216)) i<| yK 0 [1] (ih6 (.inr (1,(k+1),([U.getD k.toNat 0 - b0 - V.getD k.toNat 0+16777216]))) (by (refine ⟨by omega,by omega,by simp;omega,by omega,digOk_one (by omega),minus_first (U:=U) (V:=V) (k:=k) (b:=b0) (w:=V.getD k.toNat 0) 1 (by omega) (by omega) rfl (by omega),by omega,by omega⟩)) (by dsimp only;omega))
    exact yJ 16 7 (k+1)<| yK 0 [1] (ih6 (.inr (0,(k+1),([U.getD k.toNat 0 - b0 - V.getD k.toNat 0]))) (by (refine ⟨by omega,by omega,by simp;omega,by omega,digOk_one (by omega),minus_first (U:=U) (V:=V) (k:=k) (b:=b0) (w:=V.getD k.toNat 0) 0 (by omega) (by omega) rfl (by omega),by omega,by omega⟩)) (by dsimp only;omega))
   exact yn 12 32 (U.getD k.toNat 0 - b0<0)<| yJ 16 7 (k+1)<| yK 0 [1] (ih6 (.inr (0,(k+1),([U.getD k.toNat 0 - b0]))) (by (refine ⟨by omega,by omega,by simp;omega,by omega,digOk_one (by omega),minus_first (U:=U) (V:=V) (k:=k) (b:=b0) (w:=0) 0 (by omega) (by omega) (getD_ge (by omega)) (by omega),by omega,by omega⟩)) (by dsimp only;omega))
  exact yV 5 (kv (f:=388) (args:=[o (nl)]) (r:=o (nl)) (by kernel_rfl))<| yF 2 (o (nl))<| ⟨_,[],rfl,.nil rfl,digOk_nil,minus_nil (by omega) hV,by simp⟩
 obtain ⟨_,_,_,_,_,_,_,_⟩:=hI;refine yL 5 hx<| yB 2 12 (q<(↑U.length:Int)) (fun _=> ?_) fun _=> ?_
 ·refine yI 8 q hx<| yG 0 encI U q ?_
  have:=(show (0≤U.getD q.toNat 0∧U.getD q.toNat 0<16777216) from fact_getD q.toNat (by omega))
  refine yJ 9 8 (U.getD q.toNat 0 - b1)<| yL 0 hy<| yB 2 24 (q<(↑V.length:Int)) (fun _=> ?_) fun _=> ?_
  ·refine yI 5 q hy<| yG 0 encI V q ?_
   have:=(show (0≤V.getD q.toNat 0∧V.getD q.toNat 0<16777216) from fact_getD q.toNat (by omega))
   refine yJ 13 8 (U.getD q.toNat 0 - b1 - V.getD q.toNat 0)<| yE 0 32 (yw (U.getD q.toNat 0 - b1 - V.getD q.toNat 0)) (fun z=>o (b (decide (z<0))))<| yB 0 32 (U.getD q.toNat 0 - b1 - V.getD q.toNat 0<0) (fun _=> ?_) fun _=> ?_
   ·exact yQ 14 1 0 (yw (U.getD q.toNat 0 - b1 - V.getD q.toNat 0+16777216)) i<| yA 0 encI M (U.getD q.toNat 0 - b1 - V.getD q.toNat 0+16777216) 8<| yJ 9 7 (q+1)<| yK 0 [2] (ih6 (.inr (1,(q+1),(M++[U.getD q.toNat 0 - b1 - V.getD q.toNat 0+16777216]))) (by (refine ⟨by omega,by omega,by simp;omega,by omega,digOk_snoc (by assumption) (by omega),minus_next (U:=U) (V:=V) (M:=M) (k:=q) (b:=b1) (w:=V.getD q.toNat 0) 1 (by omega) (by omega) (by assumption) rfl (by omega),by omega,by omega⟩)) (by dsimp only;omega)) (hh:=(mo (renAt_pc (by kernel_rfl)) (mo_nil)))
   exact yA 6 encI M (U.getD q.toNat 0 - b1 - V.getD q.toNat 0) 8<| yJ 9 7 (q+1)<| yK 0 [2] (ih6 (.inr (0,(q+1),(M++[U.getD q.toNat 0 - b1 - V.getD q.toNat 0]))) (by (refine ⟨by omega,by omega,by simp;omega,by omega,digOk_snoc (by assumption) (by omega),minus_next (U:=U) (V:=V) (M:=M) (k:=q) (b:=b1) (w:=V.getD q.toNat 0) 0 (by omega) (by omega) (by assumption) rfl (by omega),by omega,by omega⟩)) (by dsimp only;omega)) (hh:=(mo (renAt_pc (by kernel_rfl)) (mo_nil)))
  refine yB 12 32 (U.getD q.toNat 0 - b1<0) (fun _=> ?_) fun _=> ?_
  ·exact yQ 14 1 0 (yw (U.getD q.toNat 0 - b1+16777216)) i<| yA 0 encI M (U.getD q.toNat 0 - b1+16777216) 8<| yJ 9 7 (q+1)<| yK 0 [2] (ih6 (.inr (1,(q+1),(M++[U.getD q.toNat 0 - b1+16777216]))) (by (refine ⟨by omega,by omega,by simp;omega,by omega,digOk_snoc (by assumption) (by omega),minus_next (U:=U) (V:=V) (M:=M) (k:=q) (b:=b1) (w:=0) 1 (by omega) (by omega) (by assumption) (getD_ge (by omega)) (by omega),by omega,by omega⟩)) (by dsimp only;omega)) (hh:=(mo (renAt_pc (by kernel_rfl)) (mo_nil)))
  exact yA 6 encI M (U.getD q.toNat 0 - b1) 8<| yJ 9 7 (q+1)<| yK 0 [2] (ih6 (.inr (0,(q+1),(M++[U.getD q.toNat 0 - b1]))) (by (refine ⟨by omega,by omega,by simp;omega,by omega,digOk_snoc (by assumption) (by omega),minus_next (U:=U) (V:=V) (M:=M) (k:=q) (b:=b1) (w:=0) 0 (by omega) (by omega) (by assumption) (getD_ge (by omega)) (by omega),by omega,by omega⟩)) (by dsimp only;omega)) (hh:=(mo (renAt_pc (by kernel_rfl)) (mo_nil)))
 refine yM 5 39 (r:=o (.lsl 0 0 M.length 1)) (r':=o (.p (.sl M.length (List.flatMap encI M)))) (ts:=[0]) (fzR_one (fzL_pc (fz:=false) (by kernel_rfl) (by exact flat_len (z:=1) (fun _=>rfl) _)))<| yC 0 (c388 M (PV.sl M.length (List.flatMap encI M)) IsS.sl (by omega) (by omega)) ?_
 rintro _ ⟨y32,M33,rfl,_,_,_,_⟩;exact yF 2 (o (.p y32))<| ⟨_,_,rfl,by assumption,by assumption,by rw [‹digV _=digV M›];exact minus_last (k:=q) hu hv (by omega) hV hle (by omega) (by assumption) (by assumption) (by assumption),by omega⟩
theorem c381 (s t:ByteArray) (hs:(s.size:Int)≤1000000) (ht:(t.size:Int)≤1000000):ValC Tryz.prog GG 381 [o (sv s),o (sv t)] (fun r=>∃v:Int,r=o (i v)∧((v= -1∧natV s<natV t)∨(v=1∧natV t<natV s)∨(v=0∧natV s=natV t))):=by
 refine vX (fn:=Tryz.f381)<| yC 7 (c385 s (by omega)) ?_
 rintro _ ⟨c0,rfl,_,_,_⟩;refine yC 5 (c385 t (by omega)) ?_;rintro _ ⟨c4,rfl,_,_,_⟩
 by_cases hb8:((↑c0.size:Int)≠(↑c4.size:Int))
 ·refine yE 11 13 ((bne_iff_ne.2 hb8:((↑c0.size:Int) !=(↑c4.size:Int))=true)) ob<| yB 10 18 ((↑c0.size:Int)<(↑c4.size:Int)) (fun _=> ?_) fun _=> ?_
  ·exact yF 5 (o (i (-1)))<| ⟨_,rfl,.inl ⟨rfl,cmp_size (c:=c0) (d:=c4) (by assumption) (by assumption) (by assumption) (by omega)⟩⟩
  exact yF 6 (o (i 1))<| ⟨_,rfl,.inr (.inl ⟨rfl,cmp_size (c:=c4) (d:=c0) (by assumption) (by assumption) (by assumption) (by omega)⟩)⟩
 refine yE 11 13 ((bne_eq_false_iff_eq.2 (Decidable.not_not.1 hb8):((↑c0.size:Int) !=(↑c4.size:Int))=false)) ob ?_
 rcases bt2 (Op.bytesLess c0.toList c4.toList) with hb10 | hb10
 ·refine yE 9 21 hb10 ob<| yE 9 24 (hb10:(Op.bytesLess c0.toList c4.toList)=false) (fun z=>o (b (!(z || c0.toList==c4.toList)))) ?_
  rcases bt2 (c0.toList==c4.toList) with hb12 | hb12
  ·exact yE 0 24 hb12 (fun z=>o (b (!(false || z))))<| yF 5 (o (i 1))<| ⟨_,rfl,.inr (.inl ⟨rfl,cmp_more (c:=c0) (d:=c4) (by assumption) (by assumption) (by assumption) (by assumption) (by assumption)⟩)⟩
  exact yE 0 24 hb12 (fun z=>o (b (!(false || z))))<| yF 6 (o (i 0))<| ⟨_,rfl,.inr (.inr ⟨rfl,cmp_eq (c:=c0) (d:=c4) (by assumption) (by assumption) (by assumption)⟩)⟩
 exact yE 9 21 hb10 ob<| yF 5 (o (i (-1)))<| ⟨_,rfl,.inl ⟨rfl,cmp_less (c:=c0) (d:=c4) (by assumption) (by assumption) (by assumption) (by assumption)⟩⟩
theorem c382 (s t:ByteArray) (hs:(s.size:Int)≤1000000) (ht:(t.size:Int)≤1000000) (hv:natV s<4722366482869645213696) (hle:natV t≤natV s):ValC Tryz.prog GG 382 [o (sv s),o (sv t)] (fun r=>∃c:ByteArray,r= .tup [.one (sv c),.one (b true)]∧(c.size:Int)≤12∧natV c=natV s - natV t∧E1.Canon c):=by
 refine vX (fn:=Tryz.f382)<| yC 10 (c381 s t (by omega) (by omega)) ?_
 rintro _ ⟨v0,rfl,_⟩;refine yn 2 9 (v0<0)<| yC 5 (c387 s (by omega) (by omega)) ?_
 rintro _ ⟨x3,L4,rfl,hq5,_,_,_,_⟩;refine yC 1 (c387 t (by omega) (by omega)) ?_;rintro _ ⟨x10,L11,rfl,hq12,_,_,_,_⟩;refine yC 0 (c391 _ _ _ _ hq5 hq12 (by omega) (by omega) (by omega) (by exact len_le (by assumption) (by assumption) (by omega)) (by omega)) ?_;rintro _ ⟨z17,M18,rfl,hq19,_,_,_⟩;refine yC 0 (c393 _ _ hq19 (by omega) (by omega)) ?_;rintro _ ⟨c23,rfl,_,_,_⟩;exact yF 3 (.tup [.one (.p (.vl (.string c23))),.one (b true)])<| ⟨_,rfl,by omega,by omega,by assumption⟩
end Go.Sx.E1
