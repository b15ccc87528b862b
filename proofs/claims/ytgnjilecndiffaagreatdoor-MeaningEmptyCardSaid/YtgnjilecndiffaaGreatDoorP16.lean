/- A part of the proof of MeaningEmpty. -/
import Derived.Test.YtgnjilecndiffaaGreatDoorP12
set_option linter.all false
set_option maxRecDepth 1000000
set_option maxHeartbeats 0
namespace Go.Sx.E1
open Go.Proofs
theorem pureOf_bind {P:Program} {α β:Type}:∀{s:Sem α} {f:α→Sem β} {x:α},pureOf P s=some x→pureOf P (s.bind f)=pureOf P (f x)
 | .pure a,f,x,h=>by simp [pureOf] at h;subst h;rfl
 | .program k,f,x,h=>by
  simp only [pureOf] at h;show pureOf P ((k P).bind f)=_;exact pureOf_bind h
 | .load ..,_,_,h=>by simp [pureOf] at h
 | .store ..,_,_,h=>by simp [pureOf] at h
 | .new ..,_,_,h=>by simp [pureOf] at h
 | .shape ..,_,_,h=>by simp [pureOf] at h
 | .freeze ..,_,_,h=>by simp [pureOf] at h
 | .frozen ..,_,_,h=>by simp [pureOf] at h
 | .getObj ..,_,_,h=>by simp [pureOf] at h
 | .setObj ..,_,_,h=>by simp [pureOf] at h
 | .choose ..,_,_,h=>by simp [pureOf] at h
 | .sys ..,_,_,h=>by simp [pureOf] at h
 | .mark ..,_,_,h=>by simp [pureOf] at h
 | .halt ..,_,_,h=>by simp [pureOf] at h
theorem fi2 {P:Program} {f1 f2:Field} {β:Type} {B:Field→(Option Bool×PUnit)→Sem (ForInStep (Option Bool×PUnit))} {K:Option Bool×PUnit→Sem β} {c1 c2:Bool} {x y:β}
  (h1:∀s,pureOf P (B f1 s)=some (if (!c1)=true then .done (some false,()) else .yield (none,()))) (h2:∀s,pureOf P (B f2 s)=some (if (!c2)=true then .done (some false,()) else .yield (none,())))
  (k1:pureOf P (K (some false,()))=some x) (k2:pureOf P (K (none,()))=some y):
  pureOf P ((forIn #[f1,f2] (none,()) B).bind K)=some (if c1 && c2 then y else x):=by
 rw [← Array.forIn_toList];simp only [List.forIn_cons,List.forIn_nil,Bind.bind];cases c1
 ·refine (pureOf_bind (x:=((some false,()):Option Bool×PUnit)) ?_).trans (by simpa using k1);exact (pureOf_bind (h1 _)).trans rfl
 ·cases c2
  ·refine (pureOf_bind (x:=((some false,()):Option Bool×PUnit)) ?_).trans (by simpa using k1);refine (pureOf_bind (h1 _)).trans ?_;exact (pureOf_bind (h2 _)).trans rfl
  ·refine (pureOf_bind (x:=((none,()):Option Bool×PUnit)) ?_).trans (by simpa using k2);refine (pureOf_bind (h1 _)).trans ?_;exact (pureOf_bind (h2 _)).trans rfl
theorem t2 (dn ds dn' ds':Int):pureOf Tryz.prog (Op.equalIn 10000 37 (.agg #[.int .i64 dn,.int .i64 ds]) (.agg #[.int .i64 dn',.int .i64 ds']))=some (dn==dn' && ds==ds'):=by
 unfold Op.equalIn;refine (pureOf_bind (x:=Option.getD (Tryz.prog.underlying 37) default) (by kernel_rfl)).trans ?_;obtain ⟨f1,f2,hd,g1,g2,g3,g4,g5,g6⟩:∃f1 f2:Field,Option.getD (Tryz.prog.underlying 37) default= .struct #[f1,f2]∧f1.name= "N" ∧f2.name= "Scale" ∧f1.type=3∧f2.type=3∧f1.offset=0∧f2.offset=1:=
  ⟨(match Option.getD (Tryz.prog.underlying 37) default with | .struct fs=>fs[0]! | _=>default),(match Option.getD (Tryz.prog.underlying 37) default with | .struct fs=>fs[1]! | _=>default),by kernel_rfl,by kernel_rfl,by kernel_rfl,by kernel_rfl,by kernel_rfl,by kernel_rfl,by kernel_rfl⟩
 rw [hd];dsimp only;refine (pureOf_bind (x:=Tryz.prog) rfl).trans ?_;have hs:Tryz.prog.stoodInHeld 37=false:=by kernel_rfl
 rw [hs];simp only [Bool.false_eq_true,if_false];refine (fi2 (c1:=(dn==dn')) (c2:=(ds==ds')) (x:=false) (y:=true) (fun s=> ?_) (fun s=> ?_) rfl rfl).trans ?_
 ·simp only [g1,g3,g5];rw [if_pos (by decide)];refine (pureOf_bind (x:= .int .i64 dn) (by kernel_rfl)).trans ?_;refine (pureOf_bind (x:= .int .i64 dn') (by kernel_rfl)).trans ?_;refine (pureOf_bind (x:=(dn==dn')) (by kernel_rfl)).trans ?_;split<;>rfl
 ·simp only [g2,g4,g6];rw [if_pos (by decide)];refine (pureOf_bind (x:= .int .i64 ds) (by kernel_rfl)).trans ?_;refine (pureOf_bind (x:= .int .i64 ds') (by kernel_rfl)).trans ?_;refine (pureOf_bind (x:=(ds==ds')) (by kernel_rfl)).trans ?_;split<;>rfl
 grind
theorem rule_eqDec {hp:List Ob} {x y:Operand} {dn ds dn' ds':Int}:binA Tryz.prog TT .eql 37 x y (a [i dn,i ds]) (a [i dn',i ds']) hp=some (o (b (dn==dn' && ds==ds')),hp):=by
 have h:pureOf Tryz.prog (do eqGuard .eql 37 x y (.agg #[.int .i64 dn,.int .i64 ds]) (.agg #[.int .i64 dn',.int .i64 ds']);binOp .eql 37 (.agg #[.int .i64 dn,.int .i64 ds]) (.agg #[.int .i64 dn',.int .i64 ds']))=some (.bool (dn==dn' && ds==ds')):=by
  refine (pureOf_bind (x:=()) (by kernel_rfl)).trans ?_;exact (pureOf_bind (t2 dn ds dn' ds')).trans rfl
 have e1:toVal (a [i dn,i ds])=some (.agg #[.int .i64 dn,.int .i64 ds]):=by kernel_rfl
 have e2:toVal (a [i dn',i ds'])=some (.agg #[.int .i64 dn',.int .i64 ds']):=by kernel_rfl
 simp only [binA,e1,e2,pureR,h];rfl
end Go.Sx.E1
namespace Go.Sx.E1
open Go.Proofs
theorem byteAt_lt {s:ByteArray} {j:Int} (h:j.toNat<s.size):byteAt s j=(s[j.toNat].toNat:Int):=by
 unfold byteAt
 simp_all
theorem byteAt_cutB {s:ByteArray} {l h j:Int} (h0:0≤l) (h1:0≤j) (h2:j<h - l) (h3:h≤s.size):byteAt (cutB s l h) j=byteAt s (l+j):=by
 have e1:j.toNat<(cutB s l h).size:=by simp [cutB];omega
 have e2:(l+j).toNat<s.size:=by omega
 have e3:(l+j).toNat=l.toNat+j.toNat:=by omega
 rw [byteAt_lt e1,byteAt_lt e2]
 congr 2
 refine Eq.trans (ByteArray.getElem_extract (h:=by simpa [cutB] using e1)) ?_
 simp_all
def vU (s:ByteArray):Nat→Int
 | 0=>0
 | k+1=>vU s k*256+byteAt s k
def natV (s:ByteArray):Int:=vU s s.size
def Canon (s:ByteArray):Prop:=s.size=0∨byteAt s 0≠0
theorem vU_nonneg (s:ByteArray):∀k,0≤vU s k
 | 0=>by simp [vU]
 | k+1=>by have:=vU_nonneg s k;have:=byteAt_bounds s k;simp only [vU];omega
theorem vU_lt (s:ByteArray):∀k,vU s k<256^k
 | 0=>by simp [vU]
 | k+1=>by
  have:=vU_lt s k;have:=byteAt_bounds s k;simp only [vU,Int.pow_succ];omega
theorem vU_zero {s:ByteArray}:∀{k:Nat},(∀j:Int,0≤j→j<k→byteAt s j=0)→vU s k=0
 | 0,_=>by simp [vU]
 | k+1,h=>by
  have:=vU_zero (k:=k) (fun j h1 h2=>h j h1 (by omega));have:=h k (by omega) (by omega);simp only [vU];omega
theorem vU_cut {s:ByteArray} {l:Nat} {h:Int} (h3:h≤s.size):∀{m:Nat},(m:Int)≤h - l→vU s (l+m)=vU s l*256^m+vU (cutB s l h) m
 | 0,_=>by simp [vU]
 | m+1,hm=>by
  have ih:=vU_cut (s:=s) (l:=l) h3 (m:=m) (by omega);have e:=byteAt_cutB (s:=s) (l:=l) (h:=h) (j:=m) (by omega) (by omega) (by omega) h3;rw [← Nat.add_assoc];simp only [vU,Int.pow_succ,ih,e]
  grind
theorem natV_cut {s:ByteArray} {k:Int} (h0:0≤k) (h1:k≤s.size) (hz:∀j:Int,0≤j→j<k→byteAt s j=0):natV (cutB s k s.size)=natV s:=by
 obtain ⟨n,rfl⟩:∃n:Nat,k=n:=⟨k.toNat,by omega⟩
 have hs:((cutB s n s.size).size:Int)=s.size - n:=cutB_size (by omega) (by omega) (by omega);have e:=vU_cut (s:=s) (l:=n) (h:=s.size) (by omega) (m:=(cutB s n s.size).size) (by omega);have e2:n+(cutB s n s.size).size=s.size:=by omega
 rw [e2,vU_zero hz] at e;unfold natV;rw [e];simp
theorem vU_le (s:ByteArray) {k:Nat}:∀{m:Nat},k≤m→vU s k≤vU s m
 | 0,h=>by simp_all
 | m+1,h=>by
  rcases Nat.lt_or_ge k (m+1) with h1 | h1
  ·have:=vU_le s (m:=m) (by omega:k≤m);have:=vU_nonneg s m;have:=byteAt_bounds s m;simp only [vU];omega
  grind
theorem vU_step {s:ByteArray} {k:Int} (h0:0≤k) (h1:k<s.size):vU s k.toNat*256+byteAt s k≤natV s:=by
 have:=vU_le s (k:=k.toNat+1) (m:=s.size) (by omega);simp only [vU] at this;have e:((k.toNat:Nat):Int)=k:=by omega
 rw [e] at this;exact this
theorem natV_nonneg (s:ByteArray):0≤natV s:=vU_nonneg s _
theorem natV_lt (s:ByteArray):natV s<256^s.size:=vU_lt s _
theorem canon_le {s:ByteArray} (h:Canon s) (hs:0<s.size):256^(s.size - 1)≤natV s:=by
 have hb:byteAt s 0≠0:=by rcases h with h | h;omega;exact h
 have hb2:=byteAt_bounds s 0;have:∀m:Nat,256^m≤vU s (m+1):=by
  intro m
  induction m with
  | zero=>show (1:Int)≤0*256+byteAt s ((0:Nat):Int);grind
  | succ m ih=>have:=byteAt_bounds s (m+1:Nat);rw [vU,Int.pow_succ];omega
 have h2:=this (s.size - 1);have e:s.size - 1+1=s.size:=by omega
 rw [e] at h2;exact h2
theorem pow256_le {a b:Nat} (h:a≤b):(256:Int)^a≤256^b:=by
 obtain ⟨c,rfl⟩:∃c,b=a+c:=⟨b - a,by omega⟩
 have h1:(0:Int)<256^a:=Int.pow_pos (by omega);have h2:(0:Int)<256^c:=Int.pow_pos (by omega);rw [Int.pow_add];have:=Int.mul_le_mul_of_nonneg_left (show (1:Int)≤256^c by omega) (Int.le_of_lt h1);omega
theorem canon_size {s:ByteArray} {m:Nat} (h:Canon s) (hv:natV s<256^m):s.size≤m:=by
 apply Classical.byContradiction;intro hn;have:=canon_le h (by omega);have:=pow256_le (a:=m) (b:=s.size - 1) (by omega);omega
theorem canon_big {s:ByteArray} {m:Nat} (h:Canon s) (hv:m<s.size):(256:Int)^m≤natV s:=by
 have:=canon_le h (by omega);have:=pow256_le (a:=m) (b:=s.size - 1) (by omega);omega
theorem natV_of0 {s:ByteArray} (h:s.size=0):natV s=0:=by unfold natV;rw [h];rfl
def digV:List Int→Int
 | []=>0
 | d::l=>d+16777216*digV l
def DigOk (L:List Int):Prop:=∀d∈L,0≤d∧d<16777216
theorem digV_append (L M:List Int):digV (L++M)=digV L+16777216^L.length*digV M:=by
 induction L with
 | nil=>simp [digV]
 | cons d l ih=>simp only [List.cons_append,digV,ih,List.length_cons,Int.pow_succ];grind
theorem digV_lt {L:List Int} (h:DigOk L):digV L<16777216^L.length:=by
 induction L with
 | nil=>simp [digV]
 | cons d l ih=>have:=ih (fun x hx=>h x (by simp [hx]));have:=h d (by simp);simp only [digV,List.length_cons,Int.pow_succ];omega
end Go.Sx.E1
namespace Go.Sx.E1
theorem canon_cut {s:ByteArray} {k:Int} (h0:0≤k) (h1:k≤s.size) (h:k=s.size∨byteAt s k≠0):Canon (cutB s k s.size):=by
 have hs:((cutB s k s.size).size:Int)=s.size - k:=cutB_size (by omega) (by omega) (by omega)
 rcases Int.lt_or_eq_of_le h1 with h2 | h2
 ·right;rw [byteAt_cutB h0 (by omega) (by omega) (by omega)]
  grind
 ·left;omega
end Go.Sx.E1
namespace Go.Sx.E1
open Go.Proofs
def lV (B:List Int):Int:=B.foldl (fun a b=>a*256+b) 0
def BytesOk (B:List Int):Prop:=∀b∈B,0≤b∧b<256
theorem bstr_size (B:List Int):(bstr B).size=B.length:=by simp [bstr,ByteArray.size]
theorem byteAt_bstr {B:List Int} (h:BytesOk B) {j:Nat} (hj:j<B.length):byteAt (bstr B) j=B[j]:=by
 have e1:((j:Int)).toNat<(bstr B).size:=by rw [bstr_size];simpa using hj
 rw [byteAt_lt e1];have hb:=h B[j] (by simp);have:(bstr B)[((j:Int)).toNat]=UInt8.ofNat (B[j]).toNat:=by
  show (bstr B).data[((j:Int)).toNat]=_;simp [bstr]
 rw [this];have:(UInt8.ofNat (B[j]).toNat).toNat=(B[j]).toNat:=by
  rw [UInt8.toNat_ofNat'];omega
 omega
theorem vU_bstr {B:List Int} (h:BytesOk B):∀{k:Nat},k≤B.length→vU (bstr B) k=lV (B.take k)
 | 0,_=>by simp [vU,lV]
 | k+1,hk=>by
  have ih:=vU_bstr h (k:=k) (by omega);rw [vU,ih,byteAt_bstr h (by omega),List.take_succ_eq_append_getElem (by omega)];simp only [lV,List.foldl_append,List.foldl_cons,List.foldl_nil]
theorem natV_bstr {B:List Int} (h:BytesOk B):natV (bstr B)=lV B:=by
 unfold natV;rw [bstr_size,vU_bstr h (Nat.le_refl _),List.take_length]
theorem lV_snoc3 (B:List Int) (a b c:Int):lV (B++[a,b,c])=((lV B*256+a)*256+b)*256+c:=by simp [lV,List.foldl_append]
theorem wrapU8 (n:Int):IntKind.u8.wrap n=n%256:=by
 rfl
theorem fdivE (n:Int) (m:Int) (h:0≤m):n.fdiv m=n /m:=Int.fdiv_eq_ediv_of_nonneg n h
theorem bytes_mod {x:Int}:0≤x%256∧x%256<256:=by omega
theorem of8 {n:Int} (h0:0≤n) (h1:n<9223372036854775808):natV (bstr [IntKind.u8.wrap (n.fdiv 72057594037927936),IntKind.u8.wrap (n.fdiv 281474976710656),IntKind.u8.wrap (n.fdiv 1099511627776),IntKind.u8.wrap (n.fdiv 4294967296),IntKind.u8.wrap (n.fdiv 16777216),IntKind.u8.wrap (n.fdiv 65536),IntKind.u8.wrap (n.fdiv 256),IntKind.u8.wrap (n.fdiv 1)])=n:=by
 rw [natV_bstr]
 ·simp only [wrapU8];rw [fdivE _ _ (by omega),fdivE _ _ (by omega),fdivE _ _ (by omega),fdivE _ _ (by omega),fdivE _ _ (by omega),fdivE _ _ (by omega),fdivE _ _ (by omega),fdivE _ _ (by omega)];simp only [lV,List.foldl_cons,List.foldl_nil]
  grind
 ·intro b hb;simp only [wrapU8,List.mem_cons,List.mem_nil_iff,or_false] at hb;omega
end Go.Sx.E1
namespace Go.Sx.E1
open Go.Proofs
def seg (c:ByteArray) (s k:Nat):Int:=vU c k - vU c s*256^(k - s)
theorem seg_self (c:ByteArray) (s:Nat):seg c s s=0:=by simp [seg]
theorem seg_succ (c:ByteArray) {s k:Nat} (h:s≤k):seg c s (k+1)=seg c s k*256+byteAt c k:=by
 have e:k+1 - s=(k - s)+1:=by omega
 unfold seg;rw [e,vU,Int.pow_succ]
 grind
theorem seg_bounds (c:ByteArray) (s:Nat):∀m:Nat,0≤seg c s (s+m)∧seg c s (s+m)<256^m
 | 0=>by simp [seg_self]
 | m+1=>by
  have ih:=seg_bounds c s m;have hb:=byteAt_bounds c (s+m:Nat);rw [← Nat.add_assoc,seg_succ c (by omega),Int.pow_succ];omega
theorem seg_next (c:ByteArray) {a k d:Int} (h0:0≤a) (h1:a≤k) (h:d=seg c a.toNat k.toNat):d*256+byteAt c k=seg c a.toNat (k+1).toNat:=by
 have e:(k+1).toNat=k.toNat+1:=by omega
 have e2:((k.toNat:Nat):Int)=k:=by omega
 rw [e,seg_succ c (by omega),e2,h]
theorem seg_lt (c:ByteArray) {a k:Int} (h0:0≤a) (h1:a≤k) (h2:k≤a+3):0≤seg c a.toNat k.toNat∧seg c a.toNat k.toNat<16777216:=by
 have e:k.toNat=a.toNat+(k - a).toNat:=by omega
 have:=seg_bounds c a.toNat (k - a).toNat;rw [← e] at this;have h3:=pow256_le (a:=(k - a).toNat) (b:=3) (by omega);omega
theorem of_step (c:ByteArray) {e d a:Int} (h0:0<e) (ha:a=if 0>e - 3 then 0 else e - 3) (h:d=seg c a.toNat e.toNat):vU c e.toNat=vU c (e - 3).toNat*16777216+d:=by
 subst h
 by_cases h3:0>e - 3
 ·have e1:a=0:=by rw [if_pos h3] at ha;exact ha
  have e2:(e - 3).toNat=0:=by omega
  subst e1;simp [seg,e2,vU]
 ·have e1:a=e - 3:=by rw [if_neg h3] at ha;exact ha
  subst e1;have e2:e.toNat - (e - 3).toNat=3:=by omega
  simp only [seg,e2];omega
theorem of_first {c s:ByteArray} {e d a k:Int} (hk:k=e) (hc:natV c=natV s) (he:e=c.size) (h0:0<e) (ha:a=if 0>e - 3 then 0 else e - 3) (h:d=seg c a.toNat k.toNat):natV s=vU c (e - 3).toNat*16777216^[d].length+digV [d]:=by
 rw [hk] at h;have:=of_step c h0 ha h;rw [← hc];unfold natV;have e2:e.toNat=c.size:=by omega
 rw [e2] at this;simp [digV];omega
theorem of_next {c s:ByteArray} {q d a k:Int} {L:List Int} (hk:k=q) (hn:natV s=vU c q.toNat*16777216^L.length+digV L) (h0:0<q) (ha:a=if 0>q - 3 then 0 else q - 3) (h:d=seg c a.toNat k.toNat):natV s=vU c (q - 3).toNat*16777216^(L++[d]).length+digV (L++[d]):=by
 rw [hk] at h;have:=of_step c h0 ha h;rw [digV_append,hn,this];simp only [List.length_append,List.length_cons,List.length_nil,Int.pow_succ,digV,Nat.zero_add]
 grind
theorem digOk_snoc {L:List Int} {d:Int} (h:DigOk L) (h1:0≤d∧d<16777216):DigOk (L++[d]):=by
 intro x hx
 rcases List.mem_append.1 hx with h2 | h2
 ·exact h x h2
 simp_all
theorem digOk_one {d:Int} (h1:0≤d∧d<16777216):DigOk [d]:=digOk_snoc (L:=[]) (fun _ h=>by simp at h) h1
theorem digOk_nil:DigOk []:=fun _ h=>by simp at h
theorem of_last {c s:ByteArray} {q:Int} {L:List Int} (hn:natV s=vU c q.toNat*16777216^L.length+digV L) (h0:¬q>0):digV L=natV s:=by
 have e:q.toNat=0:=by omega
 rw [hn,e];simp [vU]
theorem pow24 (n:Nat):(16777216:Int)^n=256^(3*n):=by
 rw [Int.pow_mul];congr 1
theorem of_top {c s:ByteArray} {q:Int} {L:List Int} (hc:natV c=natV s) (h:Canon c) (hq:q=c.size - 3*L.length) (h1:1≤L.length) (h2: -2≤q) (h0:¬q>0) (hl:digV L=natV s):L.length=0∨16777216^(L.length - 1)≤digV L:=by
 right;rw [hl,← hc,pow24];have:=canon_le h (by omega);have:=pow256_le (a:=3*(L.length - 1)) (b:=c.size - 1) (by omega);omega
theorem size9 {c s:ByteArray} (h:Canon c) (hc:natV c=natV s) (hv:natV s<4722366482869645213696):(c.size:Int)≤9:=by
 have:=canon_size (m:=9) h (by omega);omega
end Go.Sx.E1
namespace Go.Sx.E1
open Go.Proofs
theorem getD_ge {V:List Int} {n:Nat} (h:V.length≤n):(0:Int)=V.getD n 0:=by
 simp_all
theorem dig_take (L:List Int) (k:Nat):digV (L.take (k+1))=digV (L.take k)+16777216^k*L.getD k 0:=by
 rcases Nat.lt_or_ge k L.length with h | h
 ·rw [List.take_succ_eq_append_getElem h,digV_append,List.length_take,Nat.min_eq_left (by omega)];simp [digV,List.getD,h]
 ·rw [← getD_ge h,List.take_of_length_le (by omega),List.take_of_length_le h];simp
theorem minus_next {U V M:List Int} {k b e w:Int} (b':Int) (h0:0≤k) (hl:(M.length:Int)=k) (hM:digV M=digV (U.take k.toNat) - digV (V.take k.toNat)+b*16777216^k.toNat) (hw:w=V.getD k.toNat 0) (he:e=U.getD k.toNat 0 - b - w+b'*16777216):
  digV (M++[e])=digV (U.take (k+1).toNat) - digV (V.take (k+1).toNat)+b'*16777216^(k+1).toNat:=by
 have e1:(k+1).toNat=k.toNat+1:=by omega
 have e2:M.length=k.toNat:=by omega
 rw [e1,dig_take,dig_take,digV_append,e2,hM,he,hw,Int.pow_succ];simp only [digV]
 grind
theorem minus_last {U V M:List Int} {k b:Int} (hu:DigOk U) (hv:DigOk V) (hk:k=U.length) (hV:V.length≤U.length) (hle:digV V≤digV U) (hl:(M.length:Int)=k) (hb:b=0∨b=1) (hd:DigOk M) (hM:digV M=digV (U.take k.toNat) - digV (V.take k.toNat)+b*16777216^k.toNat):digV M=digV U - digV V:=by
 have e:k.toNat=U.length:=by omega
 rw [e,List.take_of_length_le (Nat.le_refl _),List.take_of_length_le hV] at hM;have h1:=digV_lt hd
 grind
theorem fact_getD {L:List Int} (n:Nat) (h:DigOk L):0≤L.getD n 0∧L.getD n 0<16777216:=by
 rcases Nat.lt_or_ge n L.length with h1 | h1
 ·have:L.getD n 0=L[n]:=by simp [h1]
  rw [this];exact h _ (by simp)
 simp_all
theorem getD_bounds {L:List Int} (h:DigOk L) (n:Nat):0≤L.getD n 0∧L.getD n 0<16777216:=fact_getD n h
theorem minus_first {U V:List Int} {k b e w:Int} (b':Int) (hk:k=0) (hb:b=0) (hw:w=V.getD k.toNat 0) (he:e=U.getD k.toNat 0 - b - w+b'*16777216):
  digV [e]=digV (U.take (k+1).toNat) - digV (V.take (k+1).toNat)+b'*16777216^(k+1).toNat:=
 minus_next (U:=U) (V:=V) (M:=[]) (k:=k) (b:=b) (e:=e) (w:=w) b' (by omega) (by simp;omega) (by subst hk hb;simp [digV]) hw he
theorem pow24_le {a b:Nat} (h:a≤b):(16777216:Int)^a≤16777216^b:=by
 rw [pow24,pow24];exact pow256_le (by omega)
theorem len_le {U V:List Int} (hU:DigOk U) (hV:V.length=0∨16777216^(V.length - 1)≤digV V) (h:digV V≤digV U):V.length≤U.length:=by
 rcases hV with h1 | h1
 ·omega
 ·have:=digV_lt hU;apply Classical.byContradiction;intro hn;have:=pow24_le (a:=U.length) (b:=V.length - 1) (by omega);omega
end Go.Sx.E1
namespace Go.Sx.E1
open Go.Proofs
theorem toList_eq (b:ByteArray):b.toList=b.data.toList:=by
 unfold ByteArray.toList;rw [loop_eq b _ 0 [] rfl];simp
theorem toList_len (b:ByteArray):b.toList.length=b.size:=by rw [toList_eq];rfl
def uV:List UInt8→Int
 | []=>0
 | a::l=>(a.toNat:Int)*256^l.length+uV l
theorem uV_bounds:∀l:List UInt8,0≤uV l∧uV l<256^l.length
 | []=>by simp [uV]
 | a::l=>by
  have ih:=uV_bounds l;have ha:=a.toNat_lt;simp only [uV,List.length_cons,Int.pow_succ];have h1:(a.toNat:Int)*256^l.length≤255*256^l.length:=Int.mul_le_mul_of_nonneg_right (by omega) (by omega)
  grind
theorem uV_snoc (l:List UInt8) (a:UInt8):uV (l++[a])=uV l*256+a.toNat:=by
 induction l with
 | nil=>simp [uV]
 | cons b l ih=>simp only [List.cons_append,uV,ih,List.length_append,List.length_cons,List.length_nil,Int.pow_succ,Nat.zero_add];grind
theorem vU_uV (s:ByteArray):∀k:Nat,k≤s.size→vU s k=uV (s.toList.take k)
 | 0,_=>by simp [vU,uV]
 | k+1,h=>by
  have hl:k<s.toList.length:=by rw [toList_len];omega
  rw [vU,vU_uV s k (by omega),List.take_succ_eq_append_getElem hl,uV_snoc]
  congr 1
  have e1:((k:Int)).toNat<s.size:=by omega
  rw [byteAt_lt e1]
  congr 2
  simp only [toList_eq];rfl
theorem natV_uV (s:ByteArray):natV s=uV s.toList:=by
 unfold natV;rw [vU_uV s _ (Nat.le_refl _),List.take_of_length_le (by rw [toList_len];omega)]
theorem less_iff:∀{x y:List UInt8},x.length=y.length→(Op.bytesLess x y=true↔uV x<uV y)
 | [],[],_=>by simp [Op.bytesLess,uV]
 | a::x,b::y,h=>by
  have hl:x.length=y.length:=by simpa using h
  have ih:=less_iff hl;have hx:=uV_bounds x;have hy:=uV_bounds y;simp only [Op.bytesLess,uV,Bool.or_eq_true,Bool.and_eq_true,decide_eq_true_eq,beq_iff_eq,ih,hl];rw [hl] at hx;have hp:(0:Int)<256^y.length:=Int.pow_pos (by omega)
  rcases Nat.lt_trichotomy a.toNat b.toNat with h1 | h1 | h1
  ·have:a<b:=h1;have h2:=Int.mul_le_mul_of_nonneg_right (show (a.toNat:Int)+1≤b.toNat by omega) (Int.le_of_lt hp)
   grind
  ·have e:a=b:=UInt8.toNat_inj.1 h1
   simp_all
  ·have h2:=Int.mul_le_mul_of_nonneg_right (show (b.toNat:Int)+1≤a.toNat by omega) (Int.le_of_lt hp);rw [Int.add_mul] at h2;constructor
   ·rintro (h | ⟨h,_⟩)
    ·have:a.toNat<b.toNat:=h;omega
    simp_all
   omega
 | [],_::_,h=>by simp at h
 | _::_,[],h=>by simp at h
theorem cmp_less {c d s t:ByteArray} (hs:¬(c.size:Int)≠d.size) (h1:natV c=natV s) (h2:natV d=natV t) (h:Op.bytesLess c.toList d.toList=true):natV s<natV t:=by
 rw [← h1,← h2,natV_uV,natV_uV];exact (less_iff (by rw [toList_len,toList_len];omega)).1 h
theorem cmp_eq {c d s t:ByteArray} (h1:natV c=natV s) (h2:natV d=natV t) (h:(c.toList==d.toList)=true):natV s=natV t:=by
 rw [← h1,← h2,natV_uV,natV_uV,beq_iff_eq.1 h]
theorem uV_inj:∀{x y:List UInt8},x.length=y.length→uV x=uV y→x=y
 | [],[],_,_=>rfl
 | a::x,b::y,h,he=>by
  have hl:x.length=y.length:=by simpa using h
  have hx:=uV_bounds x;have hy:=uV_bounds y;rw [hl] at hx;have hp:(0:Int)<256^y.length:=Int.pow_pos (by omega);simp only [uV,hl] at he
  rcases Nat.lt_trichotomy a.toNat b.toNat with h1 | h1 | h1
  ·have h2:=Int.mul_le_mul_of_nonneg_right (show (a.toNat:Int)+1≤b.toNat by omega) (Int.le_of_lt hp)
   grind
  ·have e:a=b:=UInt8.toNat_inj.1 h1;subst e;rw [uV_inj hl (by omega)]
  ·have h2:=Int.mul_le_mul_of_nonneg_right (show (b.toNat:Int)+1≤a.toNat by omega) (Int.le_of_lt hp)
   grind
 | [],_::_,h,_=>by simp at h
 | _::_,[],h,_=>by simp at h
theorem cmp_more {c d s t:ByteArray} (hs:¬(c.size:Int)≠d.size) (h1:natV c=natV s) (h2:natV d=natV t) (h:Op.bytesLess c.toList d.toList=false) (he:(c.toList==d.toList)=false):natV t<natV s:=by
 rw [← h1,← h2,natV_uV,natV_uV];have hl:c.toList.length=d.toList.length:=by rw [toList_len,toList_len];omega
 have n1:¬uV c.toList<uV d.toList:=fun hh=>by rw [(less_iff hl).2 hh] at h;simp at h
 have n2:uV c.toList≠uV d.toList:=fun hh=>by rw [beq_iff_eq.2 (uV_inj hl hh)] at he;simp at he
 omega
theorem cmp_size {c d s t:ByteArray} (hd:Canon d) (h1:natV c=natV s) (h2:natV d=natV t) (h:(c.size:Int)<d.size):natV s<natV t:=by
 have:=natV_lt c;have:=canon_big (s:=d) (m:=c.size) hd (by omega);omega
end Go.Sx.E1
namespace Go.Sx.E1
open Go.Proofs
variable [MaxL]
def Nums (L:List Int) (x:PV) (K:Int):Prop:=IsS encI L x∧0≤K∧K≤L.length∧(L.length:Int)<4611686018427387904
theorem c21_w (L:List Int) (x:PV) (K n:Int) (hx:IsS encI L x) (h1:0≤K) (h2:K≤L.length) (h3:(L.length:Int)<4611686018427387904) (h4:1≤n) (h5:n<4611686018427387904):RefC Tryz.prog GG 21 [o (.ref 0 0),o (i n)] [.p x,i K] (fun r cs=>∃v K':Int,r=o (i v)∧cs=[.p x,i K']∧0≤v∧v<n∧0≤K'∧K'≤L.length):=by
 refine vR (fn:=Tryz.f21)<| yD 6 [] [] (List.range 14)<| yL 8 hx<| yB 2 15 (K≥(↑L.length:Int)) (fun _=> ?_) fun _=> ?_
 ·exact yFR 9 (o (i 0)) [.p x,i K] (r':=o (i 0)) (ts:=[])<| ⟨_,_,rfl,rfl,by omega,by omega,by omega,by omega⟩
 refine yn 4 18 (n<1)<| yQ 14 0 1 (yw (K+1)) i<| yD 0 [] [] (List.range 18)<| yJ 9 34 (K+1 - 1)<| yI 0 (K+1 - 1) hx<| yG 0 encI L (K+1 - 1)<| yO 1 (binA Tryz.prog TT .rem 3 (.tmp 36) (.tmp 37) (o (i (L.getD (K+1 - 1).toNat 0))) (o (i n))) (binA_rem (by omega)) ?_
 have:=tmod_bounds (L.getD (K+1 - 1).toNat 0) (b:=n) (by omega);refine yJ 3 40 ((L.getD (K+1 - 1).toNat 0).tmod n+n)<| yO 0 (binA Tryz.prog TT .rem 3 (.tmp 40) (.tmp 41) (o (i ((L.getD (K+1 - 1).toNat 0).tmod n+n))) (o (i n))) (binA_rem (by omega)) ?_
 have:=Int.tmod_eq_emod_of_nonneg (a:=((L.getD (K+1 - 1).toNat 0).tmod n+n)) (b:=n) (by omega);have:=tmod_bounds ((L.getD (K+1 - 1).toNat 0).tmod n+n) (b:=n) (by omega);have:=tmod_nonneg' (a:=((L.getD (K+1 - 1).toNat 0).tmod n+n)) (b:=n) (by omega) (by omega);exact yFR 2 (o (i (((L.getD (K+1 - 1).toNat 0).tmod n+n).tmod n))) [.p x,i (K+1)] (r':=o (i (((L.getD (K+1 - 1).toNat 0).tmod n+n).tmod n))) (ts:=[])<| ⟨_,_,rfl,rfl,by omega,by omega,by omega,by omega⟩
theorem c21 (L:List Int) (x:PV) (K n:Int) (h:Nums L x K) (h4:1≤n) (h5:n<4611686018427387904):RefC Tryz.prog GG 21 [o (.ref 0 0),o (i n)] [.p x,i K] (fun r cs=>∃v K':Int,r=o (i v)∧cs=[.p x,i K']∧0≤v∧v<n∧Nums L x K'):=
 (c21_w L x K n h.1 h.2.1 h.2.2.1 h.2.2.2 h4 h5).mono (fun r cs ⟨v,K',e1,e2,e3,e4,e5,e6⟩=>⟨v,K',e1,e2,e3,e4,h.1,e5,e6,h.2.2.2⟩)
def wordsL:List ByteArray:=[⟨#[]⟩,⟨#[97]⟩,⟨#[98]⟩,⟨#[97,98]⟩,⟨#[105,116,39,115]⟩,⟨#[50,48,50,52,45,48,49,45,51,49]⟩,⟨#[49,50]⟩,⟨#[45,51,46,53]⟩,⟨#[65,124,66,44,91,99,93,59]⟩,⟨#[78,111,114,116,104,32,55]⟩,⟨#[120,32,121]⟩,⟨#[39,39]⟩,⟨#[97,98,99,97,98,99]⟩,⟨#[48]⟩,⟨#[55,46,50,53]⟩]
def textB (s:ByteArray):Bool:=decide (s.size≤200) && s.data.toList.all fun x=>decide (32≤x.toNat) && decide (x.toNat≤126)
theorem textOk_of {s:ByteArray} (h:textB s=true):TextOk s:=by
 simp only [textB,Bool.and_eq_true,decide_eq_true_eq,List.all_eq_true] at h;refine ⟨by omega,fun j h0 h1=> ?_⟩;have e1:j.toNat<s.size:=by omega
 rw [byteAt_lt e1];have:=h.2 s[j.toNat] (by show s.data[j.toNat]∈s.data.toList;simp);omega
theorem words_ok (k:Nat):TextOk (wordsL.getD k ⟨#[]⟩):=by
 have h:∀s∈wordsL,textB s=true:=by decide
 rcases Nat.lt_or_ge k wordsL.length with hk | hk
 ·have:wordsL.getD k ⟨#[]⟩=wordsL[k]:=by simp [hk]
  rw [this];exact textOk_of (h _ (by simp))
 have:wordsL.getD k ⟨#[]⟩=⟨#[]⟩:=by simp [List.getD,List.getElem?_eq_none hk]
 rw [this];exact textOk_of (by decide)
theorem c144:ValC Tryz.prog GG 144 [] (fun r=>∃(x:PV) (W:List ByteArray),r=o (.p x)∧IsS encS W x∧W.length=15∧W=wordsL):=
 (kv (r:=o (.p (.sl 15 (wordsL.flatMap encS)))) (by kernel_rfl)).mono (fun r h=>⟨_,wordsL,h,.sl,rfl,rfl⟩)
def ChB (B:List Int):Prop:=∀b∈B,32≤b∧b≤126
theorem chB_snoc {B:List Int} {d:Int} (h:ChB B) (h1:32≤d∧d≤126):ChB (B++[d]):=by
 intro x hx
 rcases List.mem_append.1 hx with h2 | h2
 ·exact h x h2
 simp only [List.mem_cons,List.mem_nil_iff,or_false] at h2;subst h2;exact h1
theorem chB_text {B:List Int} (h:ChB B) (hl:(B.length:Int)≤200):TextOk (bstr B):=by
 refine ⟨by rw [bstr_size];exact hl,fun j h0 h1=> ?_⟩;rw [bstr_size] at h1;obtain ⟨m,rfl⟩:∃m:Nat,j=m:=⟨j.toNat,by omega⟩
 have hb:BytesOk B:=fun b hb=>by have:=h b hb;omega
 rw [byteAt_bstr hb (by omega)];exact h _ (by simp)
theorem c74 (L:List Int) (x:PV) (K:Int) (h:Nums L x K):RefC Tryz.prog GG 74 [o (.ref 0 0)] [.p x,i K] (fun r cs=>∃(s:ByteArray) (K':Int),r=o (sv s)∧cs=[.p x,i K']∧TextOk s∧Nums L x K'):=by
 refine vR (fn:=Tryz.f74)<| yR 7 0 (c21 _ _ _ 18 h (by decide) (by decide)) ?_
 rintro _ _ ⟨v0,K1,rfl,rfl,_,_,hq4⟩;refine yC 4 c144 ?_;rintro _ ⟨x5,W6,rfl,hq7,_,_⟩;refine yL 7 hq7<| yB 2 14 (v0<(↑W6.length:Int)) (fun _=> ?_) fun _=> ?_
 ·exact yI 5 v0 hq7<| yG 0 encS W6 v0<| yFR 2 (o (.p (.vl (.string (W6.getD v0.toNat default))))) [.p x,i K1] (r':=o (.p (.vl (.string (W6.getD v0.toNat default))))) (ts:=[])<| ⟨_,_,rfl,rfl,by subst_vars;exact words_ok _,by assumption⟩
 refine yR 5 0 (c21 _ _ _ 9 hq4 (by decide) (by decide)) ?_;rintro _ _ ⟨v11,K12,rfl,rfl,_,_,hq15⟩
 by_cases hb16:(v0=17)
 ·refine ye 8 22 v0 17<| yR 3 0 (c21 _ _ _ 11 hq15 (by decide) (by decide)) ?_
  rintro _ _ ⟨v17,K18,rfl,rfl,_,_,_⟩;refine yJ 14 5 (190+v17)<| yP 0 [] 40 (pT Tryz.f74 [1,1,1,1,1,1,1,0,1,0,0]) (α:=(Int×Int) ⊕ (Int×Int×List Int)) (fun ix_=>match ix_ with | (.inl (j,Ka))=>j=0∧Nums L x Ka | (.inr (q,Kb,B))=>0≤q∧q≤((190+v17))∧(B.length:Int)=q∧ChB B∧Nums L x Kb) (fun ix_=>match ix_ with | (.inl (j,Ka))=>(((190+v17)) - j).toNat | (.inr (q,Kb,B))=>(((190+v17)) - q).toNat) (fun ix_=>match ix_ with | (.inl (j,Ka))=>([(0,o (.ref 0 0)),(5,o (i (190+v17))),(6,o (nl)),(7,o (i j))],[.cells [.p x,i Ka] false]) | (.inr (q,Kb,B))=>([(0,o (.ref 0 0)),(5,o (i (190+v17))),(6,o (.lsl 1 0 B.length 1)),(7,o (i q))],[.cells [.p x,i Kb] false,.cells (pc (List.flatMap encB B)) false])) (.inl (0,K18)) (by exact ⟨by omega,by assumption⟩) ?_
  rintro (⟨j,Ka⟩ | ⟨q,Kb,B⟩) hI ih10 J
  try dsimp only at hI ih10 ⊢
  ·obtain ⟨_,hq23⟩:=hI;refine yp 7 28 (j<190+v17)<| yR 7 0 (c21 _ _ _ 95 hq23 (by decide) (by decide)) ?_
   rintro _ _ ⟨v25,K26,rfl,rfl,_,_,_⟩;exact yQ 13 2 0 (yw (32+v25)) (fun z=> .p (.vl (.int .u8 (IntKind.u8.wrap z))))<| yQ 0 2 0 (wrap_u8 (n:=(32+v25)) (by omega) (by omega)) (fun z=> .p (.vl (.int .u8 z)))<| yJ 0 7 (j+1)<| yK 0 [2] (ih10 (.inr ((j+1),K26,([32+v25]))) (by exact ⟨by omega,by omega,by simp;omega,chB_snoc (B:=[]) (fun _ h=>by simp at h) (by omega),by assumption⟩) (by (dsimp only;omega)))
  obtain ⟨_,_,_,_,hq34⟩:=hI;refine yB 7 28 (q<190+v17) (fun _=> ?_) fun _=> ?_
  ·refine yR 7 0 (c21 _ _ _ 95 hq34 (by decide) (by decide)) ?_;rintro _ _ ⟨v36,K37,rfl,rfl,_,_,_⟩;exact yQ 3 2 0 (yw (32+v36)) (fun z=> .p (.vl (.int .u8 (IntKind.u8.wrap z))))<| yQ 0 2 0 (wrap_u8 (n:=(32+v36)) (by omega) (by omega)) (fun z=> .p (.vl (.int .u8 z)))<| yA 0 encB B (32+v36) 1<| yJ 9 7 (q+1)<| yK 0 [3] (ih10 (.inr ((q+1),K37,(B++[32+v36]))) (by exact ⟨by omega,by omega,by simp;omega,chB_snoc (by assumption) (by omega),by assumption⟩) (by (dsimp only;omega))) (hh:=(mo (by kernel_rfl) (mo (renAt_pc (by kernel_rfl)) (mo_nil))))
  exact yO 5 (convQ Tryz.prog TT 161 9 (o (.lsl 1 0 B.length 1))) (rule_bytesStr (e:=5) (fz:=false) (by kernel_rfl) (by kernel_rfl) (by kernel_rfl) (by kernel_rfl))<| yFR 2 (o (.p (.vl (.string (bstr B))))) [.p x,i Kb] (r':=o (.p (.vl (.string (bstr B))))) (ts:=[])<| ⟨_,_,rfl,rfl,chB_text (by assumption) (by omega),by assumption⟩
 refine yu 8 22 v0 17<| yP 13 [] 40 (pT Tryz.f74 [1,1,1,1,1,1,1,0,1,0,0]) (α:=(Int×Int) ⊕ (Int×Int×List Int)) (fun ix_=>match ix_ with | (.inl (j,Ka))=>j=0∧Nums L x Ka | (.inr (q,Kb,B))=>0≤q∧q≤(v11)∧(B.length:Int)=q∧ChB B∧Nums L x Kb) (fun ix_=>match ix_ with | (.inl (j,Ka))=>((v11) - j).toNat | (.inr (q,Kb,B))=>((v11) - q).toNat) (fun ix_=>match ix_ with | (.inl (j,Ka))=>([(0,o (.ref 0 0)),(5,o (i v11)),(6,o (nl)),(7,o (i j))],[.cells [.p x,i Ka] false]) | (.inr (q,Kb,B))=>([(0,o (.ref 0 0)),(5,o (i v11)),(6,o (.lsl 1 0 B.length 1)),(7,o (i q))],[.cells [.p x,i Kb] false,.cells (pc (List.flatMap encB B)) false])) (.inl (0,K12)) (by exact ⟨by omega,by assumption⟩) ?_
 rintro (⟨j,Ka⟩ | ⟨q,Kb,B⟩) hI ih10 J
 try dsimp only at hI ih10 ⊢
 ·obtain ⟨_,hq43⟩:=hI;refine yB 7 28 (j<v11) (fun _=> ?_) fun _=> ?_
  ·refine yR 7 0 (c21 _ _ _ 95 hq43 (by decide) (by decide)) ?_;rintro _ _ ⟨v45,K46,rfl,rfl,_,_,_⟩;exact yQ 13 2 0 (yw (32+v45)) (fun z=> .p (.vl (.int .u8 (IntKind.u8.wrap z))))<| yQ 0 2 0 (wrap_u8 (n:=(32+v45)) (by omega) (by omega)) (fun z=> .p (.vl (.int .u8 z)))<| yJ 0 7 (j+1)<| yK 0 [2] (ih10 (.inr ((j+1),K46,([32+v45]))) (by exact ⟨by omega,by omega,by simp;omega,chB_snoc (B:=[]) (fun _ h=>by simp at h) (by omega),by assumption⟩) (by (dsimp only;omega)))
  exact yFR 8 (o (.p (.vl (vs [])))) [.p x,i Ka] (r':=o (.p (.vl (vs [])))) (ts:=[])<| ⟨_,_,rfl,rfl,textOk_of (by decide),by assumption⟩
 obtain ⟨_,_,_,_,hq54⟩:=hI;refine yB 7 28 (q<v11) (fun _=> ?_) fun _=> ?_
 ·refine yR 7 0 (c21 _ _ _ 95 hq54 (by decide) (by decide)) ?_;rintro _ _ ⟨v56,K57,rfl,rfl,_,_,_⟩;exact yQ 3 2 0 (yw (32+v56)) (fun z=> .p (.vl (.int .u8 (IntKind.u8.wrap z))))<| yQ 0 2 0 (wrap_u8 (n:=(32+v56)) (by omega) (by omega)) (fun z=> .p (.vl (.int .u8 z)))<| yA 0 encB B (32+v56) 1<| yJ 9 7 (q+1)<| yK 0 [3] (ih10 (.inr ((q+1),K57,(B++[32+v56]))) (by exact ⟨by omega,by omega,by simp;omega,chB_snoc (by assumption) (by omega),by assumption⟩) (by (dsimp only;omega))) (hh:=(mo (by kernel_rfl) (mo (renAt_pc (by kernel_rfl)) (mo_nil))))
 exact yO 5 (convQ Tryz.prog TT 161 9 (o (.lsl 1 0 B.length 1))) (rule_bytesStr (e:=5) (fz:=false) (by kernel_rfl) (by kernel_rfl) (by kernel_rfl) (by kernel_rfl))<| yFR 2 (o (.p (.vl (.string (bstr B))))) [.p x,i Kb] (r':=o (.p (.vl (.string (bstr B))))) (ts:=[])<| ⟨_,_,rfl,rfl,chB_text (by assumption) (by omega),by assumption⟩
theorem c385 (s:ByteArray) (hs:(s.size:Int)≤1000000):ValC Tryz.prog GG 385 [o (sv s)] (fun r=>∃c:ByteArray,r=o (sv c)∧(c.size:Int)≤s.size∧natV c=natV s∧E1.Canon c):=by
 refine vX (fn:=Tryz.f385)<| yP 11 [] 19 (pT Tryz.f385 [1,1,0,0,0]) (α:=(Int)) (fun k=>0≤k∧k≤s.size∧(∀j:Int,0≤j→j<k→byteAt s j=0)) (fun k=>(s.size - k).toNat) (fun k=>([(0,o (.p (.vl (.string s)))),(3,o (i k))],[])) 0 (by exact ⟨by omega,by omega,fun j h1 h2=>by omega⟩) ?_
 rintro k hI ih4 J
 try dsimp only at hI ih4 ⊢
 obtain ⟨_,_,hq2⟩:=hI;refine yB 8 8 (k<(↑s.size:Int)) (fun _=> ?_) fun _=> ?_
 ·refine yY 2 s k ?_;have:=byteAt_bounds s k
  by_cases hb5:(byteAt s k=0)
  ·exact ye 3 13 (byteAt s k) 0<| yJ 10 3 (k+1)<| yK 0 [] (ih4 (k+1) (by (refine ⟨by omega,by omega,fun j h1 h2=> ?_⟩;rcases Int.lt_or_eq_of_le (Int.le_of_lt_add_one h2) with h3 | h3;(exact hq2 j h1 h3);(subst h3;omega))) (by omega))
  exact yu 3 13 (byteAt s k) 0<| yO 6 (sliceQ Tryz.prog TT 210 (o (.p (.vl (.string s)))) (some (o (i k))) none none) (rule_sliceLo (by kernel_rfl) (by omega) (by omega))<| yF 2 (o (.p (.vl (.string (cutB s k (↑s.size:Int))))))<| ⟨_,rfl,by first | (rw [cutB_size (by omega) (by omega) (by omega)];omega),natV_cut (by omega) (by omega) (by assumption),by first | exact canon_cut (by omega) (by omega) (by first | omega | (right;omega) | (left;omega))⟩
 exact yO 12 (sliceQ Tryz.prog TT 210 (o (.p (.vl (.string s)))) (some (o (i k))) none none) (rule_sliceLo (by kernel_rfl) (by omega) (by omega))<| yF 2 (o (.p (.vl (.string (cutB s k (↑s.size:Int))))))<| ⟨_,rfl,by first | (rw [cutB_size (by omega) (by omega) (by omega)];omega),natV_cut (by omega) (by omega) (by assumption),by first | exact canon_cut (by omega) (by omega) (by first | omega | (right;omega) | (left;omega))⟩
theorem c387 (s:ByteArray) (hs:(s.size:Int)≤1000000) (hv:natV s<4722366482869645213696):ValC Tryz.prog GG 387 [o (sv s)] (fun r=>∃(x:PV) (L:List Int),r=o (.p x)∧IsS encI L x∧DigOk L∧digV L=natV s∧L.length≤3∧(L.length=0∨16777216^(L.length - 1)≤digV L)):=by
 refine vX (fn:=Tryz.f387)<| yC 7 (c385 s (by omega)) ?_
 rintro _ ⟨c0,rfl,_,hq2,hq3⟩;refine yP 15 [] 35 (pT Tryz.f387 [1,1,1,0,1,0,0]) (α:=(Int) ⊕ (Int×List Int)) (fun ix_=>match ix_ with | (.inl e)=>e=c0.size∧0≤e∧e≤9 | (.inr (q,L))=>q=c0.size - 3*L.length∧natV s=vU c0 q.toNat*16777216^L.length+digV L∧DigOk L∧1≤L.length∧L.length≤3∧(c0.size:Int)≤9∧-2≤q) (fun ix_=>match ix_ with | (.inl e)=>(e+3).toNat | (.inr (q,L))=>(q+3).toNat) (fun ix_=>match ix_ with | (.inl e)=>([(0,o (.p (.vl (.string c0)))),(3,o (nl)),(4,o (i e))],[]) | (.inr (q,L))=>([(0,o (.p (.vl (.string c0)))),(3,o (.lsl 0 0 L.length 1)),(4,o (i q))],[.cells (pc (List.flatMap encI L)) false])) (.inl ((↑c0.size:Int))) (by exact ⟨by omega,by omega,size9 (by assumption) (by assumption) (by assumption)⟩) ?_;rintro (e | ⟨q,L⟩) hI ih6 J
 try dsimp only at hI ih6 ⊢
 ·obtain ⟨_,_,_⟩:=hI;refine yB 6 12 (e>0) (fun _=> ?_) fun _=> ?_
  ·refine yE 18 6 (yw (e - 3)) (fun z=>o (i (if 0>z then 0 else z)))<| yP 0 [] 35 (pT Tryz.f387 [1,1,1,0,1,0,0,1,0,0,1,0,1,0,0]) (α:=(Int×Int)) (fun (k,d)=>((if 0>e - 3 then 0 else e - 3))≤k∧k≤(e)∧d=seg c0 (((if 0>e - 3 then 0 else e - 3))).toNat k.toNat∧0≤d∧d<16777216) (fun (k,d)=>((e) - k).toNat) (fun (k,d)=>([(0,o (.p (.vl (.string c0)))),(3,o (nl)),(4,o (i e)),(5,o (i d)),(6,o (i k))],[])) ((if 0>e - 3 then 0 else e - 3),0) (by exact ⟨by omega,by omega,(seg_self _ _).symm,by omega,by omega⟩) ?_
   rintro ⟨k,d⟩ hI ih14 J
   try dsimp only at hI ih14 ⊢
   obtain ⟨_,_,_,_,_⟩:=hI;refine yB 7 20 (k<e) (fun _=> ?_) fun _=> ?_
   ·refine yJ 9 24 (d*256)<| yY 0 c0 k ?_
    have:=byteAt_bounds c0 k;exact yE 11 5 (yw (byteAt c0 k)) (fun z=>o (i (IntKind.i64.wrap (d*256+z))))<| yJ 0 6 (k+1)<| yJ 0 5 (d*256+byteAt c0 k)<| yK 0 [] (ih14 ((k+1),(d*256+byteAt c0 k)) (by (have h9:=seg_next c0 (a:=((if 0>e - 3 then 0 else e - 3))) (k:=k) (d:=d) (by omega) (by omega) (by assumption);have h8:=seg_lt c0 (a:=((if 0>e - 3 then 0 else e - 3))) (k:=k+1) (by omega) (by omega) (by omega);exact ⟨by omega,by omega,h9,by omega,by omega⟩)) (by omega))
   exact yJ 16 4 (e - 3)<| yK 0 [1] (ih6 (.inr ((e - 3),([d]))) (by (refine ⟨?_,of_first (k:=k) (e:=e) (d:=d) (a:=if 0>e - 3 then 0 else e - 3) (by omega) hq2 (by omega) (by omega) rfl (by assumption),digOk_one (by omega),by simp,by simp,by omega,by omega⟩;simp;omega)) (by (dsimp only;omega)))
  exact yF 7 (o (nl))<| ⟨_,[],rfl,.nil rfl,digOk_nil,by rw [← hq2,natV_of0 (by omega)];rfl,by simp,.inl rfl⟩
 obtain ⟨_,_,_,_,_,_,_⟩:=hI;refine yB 6 12 (q>0) (fun _=> ?_) fun _=> ?_
 ·refine yE 18 6 (yw (q - 3)) (fun z=>o (i (if 0>z then 0 else z)))<| yP 0 [0] 35 (pT Tryz.f387 [1,1,1,0,1,0,0,1,0,0,1,0,1,0,0]) (α:=(Int×Int)) (fun (k,d)=>((if 0>q - 3 then 0 else q - 3))≤k∧k≤(q)∧d=seg c0 (((if 0>q - 3 then 0 else q - 3))).toNat k.toNat∧0≤d∧d<16777216) (fun (k,d)=>((q) - k).toNat) (fun (k,d)=>([(0,o (.p (.vl (.string c0)))),(3,o (.lsl 0 0 L.length 1)),(4,o (i q)),(5,o (i d)),(6,o (i k))],[.cells (pc (List.flatMap encI L)) false])) ((if 0>q - 3 then 0 else q - 3),0) (by exact ⟨by omega,by omega,(seg_self _ _).symm,by omega,by omega⟩) ?_ (hh:=(mo (renAt_pc (by kernel_rfl)) (mo_nil)))
  rintro ⟨k,d⟩ hI ih14 J
  try dsimp only at hI ih14 ⊢
  obtain ⟨_,_,_,_,_⟩:=hI;refine yB 7 20 (k<q) (fun _=> ?_) fun _=> ?_
  ·refine yJ 9 24 (d*256)<| yY 0 c0 k ?_
   have:=byteAt_bounds c0 k;exact yE 11 5 (yw (byteAt c0 k)) (fun z=>o (i (IntKind.i64.wrap (d*256+z))))<| yJ 0 6 (k+1)<| yJ 0 5 (d*256+byteAt c0 k)<| yK 0 [0] (ih14 ((k+1),(d*256+byteAt c0 k)) (by (have h9:=seg_next c0 (a:=((if 0>q - 3 then 0 else q - 3))) (k:=k) (d:=d) (by omega) (by omega) (by assumption);have h8:=seg_lt c0 (a:=((if 0>q - 3 then 0 else q - 3))) (k:=k+1) (by omega) (by omega) (by omega);exact ⟨by omega,by omega,h9,by omega,by omega⟩)) (by omega)) (hh:=(mo (renAt_pc (by kernel_rfl)) (mo_nil)))
  exact yA 6 encI L d 8<| yJ 9 4 (q - 3)<| yK 0 [2] (ih6 (.inr ((q - 3),(L++[d]))) (by (refine ⟨?_,of_next (k:=k) (q:=q) (d:=d) (a:=if 0>q - 3 then 0 else q - 3) (by omega) (by assumption) (by omega) rfl (by assumption),digOk_snoc (by assumption) (by omega),by simp,?_,by omega,by omega⟩<;>simp<;>omega)) (by (dsimp only;omega))) (hh:=(mo (renAt_pc (by kernel_rfl)) (mo_nil)))
 exact yFF 7 (o (.lsl 0 0 L.length 1)) (r':=o (.p (.sl L.length (List.flatMap encI L)))) (ts:=[0]) (fzR_one (fzL_pc (fz:=false) (by kernel_rfl) (by exact flat_len (z:=1) (fun _=>rfl) _)))<| ⟨_,_,rfl,.sl,by assumption,of_last (by assumption) (by assumption),by assumption,of_top hq2 hq3 (by omega) (by omega) (by omega) (by omega) (of_last (by assumption) (by assumption))⟩
theorem dig_ge {L:List Int} {m:Nat} (hd:DigOk L) (h:16777216^m≤digV L):m<L.length:=by
 have:=digV_lt hd;apply Classical.byContradiction;intro hn;have:=pow24_le (a:=L.length) (b:=m) (by omega);omega
theorem dig_lt {L:List Int} {m:Nat} (ht:L.length=0∨16777216^(L.length - 1)≤digV L) (h:digV L<16777216^m):L.length≤m:=by
 rcases ht with h1 | h1
 ·omega
 apply Classical.byContradiction;intro hn;have:=pow24_le (a:=m) (b:=L.length - 1) (by omega);omega
theorem c387_1 (s:ByteArray) (hs:(s.size:Int)≤1000000) (h0:1≤natV s) (h1:natV s<16777216):ValC Tryz.prog GG 387 [o (sv s)] (fun r=>r=o (.p (.sl 1 [.vl (.int .i64 (natV s))]))):=by
 refine (c387 s hs (by omega)).mono ?_;rintro r ⟨x,L,rfl,hx,hd,hv,hl,ht⟩;have e1:=dig_ge (m:=0) hd (by simp;omega);have e2:=dig_lt (m:=1) ht (by simp;omega)
 match L,e1,e2,hv with
 | [d],_,_,hv=>cases hx with
  | nil h=>simp at h
  | sl=>
      simp only [digV] at hv;have:d=natV s:=by omega
      subst this;rfl
 | [],h,_,_=>simp at h
 | _::_::_,_,h,_=>simp at h
theorem c387_2 (s:ByteArray) (hs:(s.size:Int)≤1000000) (h0:16777216≤natV s) (h1:natV s<281474976710656):ValC Tryz.prog GG 387 [o (sv s)] (fun r=>∃d0 d1:Int,r=o (.p (.sl 2 [.vl (.int .i64 d0),.vl (.int .i64 d1)]))∧natV s=d0+16777216*d1∧0≤d0∧d0<16777216∧0≤d1∧d1<16777216):=by
 refine (c387 s hs (by omega)).mono ?_;rintro r ⟨x,L,rfl,hx,hd,hv,hl,ht⟩;have e1:=dig_ge (m:=1) hd (by simp;omega);have e2:=dig_lt (m:=2) ht (by simp;omega)
 match L,e1,e2,hv,hd with
 | [d0,d1],_,_,hv,hd=>cases hx with
  | nil h=>simp at h
  | sl=>
      have b0:=hd d0 (by simp);have b1:=hd d1 (by simp);simp only [digV] at hv;exact ⟨d0,d1,rfl,by omega,by omega,by omega,by omega,by omega⟩
 | [],h,_,_,_=>simp at h
 | [_],h,_,_,_=>simp at h
 | _::_::_::_,_,h,_,_=>simp at h
theorem c387_3 (s:ByteArray) (hs:(s.size:Int)≤1000000) (h0:281474976710656≤natV s) (h1:natV s<4722366482869645213696):ValC Tryz.prog GG 387 [o (sv s)] (fun r=>∃d0 d1 d2:Int,r=o (.p (.sl 3 [.vl (.int .i64 d0),.vl (.int .i64 d1),.vl (.int .i64 d2)]))∧natV s=d0+16777216*d1+281474976710656*d2∧0≤d0∧d0<16777216∧0≤d1∧d1<16777216∧0≤d2∧d2<16777216):=by
 refine (c387 s hs (by omega)).mono ?_;rintro r ⟨x,L,rfl,hx,hd,hv,hl,ht⟩;have e1:=dig_ge (m:=2) hd (by simp;omega)
 match L,e1,hl,hv,hd with
 | [d0,d1,d2],_,_,hv,hd=>cases hx with
  | nil h=>simp at h
  | sl=>
      have b0:=hd d0 (by simp);have b1:=hd d1 (by simp);have b2:=hd d2 (by simp);simp only [digV] at hv;exact ⟨d0,d1,d2,rfl,by omega,by omega,by omega,by omega,by omega,by omega,by omega⟩
 | [],h,_,_,_=>simp at h
 | [_],h,_,_,_=>simp at h
 | [_,_],h,_,_,_=>simp at h
 | _::_::_::_::_,_,h,_,_=>simp at h
theorem num_next {L B:List Int} {q:Int} (h0:0≤q) (h1:q<L.length) (hd:DigOk L) (hB:lV B=digV (L.drop (q+1).toNat)) (hb:BytesOk B):lV (B++[IntKind.u8.wrap ((L.getD q.toNat 0).fdiv 65536),IntKind.u8.wrap ((L.getD q.toNat 0).fdiv 256),IntKind.u8.wrap (L.getD q.toNat 0)])=digV (L.drop (q - 1+1).toNat)∧BytesOk (B++[IntKind.u8.wrap ((L.getD q.toNat 0).fdiv 65536),IntKind.u8.wrap ((L.getD q.toNat 0).fdiv 256),IntKind.u8.wrap (L.getD q.toNat 0)]):=by
 have hl:q.toNat<L.length:=by omega
 have e:L.getD q.toNat 0=L[q.toNat]:=by simp [hl]
 have hd1:=hd L[q.toNat] (by simp);rw [e];constructor
 ·have e2:(q - 1+1).toNat=q.toNat:=by omega
  have e3:(q+1).toNat=q.toNat+1:=by omega
  rw [e2,List.drop_eq_getElem_cons hl,digV,← e3,← hB,lV_snoc3,wrapU8,wrapU8,wrapU8,fdivE _ _ (by omega),fdivE _ _ (by omega)];omega
 intro z hz
 rcases List.mem_append.1 hz with h2 | h2
 ·exact hb z h2
 simp only [wrapU8,List.mem_cons,List.mem_nil_iff,or_false] at h2
 rcases h2 with h | h | h<;>(rw [h];exact bytes_mod)
theorem num_first {L:List Int} {k:Int} (h0:0≤k) (h1:k=L.length - 1) (hd:DigOk L):lV [IntKind.u8.wrap ((L.getD k.toNat 0).fdiv 65536),IntKind.u8.wrap ((L.getD k.toNat 0).fdiv 256),IntKind.u8.wrap (L.getD k.toNat 0)]=digV (L.drop (k - 1+1).toNat)∧BytesOk [IntKind.u8.wrap ((L.getD k.toNat 0).fdiv 65536),IntKind.u8.wrap ((L.getD k.toNat 0).fdiv 256),IntKind.u8.wrap (L.getD k.toNat 0)]:=by
 have:=num_next (L:=L) (B:=[]) (q:=k) h0 (by omega) hd (by rw [List.drop_of_length_le (by omega)];rfl) (fun _ h=>by simp at h)
 simpa using this
theorem num_nil {L:List Int} {c e:ByteArray} (h:natV c=natV e) (he:e.size=0) (hL:L.length=0):natV c=digV L:=by
 have:L=[]:=List.length_eq_zero_iff.1 hL;subst this;rw [h,natV_of0 he];rfl
theorem num_last {L B:List Int} {c:ByteArray} {q:Int} (h:natV c=natV (bstr B)) (hb:BytesOk B) (hB:lV B=digV (L.drop (q+1).toNat)) (hq:q= -1):natV c=digV L:=by
 subst hq;rw [h,natV_bstr hb,hB];rfl
theorem c393 (L:List Int) (x:PV) (hx:IsS encI L x) (hd:DigOk L) (hL:(L.length:Int)≤1000):ValC Tryz.prog GG 393 [o (.p x)] (fun r=>∃c:ByteArray,r=o (sv c)∧(c.size:Int)≤3*L.length∧natV c=digV L∧E1.Canon c):=by
 refine vX (fn:=Tryz.f393)<| yL 12 hx<| yJ 5 4 ((↑L.length:Int) - 1)<| yP 0 [] 35 (pT Tryz.f393 [1,1,0,1,0,0]) (α:=(Int) ⊕ (Int×List Int)) (fun ix_=>match ix_ with | (.inl k)=>k=L.length - 1∧-1≤k | (.inr (q,B))=> -1≤q∧q≤L.length - 2∧lV B=digV (L.drop (q+1).toNat)∧BytesOk B∧(B.length:Int)=3*(L.length - 1 - q)) (fun ix_=>match ix_ with | (.inl k)=>(k+10).toNat | (.inr (q,B))=>(q+10).toNat) (fun ix_=>match ix_ with | (.inl k)=>([(0,o (.p x)),(3,o (nl)),(4,o (i k))],[]) | (.inr (q,B))=>([(0,o (.p x)),(3,o (.lsl 0 0 B.length 1)),(4,o (i q))],[.cells (pc (List.flatMap encB B)) false])) (.inl ((↑L.length:Int) - 1)) (by omega) ?_
 rintro (k | ⟨q,B⟩) hI ih5 J
 try dsimp only at hI ih5 ⊢
 ·obtain ⟨_,_⟩:=hI;refine yB 6 9 (k≥0) (fun _=> ?_) fun _=> ?_
  ·exact yD 4 [] [] (List.range 21)<| yI 3 k hx<| yG 0 encI L k<| yI 4 k hx<| yG 0 encI L k<| yI 4 k hx<| yG 0 encI L k<| yJ 12 4 (k - 1)<| yK 0 [1] (ih5 (.inr ((k - 1),([IntKind.u8.wrap ((L.getD k.toNat 0).fdiv 65536),IntKind.u8.wrap ((L.getD k.toNat 0).fdiv 256),IntKind.u8.wrap (L.getD k.toNat 0)]))) (by (have h9:=num_first (L:=L) (k:=k) (by omega) (by omega) hd;refine ⟨by omega,by omega,h9.1,h9.2,?_⟩;simp;omega)) (by (dsimp only;omega)))
  refine yC 6 (c385 (ByteArray.mk (List.map UInt8.ofNat []).toArray) (by decide)) ?_;rintro _ ⟨c3,rfl,_,_,_⟩;exact yF 2 (o (.p (.vl (.string c3))))<| ⟨_,rfl,by have e0:(ByteArray.mk (List.map UInt8.ofNat []).toArray).size=0:=rfl;omega,num_nil (by assumption) rfl (by omega),by assumption⟩
 obtain ⟨_,_,_,_,_⟩:=hI;refine yB 6 9 (q≥0) (fun _=> ?_) fun _=> ?_
 ·exact yD 4 [] [[],[],[],[],[],[],[],[],[],[],[],[],[],[],[],[],[],[],[],[0]] (List.range 21)<| yI 3 q hx<| yG 0 encI L q<| yI 4 q hx<| yG 0 encI L q<| yI 4 q hx<| yG 0 encI L q<| yO 2 (builtinA Tryz.prog TT .append #[161,161] 161 [(o (.lsl 0 0 B.length 1)),(o (.lsl 1 0 3 1))]) (rule_append3 (e:=5) (L:=B) (a0:=(IntKind.u8.wrap ((L.getD q.toNat 0).fdiv 65536))) (a1:=(IntKind.u8.wrap ((L.getD q.toNat 0).fdiv 256))) (a2:=(IntKind.u8.wrap (L.getD q.toNat 0))) (i:=Tryz.t5) (zero:=(List.map (fun v=>LV.p (PV.vl v)) (Value.int IntKind.u8 0).cells.toList)) (new:=([LV.p (PV.vl (Value.int IntKind.u8 (IntKind.u8.wrap ((L.getD q.toNat 0).fdiv 65536)))),LV.p (PV.vl (Value.int IntKind.u8 (IntKind.u8.wrap ((L.getD q.toNat 0).fdiv 256)))),LV.p (PV.vl (Value.int IntKind.u8 (IntKind.u8.wrap (L.getD q.toNat 0))))])) (fz:=false) (by kernel_rfl) (by kernel_rfl) (by kernel_rfl) (by kernel_rfl) (by kernel_rfl) (by kernel_rfl) (by kernel_rfl) (by kernel_rfl) (by kernel_rfl) (by kernel_rfl) (by omega))<| yJ 9 4 (q - 1)<| yK 0 [2] (ih5 (.inr ((q - 1),(B++[IntKind.u8.wrap ((L.getD q.toNat 0).fdiv 65536),IntKind.u8.wrap ((L.getD q.toNat 0).fdiv 256),IntKind.u8.wrap (L.getD q.toNat 0)]))) (by (have h9:=num_next (L:=L) (B:=B) (q:=q) (by omega) (by omega) hd (by assumption) (by assumption);refine ⟨by omega,by omega,h9.1,h9.2,?_⟩;simp;omega)) (by (dsimp only;omega))) (hh:=(mo (renAt_pc (by kernel_rfl)) (mo_nil)))
 refine yO 5 (convQ Tryz.prog TT 161 210 (o (.lsl 0 0 B.length 1))) (rule_bytesStr (e:=5) (fz:=false) (by kernel_rfl) (by kernel_rfl) (by kernel_rfl) (by kernel_rfl))<| yC 0 (c385 (bstr B) (by simp only [bstr_size];omega)) ?_
 rintro _ ⟨c14,rfl,_,_,_⟩;exact yF 2 (o (.p (.vl (.string c14))))<| ⟨_,rfl,by simp only [bstr_size] at*;omega,num_last (by assumption) (by assumption) (by assumption) (by omega),by assumption⟩
theorem int_first {c s:ByteArray} (hc:natV c=natV s) (hv:natV s<72057594037927936):(0:Int)<c.size→(0:Int)*256+byteAt c 0≤72057594037927935:=by
 intro h;have:=vU_step (s:=c) (k:=0) (by omega) h;simp only [Int.toNat_zero,vU] at this;omega
theorem int_next {c s:ByteArray} {k n:Int} (hc:natV c=natV s) (hv:natV s<72057594037927936) (h0:0≤k) (h1:k<c.size) (hn:n=vU c k.toNat):n*256+byteAt c k=vU c (k+1).toNat∧(k+1<c.size→(n*256+byteAt c k)*256+byteAt c (k+1)≤72057594037927935):=by
 have e:(k+1).toNat=k.toNat+1:=by omega
 have e2:((k.toNat:Nat):Int)=k:=by omega
 have e3:n*256+byteAt c k=vU c (k+1).toNat:=by rw [e,vU,e2,hn]
 refine ⟨e3,fun h=> ?_⟩;have:=vU_step (s:=c) (k:=k+1) (by omega) h;rw [e3];omega
theorem int_size {c s:ByteArray} (h:Canon c) (hc:natV c=natV s) (hv:natV s<72057594037927936):(c.size:Int)≤7:=by
 have:=canon_size (m:=7) h (by rw [hc];exact hv);omega
theorem int_last {c s:ByteArray} {k n:Int} (hc:natV c=natV s) (hn:n=vU c k.toNat) (h:k=c.size):n=natV s:=by
 subst h;rw [← hc,hn];rfl
theorem c394 (s:ByteArray) (hs:(s.size:Int)≤1000000) (hv:natV s<72057594037927936):ValC Tryz.prog GG 394 [o (sv s)] (fun r=>∃n:Int,r= .tup [.one (i n),.one (b true)]∧n=natV s∧0≤n):=by
 refine vX (fn:=Tryz.f394)<| yC 8 (c385 s (by omega)) ?_
 rintro _ ⟨c0,rfl,_,_,_⟩;refine yB 9 11 ((↑c0.size:Int)>8) (fun _=> ?_) fun _=> ?_
 ·exact yF 16 (.tup [.one (i 0),.one (b false)])<| absurd (int_size (by assumption) (by assumption) (by assumption)) (by omega)
 by_cases hb5:((↑c0.size:Int)=8)
 ·refine ye 4 15 (↑c0.size:Int) 8<| yY 1 c0 0 ?_ (h0:=by decide)
  refine yB 4 20 (byteAt c0 0>127) (fun _=> ?_) fun _=> ?_
  ·exact yF 6 (.tup [.one (i 0),.one (b false)])<| absurd (int_size (by assumption) (by assumption) (by assumption)) (by omega)
  refine yP 13 [] 35 (pT Tryz.f394 [1,1,1,1,0,1,0,0]) (α:=(Int×Int)) (fun (k,n)=>0≤k∧k≤c0.size∧n=vU c0 k.toNat∧(k<c0.size→n*256+byteAt c0 k≤72057594037927935)∧0≤n∧n≤72057594037927935) (fun (k,n)=>(c0.size - k).toNat) (fun (k,n)=>([(0,o (.p (.vl (.string c0)))),(4,o (i n)),(5,o (i k))],[])) (0,0) (by exact ⟨by omega,by omega,rfl,int_first (by assumption) (by assumption),by omega,by omega⟩) ?_;rintro ⟨k,n⟩ hI ih7 J
  try dsimp only at hI ih7 ⊢
  obtain ⟨_,_,_,_,_,_⟩:=hI;refine yB 8 24 (k<(↑c0.size:Int)) (fun _=> ?_) fun _=> ?_
  ·refine yY 9 c0 k ?_;have:=byteAt_bounds c0 k;exact yE 11 4 (yw (byteAt c0 k)) (fun z=>o (i (IntKind.i64.wrap (IntKind.i64.wrap (n*256)+z))))<| yJ 0 5 (k+1)<| yE 0 4 (yw (n*256)) (fun z=>o (i (IntKind.i64.wrap (z+byteAt c0 k))))<| yJ 0 4 (n*256+byteAt c0 k)<| yK 0 [] (ih7 ((k+1),(n*256+byteAt c0 k)) (by (have h9:=int_next (c:=c0) (s:=s) (k:=k) (n:=n) (by assumption) hv (by omega) (by omega) (by assumption);simp only;exact ⟨by omega,by omega,h9.1,h9.2,by omega,by omega⟩)) (by (simp only;omega)))
  exact yF 8 (.tup [.one (i n),.one (b true)])<| absurd (int_size (by assumption) (by assumption) (by assumption)) (by omega)
 refine yu 4 15 (↑c0.size:Int) 8<| yP 19 [] 35 (pT Tryz.f394 [1,1,1,1,0,1,0,0]) (α:=(Int×Int)) (fun (k,n)=>0≤k∧k≤c0.size∧n=vU c0 k.toNat∧(k<c0.size→n*256+byteAt c0 k≤72057594037927935)∧0≤n∧n≤72057594037927935) (fun (k,n)=>(c0.size - k).toNat) (fun (k,n)=>([(0,o (.p (.vl (.string c0)))),(4,o (i n)),(5,o (i k))],[])) (0,0) (by exact ⟨by omega,by omega,rfl,int_first (by assumption) (by assumption),by omega,by omega⟩) ?_
 rintro ⟨k,n⟩ hI ih7 J
 try dsimp only at hI ih7 ⊢
 obtain ⟨_,_,_,_,_,_⟩:=hI;refine yB 8 24 (k<(↑c0.size:Int)) (fun _=> ?_) fun _=> ?_
 ·refine yY 9 c0 k ?_;have:=byteAt_bounds c0 k;exact yE 11 4 (yw (byteAt c0 k)) (fun z=>o (i (IntKind.i64.wrap (IntKind.i64.wrap (n*256)+z))))<| yJ 0 5 (k+1)<| yE 0 4 (yw (n*256)) (fun z=>o (i (IntKind.i64.wrap (z+byteAt c0 k))))<| yJ 0 4 (n*256+byteAt c0 k)<| yK 0 [] (ih7 ((k+1),(n*256+byteAt c0 k)) (by (have h9:=int_next (c:=c0) (s:=s) (k:=k) (n:=n) (by assumption) hv (by omega) (by omega) (by assumption);simp only;exact ⟨by omega,by omega,h9.1,h9.2,by omega,by omega⟩)) (by (simp only;omega)))
 exact yF 8 (.tup [.one (i n),.one (b true)])<| ⟨_,rfl,int_last (by assumption) (by assumption) (by omega),by omega⟩
theorem small_le {c s:ByteArray} {m:Int} (h:Canon c) (hc:natV c=natV s) (h1:(c.size:Int)≤m) (h2:m≤7):natV s<72057594037927936:=by
 have e:=natV_lt c;have e2:=pow256_le (a:=c.size) (b:=7) (by omega);have e3:(256:Int)^7=72057594037927936:=by decide
 omega
theorem small_big {c s:ByteArray} {m:Int} (h:Canon c) (hc:natV c=natV s) (h1:(c.size:Int)>m) (h0:0≤m):256^m.toNat≤natV s:=by
 rw [← hc];exact canon_big h (by omega)
theorem small_lt {c s:ByteArray} {m n:Int} (h:Canon c) (hc:natV c=natV s) (h1:¬(c.size:Int)>m) (h0:0≤m) (hn:n=natV s):n<256^m.toNat:=by
 have e:=natV_lt c;have e2:=pow256_le (a:=c.size) (b:=m.toNat) (by omega);omega
theorem c386 (s:ByteArray) (m:Int) (hs:(s.size:Int)≤1000000) (h0:0≤m) (hm:m≤7):ValC Tryz.prog GG 386 [o (sv s),o (i m)] (fun r=>∃(n:Int) (ok:Bool),r= .tup [.one (i n),.one (b ok)]∧(ok=true→n=natV s∧n<256^m.toNat)∧(ok=false→256^m.toNat≤natV s)∧0≤n∧n<72057594037927936):=by
 refine vX (fn:=Tryz.f386)<| yC 9 (c385 s (by omega)) ?_
 rintro _ ⟨c0,rfl,_,_,_⟩;refine yB 4 10 ((↑c0.size:Int)>m) (fun _=> ?_) fun _=> ?_
 ·exact yF 6 (.tup [.one (i 0),.one (b false)])<| ⟨_,_,rfl,fun h=>Bool.noConfusion h,fun _=>small_big (by assumption) (by assumption) (by assumption) h0,by omega,by omega⟩
 refine yC 5 (c394 s (by omega) (by exact small_le (by assumption) (by assumption) (Int.not_lt.1 (by assumption)) (by assumption))) ?_;rintro _ ⟨n5,rfl,_,_⟩;exact yF 5 (.tup [.one (i n5),.one (b true)])<| ⟨_,_,rfl,fun _=>⟨by assumption,small_lt (by assumption) (by assumption) (by assumption) h0 (by assumption)⟩,fun h=>Bool.noConfusion h,by have:=natV_nonneg s;omega,by have:=small_le (by assumption) (by assumption) (Int.not_lt.1 (by assumption)) hm;omega⟩
theorem c386_3 (s:ByteArray) (hs:(s.size:Int)≤1000000):ValC Tryz.prog GG 386 [o (sv s),o (i 3)] (fun r=>∃(n:Int) (ok:Bool),r= .tup [.one (i n),.one (b ok)]∧(ok=true→n=natV s∧n<16777216)∧(ok=false→16777216≤natV s)∧0≤n∧n<72057594037927936):=
 c386 s 3 hs (by omega) (by omega)
theorem c386_4 (s:ByteArray) (hs:(s.size:Int)≤1000000):ValC Tryz.prog GG 386 [o (sv s),o (i 4)] (fun r=>∃(n:Int) (ok:Bool),r= .tup [.one (i n),.one (b ok)]∧(ok=true→n=natV s∧n<4294967296)∧(ok=false→4294967296≤natV s)∧0≤n∧n<72057594037927936):=
 c386 s 4 hs (by omega) (by omega)
theorem c386_7 (s:ByteArray) (hs:(s.size:Int)≤1000000):ValC Tryz.prog GG 386 [o (sv s),o (i 7)] (fun r=>∃(n:Int) (ok:Bool),r= .tup [.one (i n),.one (b ok)]∧(ok=true→n=natV s∧n<72057594037927936)∧(ok=false→72057594037927936≤natV s)∧0≤n∧n<72057594037927936):=
 c386 s 7 hs (by omega) (by omega)
theorem fact_mul {a c:Int} (h1:0≤a) (h2:a<16777216) (h3:0≤c) (h4:c≤1000000):0≤a*c∧a*c≤16777215000000:=by
 refine ⟨Int.mul_nonneg h1 h3,?_⟩;have:=Int.mul_le_mul (show a≤16777215 by omega) h4 h3 (by omega);omega
theorem c383 (n:Int) (h0:0≤n) (h1:n<9223372036854775808):ValC Tryz.prog GG 383 [o (i n)] (fun r=>∃c:ByteArray,r=o (sv c)∧(c.size:Int)≤8∧natV c=n∧E1.Canon c):=by
 refine vX (fn:=Tryz.f383)<| yB 25 10 (n>0) (fun _=> ?_) fun _=> ?_
 ·refine yp 31 10 (n>0)<| yp 31 10 (n>0)<| yp 31 10 (n>0)<| yp 31 10 (n>0)<| yp 31 10 (n>0)<| yp 31 10 (n>0)<| yp 31 10 (n>0)<| yC 37 (c385 (ByteArray.mk #[UInt8.ofNat (IntKind.u8.wrap (n.fdiv 72057594037927936)).toNat,UInt8.ofNat (IntKind.u8.wrap (n.fdiv 281474976710656)).toNat,UInt8.ofNat (IntKind.u8.wrap (n.fdiv 1099511627776)).toNat,UInt8.ofNat (IntKind.u8.wrap (n.fdiv 4294967296)).toNat,UInt8.ofNat (IntKind.u8.wrap (n.fdiv 16777216)).toNat,UInt8.ofNat (IntKind.u8.wrap (n.fdiv 65536)).toNat,UInt8.ofNat (IntKind.u8.wrap (n.fdiv 256)).toNat,UInt8.ofNat (IntKind.u8.wrap (n.fdiv 1)).toNat]) (by exact Int.le_trans (b:=8) (Int.le_of_eq rfl) (by omega))) ?_
  rintro _ ⟨c8,rfl,_,_,_⟩;refine yF 2 (o (.p (.vl (.string c8)))) ?_
  (refine ⟨_,rfl,?_,Eq.trans (by assumption) (of8 h0 h1),by assumption⟩;assumption)
 refine yC 6 (c385 (ByteArray.mk (List.map UInt8.ofNat []).toArray) (by decide)) ?_;rintro _ ⟨c12,rfl,_,_,_⟩;refine yF 2 (o (.p (.vl (.string c12)))) ?_
 (refine ⟨_,rfl,Int.le_trans (by assumption) (Int.le_trans (b:=0) (Int.le_of_eq rfl) (by omega)),Eq.trans (by assumption) (Eq.trans (b:=0) (natV_of0 rfl) (by omega)),by assumption⟩)
theorem fact_tdivV {a c:Int} (h1:0≤a) (h2:1≤c):0≤a.tdiv c∧a.tdiv c≤a:=by
 rw [Int.tdiv_eq_ediv_of_nonneg h1];exact ⟨Int.ediv_nonneg h1 (by omega),Int.ediv_le_self c h1⟩
theorem fact_tmodV {a c:Int} (h1:0≤a) (h2:1≤c):0≤a.tmod c∧a.tmod c<c:=by
 rw [Int.tmod_eq_emod_of_nonneg h1];exact ⟨Int.emod_nonneg _ (by omega),Int.emod_lt_of_pos _ (by omega)⟩
theorem quo_eq {x y a c:Int} (h1:0≤x) (hx:x=a) (hy:y=c):x.tdiv y=a /c∧x.tmod y=a%c:=by
 rw [Int.tdiv_eq_ediv_of_nonneg h1,Int.tmod_eq_emod_of_nonneg h1,hx,hy];exact ⟨rfl,rfl⟩
theorem quo_zero {c t:ByteArray} (h:natV c=natV t) (h0:(c.size:Int)=0):natV t=0:=by rw [← h,natV_of0 (by omega)]
theorem c269 (s t:ByteArray) (hs:(s.size:Int)≤1000000) (ht:(t.size:Int)≤1000000) (h1:natV s<72057594037927936) (h2:1≤natV t) (h3:natV t≤1000000):ValC Tryz.prog GG 269 [o (sv s),o (sv t)] (fun r=>∃c d:ByteArray,r= .tup [.one (sv c),.one (sv d),.one (b true)]∧(c.size:Int)≤8∧(d.size:Int)≤8∧natV c=natV s /natV t∧natV d=natV s%natV t∧E1.Canon c∧E1.Canon d):=by
 refine vX (fn:=Tryz.f269)<| yC 9 (c385 t (by omega)) ?_
 rintro _ ⟨c0,rfl,_,_,_⟩
 by_cases hb4:((↑c0.size:Int)=0)
 ·refine ye 9 20 (↑c0.size:Int) 0<| yF 7 (.tup [.one (.p (.vl (vs []))),.one (.p (.vl (vs []))),.one (b false)]) ?_
  (exfalso;have h8:=quo_zero (c:=c0) (t:=t) (by assumption) (by omega);omega)
 refine yu 9 20 (↑c0.size:Int) 0<| yC 5 (c386_7 s (by omega)) ?_
 rintro _ ⟨n5,ok6,rfl,hq7,hq8,_,_⟩;refine yC 9 (c386_7 c0 (by omega)) ?_;rintro _ ⟨n11,ok12,rfl,hq13,hq14,_,_⟩;cases hb17:ok6
 ·have:=hq8 hb17;exfalso;omega
 have:=hq7 hb17;cases hb20:ok12
 ·have:=hq14 hb20;exfalso;omega
 have:=hq13 hb20;refine yD 16 [] [] [0,1,2,4,5,6,3,7,8,9,10]<| yO 2 (binA Tryz.prog TT .quo 3 (.tmp 35) (.tmp 36) (o (i n5)) (o (i n11))) (binA_quo (by omega)) ?_
 have:=(show (0≤n5.tdiv n11∧n5.tdiv n11≤n5) from fact_tdivV (by omega) (by omega))
 have:=Int.tdiv_eq_ediv_of_nonneg (a:=n5) (b:=n11) (by omega);refine yJ 2 37 (n5.tdiv n11)<| yO 0 (binA Tryz.prog TT .rem 3 (.tmp 39) (.tmp 40) (o (i n5)) (o (i n11))) (binA_rem (by omega)) ?_
 have:=(show (0≤n5.tmod n11∧n5.tmod n11<n11) from fact_tmodV (by omega) (by omega))
 have:=Int.tmod_eq_emod_of_nonneg (a:=n5) (b:=n11) (by omega);have:=tmod_nonneg' (a:=n5) (b:=n11) (by omega) (by omega);refine yC 0 (c383 (n5.tdiv n11) (by omega) (by omega)) ?_;rintro _ ⟨c29,rfl,_,_,_⟩;refine yC 0 (c383 (n5.tmod n11) (by omega) (by omega)) ?_;rintro _ ⟨c33,rfl,_,_,_⟩;refine yF 4 (.tup [.one (.p (.vl (.string c29))),.one (.p (.vl (.string c33))),.one (b true)]) ?_
 (have h8:=quo_eq (x:=n5) (y:=n11) (a:=natV s) (c:=natV t) (by omega) (by omega) (by omega);exact ⟨_,_,rfl,by omega,by omega,by rw [← h8.1];assumption,by rw [← h8.2];assumption,by assumption,by assumption⟩)
end Go.Sx.E1
