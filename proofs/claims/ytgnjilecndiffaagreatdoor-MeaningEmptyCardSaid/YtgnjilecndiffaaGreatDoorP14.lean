/- A part of the proof of MeaningEmpty. -/
import Derived.Test.YtgnjilecndiffaaGreatDoorP12
import Derived.Test.YtgnjilecndiffaaGreatDoorP13
set_option linter.all false
set_option maxRecDepth 1000000
set_option maxHeartbeats 0
namespace Go.Sx.E1
open Go.Proofs
def citL:List ByteArray:=[⟨#[99,105,116,121]⟩,⟨#[122,105,112]⟩,⟨#[99,111,117,110,116,114,121]⟩,⟨#[115,105,110,99,101]⟩]
def CelIn (k k':Int) (s:ByteArray) (dn ds m:Int):Prop:=
 (k'=0∧s=⟨#[]⟩∧dn=0∧ds=0∧m=0)∨
 (k=1∧k'=1∧(s=⟨#[82,111,109,101]⟩∨s=⟨#[79,115,108,111]⟩∨s=⟨#[66,101,114,103,101,110]⟩∨s=⟨#[105,116]⟩)∧dn=0∧ds=0∧m=0)∨
 (k=2∧k'=2∧s=⟨#[]⟩∧((dn=1∧ds=0)∨(dn= -25∧ds=1)∨(dn=3∧ds=0)∨(dn=1000000000000000∧ds=0))∧m=0)∨
 (k=3∧k'=3∧s=⟨#[]⟩∧dn=0∧ds=0∧(m=738000∨m=738001∨m=738002∨m=738003))
def CellsOk (Kd:List Int) (Rw:List Cel):Prop:=∀j:Nat,j<Rw.length→CelIn (Kd.getD j 0) (Rw.getD j default).k (Rw.getD j default).s (Rw.getD j default).dn (Rw.getD j default).ds (Rw.getD j default).n
def RowsOk {w:Nat} (Kd:List Int) (R:List (Row w)):Prop:=∀r∈R,CellsOk Kd r.R
def intP:PV→Int
 | .vl (.int .i64 n)=>n
 | _=>0
def kdOf:PV→List Int
 | .sl _ cs=>cs.map intP
 | _=>[]
theorem kdOf_eq {Kd:List Int} {y:PV} (h:IsS encI Kd y):kdOf y=Kd:=by
 cases h with
 | sl=>
  unfold kdOf
  induction Kd with
  | nil=>rfl
  | cons a l ih=>
   simp only [List.flatMap_cons,List.map_append] at ih ⊢
   rw [ih];rfl
 | nil h=>subst h;rfl
theorem cells_snoc {Kd:List Int} {y:PV} {Rw:List Cel} {jj k s dn ds m} {ok:RightC k s dn ds m} (hy:IsS encI Kd y) (h:CellsOk (kdOf y) Rw) (hj:(Rw.length:Int)=jj) (hc:CelIn (Kd.getD jj.toNat 0) k s dn ds m):CellsOk (kdOf y) (Rw++[⟨k,s,dn,ds,m,ok⟩]):=by
 intro j hl;simp only [List.length_append,List.length_cons,List.length_nil] at hl
 by_cases e:j<Rw.length
 ·have:=h j e
  simp_all
 ·have e2:j=Rw.length:=by omega
  subst e2;rw [kdOf_eq hy]
  grind
theorem cells_one {Kd:List Int} {y:PV} {j k s dn ds m} {ok:RightC k s dn ds m} (hy:IsS encI Kd y) (hj:j=0) (hc:CelIn (Kd.getD (Int.toNat j) 0) k s dn ds m):CellsOk (kdOf y) [⟨k,s,dn,ds,m,ok⟩]:=by
 subst hj;exact cells_snoc (Rw:=[]) (jj:=0) hy (fun j h=>by simp at h) rfl (by simpa using hc)
theorem rows_snoc {w:Nat} {Kd:List Int} {R:List (Row w)} {r:Row w} (h:RowsOk Kd R) (hr:CellsOk Kd r.R):RowsOk Kd (R++[r]):=by
 intro q hq
 rcases List.mem_append.1 hq with h1 | h1
 ·exact h q h1
 simp_all
theorem rows_nil {w:Nat} {Kd:List Int}:RowsOk Kd ([]:List (Row w)):=fun _ h=>by simp at h
theorem cit_next {C:List ByteArray} {q n:Int} {z:ByteArray} (h:C=List.take q.toNat citL) (hz:(q=1∧z=⟨#[122,105,112]⟩∧n=2)∨(q=2∧z=⟨#[99,111,117,110,116,114,121]⟩∧n=3)∨(q=3∧z=⟨#[115,105,110,99,101]⟩∧n=4)):C++[z]=List.take n.toNat citL:=by
 subst h
 rcases hz with ⟨rfl,rfl,rfl⟩ | ⟨rfl,rfl,rfl⟩ | ⟨rfl,rfl,rfl⟩<;>rfl
theorem kd1_set {Kd:List Int} (h:0<Kd.length):(Kd.set 0 1).getD 0 0=1:=by
 simp_all
end Go.Sx.E1
namespace Go.Sx.E1
open Go.Proofs
variable [MaxL]
theorem find576:Extern.find Tryz.f576=some Extern.BytealgIndexByte.indexByte:=by kernel_rfl
theorem next576:(Extern.findNext Tryz.f576).isNone=true:=by kernel_rfl
theorem find525:Extern.find Tryz.f525=some Extern.BytealgCount.count:=by kernel_rfl
theorem next525:(Extern.findNext Tryz.f525).isNone=true:=by kernel_rfl
theorem find551:Extern.find Tryz.f551=some Extern.AbiNoEscape.same:=by kernel_rfl
theorem next551:(Extern.findNext Tryz.f551).isNone=true:=by kernel_rfl
theorem find552:Extern.find Tryz.f552=some (Extern.BytealgMakeNoZero.makeNoZero #[3] #[161]):=by kernel_rfl
theorem next552:(Extern.findNext Tryz.f552).isNone=true:=by kernel_rfl
theorem find521:Extern.find Tryz.f521=some Extern.BytealgIndex.index:=by kernel_rfl
theorem next521:(Extern.findNext Tryz.f521).isNone=true:=by kernel_rfl
theorem call_ext {f:FuncId} {fn:Func} {e:Array Value→Sem Value} {args:Array Value} {w:World} (hf:Tryz.prog.funcs[f]? =some fn) (hb:fn.body=none) (hn:fn.name≠ "runtime.NumGoroutine") (h1:Extern.find fn=some e) (h2:(Extern.findNext fn).isNone=true):
  (callFunc f args).run Tryz.prog w=(do pure (.value (← e args)):Sem Next).run Tryz.prog w:=by
 have h:=Option.isNone_iff_eq_none.1 h2;simp only [callFunc,Sem.run_bind]
 simp_all
def idxB (x:ByteArray) (c:Int):Int:=match (List.range x.size).find? fun i=>x[i]! ==UInt8.ofNat c.toNat with
 | some i=>i
 | none=> -1
theorem idx576 (a:ByteArray) (c:Int):Extern.BytealgIndexByte.indexByte #[.string a,.int .u8 c]=pure (goInt (idxB a c)):=by
 unfold idxB;show (match (List.range a.size).find? fun i=>a[i]! ==UInt8.ofNat c.toNat with | some i=>(pure (goInt i):Sem Value) | none=>pure (goInt (-1)))=_;split<;>rfl
def cntB (x:ByteArray) (c:Int):Int:=x.foldl (fun (n:Int) y=>if y==UInt8.ofNat c.toNat then n+1 else n) ((0:Nat):Int)
theorem cnt525 (a:ByteArray) (c:Int):Extern.BytealgCount.count #[.string a,.int .u8 c]=pure (goInt (cntB a c)):=rfl
theorem valX {f:FuncId} {fn:Func} {e:Array Value→Sem Value} {vs:List Value} {r:Value} (hf:Tryz.prog.funcs[f]? =some fn) (hb:fn.body=none) (hn:fn.name≠ "runtime.NumGoroutine") (h1:Extern.find fn=some e) (h2:(Extern.findNext fn).isNone=true)
  (hr:∀A S w,Sim GG A S [] w→(e vs.toArray).run Tryz.prog w= .ok r w) (hs:single r=true):ValC Tryz.prog GG f (vs.map atR) (·=atR r):=by
 refine .inr fun A S w us hsim hus=> ?_;have hvs:us=vs:=by
  apply List.ext_getElem?;intro k;cases hk:vs[k]? with
  | none=>
   rw [List.getElem?_eq_none_iff] at hk ⊢
   rw [hus.1];simpa using hk
  | some v=>
   obtain ⟨u,h1,h2⟩:=hus.2 k (atR v) (by simp [hk]);rw [h1];cases h2;rfl
 subst hvs;refine ⟨atR r,[],r,A,S,w,⟨atR r,[],rfl,rfl⟩,?_,EncP.vl _ hs,hsim,Ext.refl⟩;rw [call_ext hf hb hn h1 h2];simp [hr A S w hsim]
theorem cX576 (x:ByteArray) (y:Int):ValC Tryz.prog GG 576 [atR (.string x),atR (.int .u8 y)] (·=atR (goInt (idxB x y))):=
 valX (vs:=[.string x,.int .u8 y]) Tryz.func576 rfl (funcOk 576 _ (by kernel_rfl)).2 find576 next576 (fun A S w h=>by show (Extern.BytealgIndexByte.indexByte #[.string x,.int .u8 y]).run _ _=_;rw [idx576];rfl) rfl
theorem cX525 (x:ByteArray) (y:Int):ValC Tryz.prog GG 525 [atR (.string x),atR (.int .u8 y)] (·=atR (goInt (cntB x y))):=
 valX (vs:=[.string x,.int .u8 y]) Tryz.func525 rfl (funcOk 525 _ (by kernel_rfl)).2 find525 next525 (fun A S w h=>by rfl) rfl
def idxS (x y:ByteArray):Int:=match (List.range (x.size+1 - y.size)).find? fun i=>x.extract i (i+y.size)==y with
 | some i=>i
 | none=> -1
def idxBody (s1 s2:String) (a b:Value):Sem Value:=do
  let a ← Extern.Bytes.bytesOf a
  let b ← Extern.Bytes.bytesOf b
  if b.size<2 || (b.size:Int)>(← Extern.BytealgIndex.maxLen) then
   unsupported (.noEntry s1)
  if a.size≥2^32 - 15 then
   unsupported (.noEntry s2)
  match (List.range (a.size+1 - b.size)).find? fun i=>a.extract i (i+b.size)==b with
  | some i=>pure (goInt i)
  | none=>pure (goInt (-1))
theorem index_is (a b:Value):∃s1 s2,Extern.BytealgIndex.index #[a,b]=idxBody s1 s2 a b:=⟨_,_,rfl⟩
theorem cX521 (x y:ByteArray) (h2:2≤y.size) (hm:(y.size:Int)≤MaxL.m) (hx:x.size<1000):ValC Tryz.prog GG 521 [atR (.string x),atR (.string y)] (·=atR (goInt (idxS x y))):=by
 refine valX (vs:=[.string x,.string y]) Tryz.func521 rfl (funcOk 521 _ (by kernel_rfl)).2 find521 next521 (fun A S w h=> ?_) rfl;have hg:=(h.gl 1 [.int .i64 MaxL.m] rfl).2 0 _ rfl;have hml:(Extern.BytealgIndex.maxLen).run Tryz.prog w= .ok MaxL.m w:=by
  have hga:∀s,(Tryz.prog.globals.findIdx? fun g=>g.name==s)=some 1→(globalAddr s).run Tryz.prog w= .ok ⟨1,0,none⟩ w:=fun s hs=>by
   simp only [globalAddr,Sem.run_bind];simp [hs]
  unfold Extern.BytealgIndex.maxLen;simp only [Sem.run_bind];rw [hga]
  ·simp only [Result.andThen_ok,run_load,hg.1,asInt,asIntOf];simp
  ·kernel_rfl
 have hb:(x.size:Nat)<2^32 - 15:=by
                       have:(2:Nat)^32=4294967296:=by decide
                       omega
 have hb2:¬(x.size≥2^32 - 15):=by omega
 have h2':¬(y.size<2):=by omega
 have hm':¬((y.size:Int)>MaxL.m):=by omega
 obtain ⟨s1,s2,hi⟩:=index_is (.string x) (.string y);rw [hi,idxBody];simp only [Extern.Bytes.bytesOf,Sem.run_bind,Sem.run_pure,Result.andThen_ok,hml,h2',hm',decide_false,Bool.or_self,Bool.false_eq_true,if_false,hb2];unfold idxS;split<;>rfl
theorem cX551 (x:RV) (L:List Ob):CalOk Tryz.prog GG (.fn 551) [x] L (fun r L'=>r=x∧L'=L):=by
 refine .inr fun A S w us hsim hus=> ?_;obtain ⟨v,vs,rfl,h1,h2⟩:=hus.uncons;obtain rfl:=h2.nil_inv;refine ⟨x,L,v,A,S,w,⟨rfl,rfl⟩,?_,h1,hsim,Ext.refl⟩;rfl
theorem digits_size (b:Nat):∀(n t:Nat) (acc:Array Value),(Extern.BytealgMakeNoZero.digits n t acc).size=acc.size+n
 | 0,t,acc=>by rfl
 | n+1,t,acc=>by simp [Extern.BytealgMakeNoZero.digits,digits_size b n];omega
def mkzBody (s2 s3:String) (q:Question) (n:Int):Sem Value:=do
   let .slice elem ← underlying 161 | stuck s2
   if (n:Int)<0 || (n:Int)>2^48 then runtimePanic (.error s3)
   let cap ← choose (.appendCap (n:Int).toNat 0 elem)
   askRoom cap
   let bytes ← choose q
   let a ← newRow elem (Extern.BytealgMakeNoZero.digits cap bytes #[])
   pure (.slice (some a) (n:Int).toNat cap)
theorem mkz_is (n:Int):∃s2 s3 q,Extern.BytealgMakeNoZero.makeNoZero #[3] #[161] #[.int .i64 n]=mkzBody s2 s3 q n∧∀w:World,(choose q).run Tryz.prog w= .ok (w.tape w.drawn q) {w with drawn:=w.drawn+1}:=⟨_,_,_,rfl,fun _=>rfl⟩
theorem cX552 (n:Nat) (hn:n≤1000) (L:List Ob):CalOk Tryz.prog GG (.fn 552) [atR (.int .i64 n)] L (fun r L'=>r= .v (.one (.lsl L.length 0 n 1))∧L'=L++[.tc 5 [] true]):=by
 refine .inr fun A S w us hsim hus=> ?_;obtain ⟨v,vs,rfl,h1,h2⟩:=hus.uncons;obtain rfl:=h2.nil_inv;cases h1;have:=tok;have hu:(underlying 161).run Tryz.prog w= .ok (.slice 5) w:=run_und (T:=TT) (by kernel_rfl);have h48:¬((n:Int)<0):=by omega
 have h49:¬((n:Int)>2^48):=by
                     have:(2:Int)^48=281474976710656:=by decide
                     omega
 let cap:=n+w.tape w.drawn (.appendCap n 0 5)%(2^63 - n)
 obtain ⟨s2,s3,q,hi,hq⟩:=mkz_is n
 let by0:=w.tape (w.drawn+1) q
 have hrun:(Extern.BytealgMakeNoZero.makeNoZero #[3] #[161] #[.int .i64 n]).run Tryz.prog w= .ok (.slice (some ⟨w.heap.size,0,none⟩) n cap) (pushW {w with drawn:=w.drawn+1+1} (.cells (Extern.BytealgMakeNoZero.digits cap by0 #[]) 5)):=by
  rw [hi,mkzBody];simp only [Sem.run_bind,hu,Result.andThen_ok,h48,h49,decide_false,Bool.or_self,Bool.false_eq_true,if_false,Sem.run_pure,Int.toNat_natCast];have hask:∀w',(askRoom cap).run Tryz.prog w'= .ok () w':=by
   intro w';unfold askRoom;split<;>rfl
  have hch:(choose (.appendCap n 0 5)).run Tryz.prog w= .ok cap {w with drawn:=w.drawn+1}:=rfl;simp only [hch,Result.andThen_ok,hask,hq,newRow,Sem.run_bind,run_newObj,Sem.run_pure];rfl
 have hs2:Sim GG A S L {w with drawn:=w.drawn+1+1}:=(hsim.drew).drew;have hx2:Ext A S L w A S L {w with drawn:=w.drawn+1+1}:=Ext.drew.trans Ext.drew;obtain ⟨S',q1,q2,q3⟩:=newBuf_ok (cs:=[]) (c:=Extern.BytealgMakeNoZero.digits cap by0 #[]) hs2 5 (Nat.zero_le _) (fun i x hi=>by simp at hi);refine ⟨.v (.one (.lsl L.length 0 n 1)),L++[.tc 5 [] true],_,A,S',_,⟨rfl,rfl⟩,?_,⟨w.heap.size,0,0,cap,q1,rfl,Nat.le_add_right ..,fun _=>⟨rfl,_,5,(0,0),pushW_new {w with drawn:=w.drawn+1+1} _,?_⟩⟩,q2,hx2.trans q3⟩
 ·rw [call_ext Tryz.func552 rfl (funcOk 552 _ (by kernel_rfl)).2 find552 next552]
  simp_all
 ·rw [digits_size by0];simp
def byteR:RV→Option Int
 | .v (.one (.p (.vl (.int .u8 c))))=>some c
 | _=>none
def two2 (g:ByteArray→Int→Int):List RV→Option RV
 | [x,y]=>match strR x,byteR y with
  | some x,some y=>some (atR (goInt (g x y)))
  | _,_=>none
 | _=>none
def prim2 (f:FuncId) (args:List RV):Option RV:=match Nat.beq f 576 with
 | true=>two2 idxB args
 | false=>match Nat.beq f 525 with
  | true=>two2 cntB args
  | false=>prim f args
theorem two2_ok {g:ByteArray→Int→Int} {f:FuncId} (hg:∀x y,ValC Tryz.prog GG f [atR (.string x),atR (.int .u8 y)] (·=atR (goInt (g x y)))) {args:List RV} {r:RV} (h:two2 g args=some r):ValC Tryz.prog GG f args (·=r):=by
 unfold two2 at h;split at h
 ·split at h
  ·rename_i x y a b hx hy;simp at h;subst h;unfold strR at hx;unfold byteR at hy;split at hx
   ·simp at hx;subst hx;split at hy
    ·simp at hy;subst hy;exact hg _ _
    ·simp at hy
   ·simp at hx
  ·simp at h
 ·simp at h
theorem primOk2:∀f args r,prim2 f args=some r→ValC Tryz.prog GG f args (·=r):=by
 intro f args r h;unfold prim2 at h;split at h
 ·rename_i hf;have:=Nat.eq_of_beq_eq_true hf;subst this;exact two2_ok cX576 h
 ·split at h
  ·rename_i hf;have:=Nat.eq_of_beq_eq_true hf;subst this;exact two2_ok cX525 h
  ·exact primOk f args r h
def extF (f:FuncId) (args:List RV) (hp:List Ob):Option (RV×List Ob):=match Nat.beq f 551 with
 | true=>match args with
  | [x]=>some (x,hp)
  | _=>none
 | false=>match Nat.beq f 552 with
  | true=>match args with
   | [.v (.one (.p (.vl (.int .i64 (.ofNat n)))))]=>match Nat.ble n 1000 with
    | true=>some (.v (.one (.lsl hp.length 0 n 1)),hp++[.tc 5 [] true])
    | false=>none
   | _=>none
  | false=>none
theorem extOk:∀f args hp r hp',extF f args hp=some (r,hp')→CalOk Tryz.prog GG (.fn f) args hp fun r' L'=>r'=r∧L'=hp':=by
 intro f args hp r hp' h;unfold extF at h;split at h
 ·rename_i hf;have:=Nat.eq_of_beq_eq_true hf;subst this;split at h
  ·simp at h;obtain ⟨rfl,rfl⟩:=h;exact cX551 _ _
  ·simp at h
 ·split at h
  ·rename_i hf;have:=Nat.eq_of_beq_eq_true hf;subst this;split at h
   ·split at h
    ·rename_i hn;simp at h;obtain ⟨rfl,rfl⟩:=h;exact cX552 _ (Nat.le_of_ble_eq_true hn) _
    ·simp at h
   ·simp at h
  ·simp at h
noncomputable def CD:Conf:={P:=Tryz.prog,T:=TT,G:=GG,func:=fun f=>fns.get f,own:=ownF,val:=tabVal ents 0 prim2,ext:=extF}
theorem kvL {f:FuncId} {args:List RV} {r:RV} (h:valOf (callN CD 30000 200) f args=some r):ValC Tryz.prog GG f args (·=r):=
 ValC.of_run (C:=CD) (Conf.Base.ok (prim:=prim2) ⟨tok,wf,mix,funcOk,primOk2,extOk⟩ EntOk.zero rfl) h
theorem okD:CD.Ok:=Conf.Base.ok (prim:=prim2) ⟨tok,wf,mix,funcOk,primOk2,extOk⟩ EntOk.zero rfl
noncomputable def prim3 (f:FuncId) (args:List RV):Option RV:=match Nat.beq f 231 with
 | true=>runDef CD (callN CD 30000 200) 30000 231 args
 | false=>prim2 f args
theorem primOk3:∀f args r,prim3 f args=some r→ValC Tryz.prog GG f args (·=r):=by
 intro f args r h;unfold prim3 at h;split at h
 ·rename_i hf;have:=Nat.eq_of_beq_eq_true hf;subst this;exact runDef_ok okD (callN_sound okD 200) h
 ·exact primOk2 f args r h
noncomputable def CE:Conf:={P:=Tryz.prog,T:=TT,G:=GG,func:=fun f=>fns.get f,own:=ownF,val:=tabVal ents 0 prim3,ext:=extF}
theorem kvE {f:FuncId} {args:List RV} {r:RV} (h:valOf (callN CE 30000 200) f args=some r):ValC Tryz.prog GG f args (·=r):=
 ValC.of_run (C:=CE) (Conf.Base.ok (prim:=prim3) ⟨tok,wf,mix,funcOk,primOk3,extOk⟩ EntOk.zero rfl) h
theorem c521_1 (h:(2:Int)≤MaxL.m):ValC Tryz.prog GG 521 [o (sv ⟨#[97,62,61,45,49,48,48,48]⟩),o (sv ⟨#[62,61]⟩)] (fun r=>r=o (i 1)):=
 cX521 ⟨#[97,62,61,45,49,48,48,48]⟩ ⟨#[62,61]⟩ (by decide) h (by decide)
theorem c521_2 (h:(2:Int)≤MaxL.m):ValC Tryz.prog GG 521 [o (sv ⟨#[98,62,61,53]⟩),o (sv ⟨#[62,61]⟩)] (fun r=>r=o (i 1)):=
 cX521 ⟨#[98,62,61,53]⟩ ⟨#[62,61]⟩ (by decide) h (by decide)
theorem c520_1:ValC Tryz.prog GG 520 [o (sv ⟨#[62,61,45,49,48,48]⟩),o (.p (.vl (.int .u8 62)))] (fun r=>r=o (i 0)):=kvL (by kernel_rfl)
theorem c520_2:ValC Tryz.prog GG 520 [o (sv ⟨#[62,61]⟩),o (.p (.vl (.int .u8 62)))] (fun r=>r=o (i 0)):=kvL (by kernel_rfl)
theorem c436_1:ValC Tryz.prog GG 436 [o (sv ⟨#[97,62,61,45,49,48,48,48]⟩),o (sv ⟨#[62,61]⟩)] (fun r=>r=o (i 1)):=by
 refine vX (fn:=Tryz.f436)<| yB 46 40 (2≤MaxL.m) (fun _=> ?_) fun _=> ?_
 ·refine yV 11 (c521_1 (by omega))<| yF 2 (o (i 1)) ?_
  rfl
 refine yP 41 [] 143 (pT Tryz.f436 [1,1,1,1,1,1,1,1,0,0,0]) (α:=(Int)) (fun k=>k=0∧0≤k) (fun k=>0) (fun k=>([(0,o (.p (.vl (vs [97,62,61,45,49,48,48,48])))),(1,o (.p (.vl (vs [62,61])))),(5,o (i 2)),(6,o (.p (.vl (.int .u8 62)))),(7,o (.p (.vl (.int .u8 61)))),(8,o (i 0)),(9,o (i 7)),(10,o (i k))],[])) 0 (by exact ⟨rfl,by omega⟩) ?_;rintro k hI ih10 J
 try dsimp only at hI ih10 ⊢
 obtain ⟨_,_⟩:=hI;refine yV 28 c520_1<| yF 43 (o (i 1)) ?_
 rfl
theorem c436_2:ValC Tryz.prog GG 436 [o (sv ⟨#[98,62,61,53]⟩),o (sv ⟨#[62,61]⟩)] (fun r=>r=o (i 1)):=by
 refine vX (fn:=Tryz.f436)<| yB 46 40 (2≤MaxL.m) (fun _=> ?_) fun _=> ?_
 ·refine yV 11 (c521_2 (by omega))<| yF 2 (o (i 1)) ?_
  rfl
 refine yP 41 [] 143 (pT Tryz.f436 [1,1,1,1,1,1,1,1,0,0,0]) (α:=(Int)) (fun k=>k=0∧0≤k) (fun k=>0) (fun k=>([(0,o (.p (.vl (vs [98,62,61,53])))),(1,o (.p (.vl (vs [62,61])))),(5,o (i 2)),(6,o (.p (.vl (.int .u8 62)))),(7,o (.p (.vl (.int .u8 61)))),(8,o (i 0)),(9,o (i 3)),(10,o (i k))],[])) 0 (by exact ⟨rfl,by omega⟩) ?_;rintro k hI ih10 J
 try dsimp only at hI ih10 ⊢
 obtain ⟨_,_⟩:=hI;refine yV 28 c520_2<| yF 43 (o (i 1)) ?_
 rfl
def is436 (x y:RV):Bool:=match strR x,strR y with
 | some a,some b=>match decide (b.data.toList=[62,61]) with
  | true=>decide (a.data.toList=[97,62,61,45,49,48,48,48]) || decide (a.data.toList=[98,62,61,53])
  | false=>false
 | _,_=>false
theorem bytes_eq {a:ByteArray} {l:List UInt8} (h:a.data.toList=l):a=⟨l.toArray⟩:=by
 cases a with
 | mk d=>simp at h;subst h;simp
theorem strR_at {x:RV} {a:ByteArray} (h:strR x=some a):x=atR (.string a):=by
 unfold strR at h;split at h
 ·simp at h;subst h;rfl
 ·simp at h
noncomputable def prim4 (f:FuncId) (args:List RV):Option RV:=match Nat.beq f 436 with
 | true=>match args with
  | [x,y]=>match is436 x y with
   | true=>some (atR (.int .i64 1))
   | false=>none
  | _=>none
 | false=>prim3 f args
theorem primOk4:∀f args r,prim4 f args=some r→ValC Tryz.prog GG f args (·=r):=by
 intro f args r h;unfold prim4 at h;split at h
 ·rename_i hf;have:=Nat.eq_of_beq_eq_true hf;subst this;split at h
  ·rename_i x y;split at h
   ·rename_i hxy;simp at h;subst h;unfold is436 at hxy;split at hxy
    ·rename_i a b ha hb;split at hxy
     ·rename_i h2;simp only [Bool.or_eq_true,decide_eq_true_eq] at hxy;rw [strR_at ha,strR_at hb,bytes_eq (of_decide_eq_true h2)]
      rcases hxy with h | h
      ·rw [bytes_eq h];exact c436_1
      ·rw [bytes_eq h];exact c436_2
     ·simp at hxy
    ·simp at hxy
   ·simp at h
  ·simp at h
 ·exact primOk3 f args r h
noncomputable def CF:Conf:={P:=Tryz.prog,T:=TT,G:=GG,func:=fun f=>fns.get f,own:=ownF,val:=tabVal ents 0 prim4,ext:=extF}
theorem kvF {f:FuncId} {args:List RV} {r:RV} (h:valOf (callN CF 30000 200) f args=some r):ValC Tryz.prog GG f args (·=r):=
 ValC.of_run (C:=CF) (Conf.Base.ok (prim:=prim4) ⟨tok,wf,mix,funcOk,primOk4,extOk⟩ EntOk.zero rfl) h
def CelAny (c:Cel):Prop:=∃kk,CelIn kk c.k c.s c.dn c.ds c.n
theorem rows_cel {w:Nat} {Kd:List Int} {R:List (Row w)} {k j:Int} (h:RowsOk Kd R) (h0:0≤k) (h1:k<R.length) (h2:0≤j) (h3:j<w):CelIn (Kd.getD j.toNat 0) ((R.getD k.toNat default).R.getD j.toNat default).k ((R.getD k.toNat default).R.getD j.toNat default).s ((R.getD k.toNat default).R.getD j.toNat default).dn ((R.getD k.toNat default).R.getD j.toNat default).ds ((R.getD k.toNat default).R.getD j.toNat default).n:=by
 have hk:k.toNat<R.length:=by omega
 have e:R.getD k.toNat default=R[k.toNat]:=by rw [List.getD_eq_getElem?_getD,List.getElem?_eq_getElem hk];rfl
 rw [e];exact h _ (List.getElem_mem hk) j.toNat (by rw [(R[k.toNat]).hw];omega)
theorem rows_any {w:Nat} {Kd:List Int} {R:List (Row w)} {k j:Int} (h:RowsOk Kd R) (h0:0≤k) (h1:k<R.length) (h2:0≤j) (h3:j<w):CelAny ((R.getD k.toNat default).R.getD j.toNat default):=⟨_,rows_cel h h0 h1 h2 h3⟩
theorem rows_kind {w:Nat} {Kd:List Int} {R:List (Row w)} {k j:Int} (h:RowsOk Kd R) (h0:0≤k) (h1:k<R.length) (h2:0≤j) (h3:j<w):((R.getD k.toNat default).R.getD j.toNat default).k=0∨((R.getD k.toNat default).R.getD j.toNat default).k=Kd.getD j.toNat 0:=by
 have:=rows_cel h h0 h1 h2 h3;unfold CelIn at this;omega
theorem cit_mem {w:Nat} {k:Int} (h0:0≤k) (h:k<(citL.take w).length):(citL.take w).getD k.toNat default∈citL:=by
 simp_all
theorem c205_f (k:Int) (s:ByteArray) (dn ds n:Int) (h:∃kk,CelIn kk k s dn ds n):ValC Tryz.prog GG 205 [a [i k,sv s,i dn,i ds,i n,nl,nl]] (fun r=>r=o (b true)):=by
 obtain ⟨kk,h⟩:=h
 rcases h with ⟨rfl,rfl,rfl,rfl,rfl⟩ | ⟨_,rfl,h,rfl,rfl,rfl⟩ | ⟨_,rfl,rfl,h,rfl⟩ | ⟨_,rfl,rfl,rfl,rfl,h⟩
 ·exact kvF (by kernel_rfl)
 ·rcases h with rfl | rfl | rfl | rfl<;>exact kvF (by kernel_rfl)
 ·rcases h with ⟨rfl,rfl⟩ | ⟨rfl,rfl⟩ | ⟨rfl,rfl⟩ | ⟨rfl,rfl⟩<;>exact kvF (by kernel_rfl)
 ·rcases h with rfl | rfl | rfl | rfl<;>exact kvF (by kernel_rfl)
theorem c205_0 (c:Cel) (h:CelAny c):ValC Tryz.prog GG 205 [a [i c.k,sv c.s,i c.dn,i c.ds,i c.n,nl,nl]] (fun r=>r=o (b true)):=c205_f _ _ _ _ _ h
theorem c441_0 (s:ByteArray) (h:s∈citL):ValC Tryz.prog GG 441 [o (sv s)] (fun r=>r=o (b true)):=by
 simp only [citL,List.mem_cons,List.mem_nil_iff,or_false] at h
 rcases h with rfl | rfl | rfl | rfl<;>exact kvF (by kernel_rfl)
theorem c220_0 (w:Nat) (k:Int) (h0:0≤k) (h1:k<(citL.take w).length) (hw:w≤4):ValC Tryz.prog GG 220 [o (.p (.sl ((citL.take w).take k.toNat).length (((citL.take w).take k.toNat).flatMap encS))),o (sv ((citL.take w).getD k.toNat default))] (fun r=>r=o (b false)):=by
 have hw':w=0∨w=1∨w=2∨w=3∨w=4:=by omega
 have h2:k<w:=by simp only [List.length_take] at h1;omega
 have hk:k=0∨k=1∨k=2∨k=3:=by omega
 rcases hw' with rfl | rfl | rfl | rfl | rfl<;>rcases hk with rfl | rfl | rfl | rfl<;>first | omega | exact kvF (by kernel_rfl)
theorem c311_0:ValC Tryz.prog GG 311 [a [i 5,sv ⟨#[]⟩,i 0,i 0,i 0,nl,nl]] (fun r=>r=o (b true)):=kvF (by kernel_rfl)
theorem c204_0:ValC Tryz.prog GG 204 [o (sv ⟨#[116]⟩)] (fun r=>r=o (b true)):=kvF (by kernel_rfl)
theorem c83_1:ValC Tryz.prog GG 83 [o (sv ⟨#[116,46,99,105,116,121,46,122,105,112,58,110,117,109,98,101,114]⟩)] (fun r=>r= .tup [.one (sv ⟨#[116]⟩),.one (sv ⟨#[99,105,116,121]⟩),.one (sv ⟨#[122,105,112]⟩),.one (i 2)]):=kvF (by kernel_rfl)
theorem c83_2:ValC Tryz.prog GG 83 [o (sv ⟨#[116,46,99,105,116,121,46,99,105,116,121,58,116,101,120,116]⟩)] (fun r=>r= .tup [.one (sv ⟨#[116]⟩),.one (sv ⟨#[99,105,116,121]⟩),.one (sv ⟨#[99,105,116,121]⟩),.one (i 1)]):=kvF (by kernel_rfl)
theorem c84_1 (w:Nat) (h:2≤w) (h4:w≤4):ValC Tryz.prog GG 84 [o (.p (.sl (citL.take w).length ((citL.take w).flatMap encS))),o (sv ⟨#[122,105,112]⟩)] (fun r=>∃v:Int,r=o (i v)∧v=1):=by
 have hw':w=2∨w=3∨w=4:=by omega
 rcases hw' with rfl | rfl | rfl<;>exact (kvF (r:=o (i 1)) (by kernel_rfl)).mono (fun r h=>⟨1,h,rfl⟩)
theorem c84_2 (w:Nat) (h:w=1):ValC Tryz.prog GG 84 [o (.p (.sl (citL.take w).length ((citL.take w).flatMap encS))),o (sv ⟨#[122,105,112]⟩)] (fun r=>r=o (i (-1))):=by
 subst h;exact kvF (by kernel_rfl)
theorem c84_3 (w:Nat) (h:1≤w) (h4:w≤4):ValC Tryz.prog GG 84 [o (.p (.sl (citL.take w).length ((citL.take w).flatMap encS))),o (sv ⟨#[99,105,116,121]⟩)] (fun r=>∃v:Int,r=o (i v)∧v=0):=by
 have hw':w=1∨w=2∨w=3∨w=4:=by omega
 rcases hw' with rfl | rfl | rfl | rfl<;>exact (kvF (r:=o (i 0)) (by kernel_rfl)).mono (fun r h=>⟨0,h,rfl⟩)
def badZ {w:Nat} (R:List (Row w)):Bool:=R.any fun r=>decide ((r.R.getD 1 default).k≠0∧(r.R.getD 1 default).k≠2)
theorem badZ_true {w:Nat} {R:List (Row w)} {k q:Int} (hq:q=1) (h0:0≤k) (h1:k<R.length) (h2:((R.getD k.toNat default).R.getD q.toNat default).k≠0) (h3:((R.getD k.toNat default).R.getD q.toNat default).k≠2):badZ R=true:=by
 subst hq;rw [show (1:Int).toNat=1 from rfl] at h2 h3;have hk:k.toNat<R.length:=by omega
 have e:R.getD k.toNat default=R[k.toNat]:=by rw [List.getD_eq_getElem?_getD,List.getElem?_eq_getElem hk];rfl
 rw [e] at h2 h3;unfold badZ
 grind
theorem badZ_false {w:Nat} {R:List (Row w)} {k q:Int} (hq:q=1) (h1:¬k<R.length) (h:∀j:Nat,(j:Int)<k→((R.getD j default).R.getD q.toNat default).k=0∨((R.getD j default).R.getD q.toNat default).k=2):badZ R=false:=by
 subst hq;rw [show (1:Int).toNat=1 from rfl] at h;unfold badZ;rw [List.any_eq_false];intro r hr;obtain ⟨j,hj,rfl⟩:=List.mem_iff_getElem.1 hr
 grind
theorem badZ_next {w:Nat} {R:List (Row w)} {k q:Int} (h0:0≤k) (h:∀j:Nat,(j:Int)<k→((R.getD j default).R.getD q.toNat default).k=0∨((R.getD j default).R.getD q.toNat default).k=2) (hn:((R.getD k.toNat default).R.getD q.toNat default).k=0∨((R.getD k.toNat default).R.getD q.toNat default).k=2):∀j:Nat,(j:Int)<k+1→((R.getD j default).R.getD q.toNat default).k=0∨((R.getD j default).R.getD q.toNat default).k=2:=by
 intro j hj
 by_cases e:j=k.toNat
 all_goals grind
theorem row0 {w:Nat} {Kd:List Int} {R:List (Row w)} {k q:Int} (hq:q=0) (h:RowsOk Kd R) (hk:Kd.getD 0 0=1) (h0:0≤k) (h1:k<R.length) (h3:1≤w):((R.getD k.toNat default).R.getD q.toNat default).k=0∨((R.getD k.toNat default).R.getD q.toNat default).k=1:=by
 subst hq;have:=rows_kind (j:=0) h h0 h1 (by omega) (by omega)
 simp_all
theorem c314 (w:Nat) (R:List (Row w)) (z:PV) (Kd:List Int) (h1:1≤w) (h4:w≤4) (hl:(citL.take w).length=w) (hz:IsS encRow R z) (hR:R.length≤6) (hr:RowsOk Kd R):ValC Tryz.prog GG 314 [o (.p (.sl (citL.take w).length ((citL.take w).flatMap encS))),o (.p z)] (fun r=>r=o (b true)):=by
 refine vX (fn:=Tryz.f314)<| yn 11 14 ((↑(List.take w citL).length:Int)>8)<| yL 1 hz<| yn 3 18 ((↑R.length:Int)>100)<| yP 11 [] 64 (pT Tryz.f314 [1,1,0,1,0,0]) (α:=(Int)) (fun k=>0≤k∧k≤(citL.take w).length) (fun k=>((citL.take w).length - k).toNat) (fun k=>([(0,o (.p (.sl ((List.take w citL).length) (List.flatMap encS (List.take w citL))))),(1,o (.p z)),(19,o (.p (.sl ((List.take w citL).length) (List.flatMap encS (List.take w citL))))),(20,o (i ((↑(List.take w citL).length:Int)))),(21,o (i k))],[])) 0 (by omega) ?_
 rintro k hI ih5 J
 try dsimp only at hI ih5 ⊢
 obtain ⟨_,_⟩:=hI;refine yB 5 22 (k<(↑(List.take w citL).length:Int)) (fun _=> ?_) fun _=> ?_
 ·exact yI 7 k (IsS.sl (enc:=encS) (L:=(List.take w citL)))<| yG 0 encS (List.take w citL) k<| yV 6 (c441_0 ((List.take w citL).getD k.toNat default) (by exact cit_mem (by omega) (by omega)))<| yO 4 (sliceQ Tryz.prog TT 42 (o (.p (.sl ((List.take w citL).length) (List.flatMap encS (List.take w citL))))) none (some (o (i k))) none) (rule_sliceHiP (z:=1) (e:=9) (L:=(List.take w citL)) (by kernel_rfl) (by kernel_rfl) (by exact fun _=>rfl) (by omega) (by omega))<| yV 1 (c220_0 w k (by omega) (by omega) (by omega))<| yJ 10 21 (k+1)<| yK 0 [] (ih5 (k+1) (by omega) (by (try dsimp only);omega))
 refine yL 6 hz<| yP 4 [] 64 (pT Tryz.f314 [1,1,1,0,1,0,0]) (α:=(Int)) (fun k=>0≤k∧k≤R.length) (fun k=>(R.length - k).toNat) (fun k=>([(0,o (.p (.sl ((List.take w citL).length) (List.flatMap encS (List.take w citL))))),(37,o (.p z)),(38,o (i ((↑R.length:Int)))),(39,o (i k))],[])) 0 (by omega) ?_
 rintro k hI ih6 J
 try dsimp only at hI ih6 ⊢
 obtain ⟨_,_⟩:=hI;refine yB 5 40 (k<(↑R.length:Int)) (fun _=> ?_) fun _=> ?_
 ·refine yI 6 k hz<| yG 0 encRow R k ?_
  have:=((R.getD k.toNat default)).hw;refine yL 6 ((R.getD k.toNat default)).h ?_;have hb11:¬((↑(R.getD k.toNat default).R.length:Int)≠(↑(List.take w citL).length:Int)):=by omega
  refine yE 4 47 ((bne_eq_false_iff_eq.2 (Decidable.not_not.1 hb11):((↑(R.getD k.toNat default).R.length:Int) !=(↑(List.take w citL).length:Int))=false)) ob<| yL 5 ((R.getD k.toNat default)).h<| yP 4 [] 64 (pT Tryz.f314 [1,1,1,0,1,0,0,1,1,0,0,1,1,1,0,0]) (α:=(Int)) (fun j=>0≤j∧j≤(R.getD k.toNat default).R.length) (fun j=>((R.getD k.toNat default).R.length - j).toNat) (fun j=>([(0,o (.p (.sl ((List.take w citL).length) (List.flatMap encS (List.take w citL))))),(37,o (.p z)),(38,o (i ((↑R.length:Int)))),(39,o (i k)),(48,o (.p ((R.getD k.toNat default).x))),(49,o (i ((↑(R.getD k.toNat default).R.length:Int)))),(50,o (i j))],[])) 0 (by omega) ?_
  rintro j hI ih15 J
  try dsimp only at hI ih15 ⊢
  obtain ⟨_,_⟩:=hI;refine yB 5 51 (j<(↑(R.getD k.toNat default).R.length:Int)) (fun _=> ?_) fun _=> ?_
  ·refine yI 6 j ((R.getD k.toNat default)).h<| yGN 0 encC ((R.getD k.toNat default).R) j 7<| yBe 9 57 (((R.getD k.toNat default).R.getD j.toNat default).k) 5 (fun _=> ?_) fun _=> ?_
   ·refine yF 10 (o (b false)) ?_
    (exfalso;exact Cel.ne5 _ (by assumption))
   exact yV 1 (c205_0 ((R.getD k.toNat default).R.getD j.toNat default) (by exact rows_any (by assumption) (by omega) (by omega) (by omega) (by omega)))<| yJ 11 50 (j+1)<| yK 0 [] (ih15 (j+1) (by omega) (by (try dsimp only);omega))
  exact yJ 8 39 (k+1)<| yK 0 [] (ih6 (k+1) (by omega) (by (try dsimp only);omega))
 refine yF 6 (o (b true)) ?_;rfl
theorem c205_5 (w:Nat) (R:List (Row w)) (z:PV) (Kd:List Int) (h1:1≤w) (h4:w≤4) (hl:(citL.take w).length=w) (hz:IsS encRow R z) (hR:R.length≤6) (hr:RowsOk Kd R):ValC Tryz.prog GG 205 [a [i 5,sv ⟨#[]⟩,i 0,i 0,i 0,.p (.sl (citL.take w).length ((citL.take w).flatMap encS)),.p z]] (fun r=>r=o (b true)):=by
 refine vX (fn:=Tryz.f205)<| yV 67 (c314 _ _ _ _ (by omega) (by omega) (by omega) hz (by omega) hr)<| yV 2 c311_0<| yF 3 (o (b true)) ?_
 rfl
theorem kd_step {w:Nat} {Kd:List Int} {R:List (Row w)} {k j:Int} (h:RowsOk Kd R) (h0:0≤k) (h1:k<R.length) (h2:0≤j) (h3:j<w) (hn:((R.getD k.toNat default).R.getD j.toNat default).k≠0):((R.getD k.toNat default).R.getD j.toNat default).k=Kd.getD j.toNat 0:=by
 rcases rows_kind h h0 h1 h2 h3 with h | h
 ·exact (hn h).elim
 exact h
theorem c85 (w:Nat) (R:List (Row w)) (z:PV) (Kd:List Int) (h1:1≤w) (h4:w≤4) (hl:(citL.take w).length=w) (hz:IsS encRow R z) (hR:R.length≤6) (hr:RowsOk Kd R):ValC Tryz.prog GG 85 [a [sv ⟨#[116]⟩,.p (.sl (citL.take w).length ((citL.take w).flatMap encS)),.p z]] (fun r=>r=o (b true)):=by
 refine vX (fn:=Tryz.f85)<| yV 10 c204_0 ?_
 have:¬((↑(List.take w citL).length:Int)=0):=by omega
 refine yu 8 16 (↑(List.take w citL).length:Int) 0<| yV 10 (c205_5 _ _ _ _ (by omega) (by omega) (by omega) hz (by omega) hr)<| yP 14 [0] 61 (pT Tryz.f85 [1,1,1,0,1,0,0]) (α:=(Int)) (fun q=>0≤q∧q≤(citL.take w).length) (fun q=>((citL.take w).length - q).toNat) (fun q=>([(1,o (.ref 0 0)),(26,o (i ((↑(List.take w citL).length:Int)))),(27,o (i q))],[.cells [.p (.vl (vs [116])),.p (.sl ((List.take w citL).length) (List.flatMap encS (List.take w citL))),.p z] false])) 0 (by omega) ?_
 rintro q hI ih6 J
 try dsimp only at hI ih6 ⊢
 obtain ⟨_,_⟩:=hI;refine yB 5 28 (q<(↑(List.take w citL).length:Int)) (fun _=> ?_) fun _=> ?_
 ·refine yL 17 hz<| yP 4 [0] 61 (pT Tryz.f85 [1,1,1,0,1,0,0,1,1,0,0,1,1,1,0,0]) (α:=(Int×Int)) (fun (k,kd)=>0≤k∧k≤R.length∧(kd=0∨kd=Kd.getD q.toNat 0)) (fun (k,kd)=>(R.length - k).toNat) (fun (k,kd)=>([(1,o (.ref 0 0)),(3,o (i q)),(4,o (i kd)),(26,o (i ((↑(List.take w citL).length:Int)))),(27,o (i q)),(31,o (.p z)),(32,o (i ((↑R.length:Int)))),(33,o (i k))],[.cells [.p (.vl (vs [116])),.p (.sl ((List.take w citL).length) (List.flatMap encS (List.take w citL))),.p z] false])) (0,0) (by omega) ?_
  rintro ⟨k,kd⟩ hI ih15 J
  try dsimp only at hI ih15 ⊢
  obtain ⟨_,_,_⟩:=hI;refine yB 5 34 (k<(↑R.length:Int)) (fun _=> ?_) fun _=> ?_
  ·refine yI 6 k hz<| yG 0 encRow R k ?_
   have:=((R.getD k.toNat default)).hw;refine yI 7 q ((R.getD k.toNat default)).h<| yG 1 encC ((R.getD k.toNat default).R) q<| yBe 2 42 (((R.getD k.toNat default).R.getD q.toNat default).k) 0 (fun _=> ?_) fun _=> ?_
   ·exact yJ 7 33 (k+1)<| yK 0 [0] (ih15 ((k+1),kd) (by omega) (by (try dsimp only);omega))
   refine yBn 8 45 kd 0 (fun _=> ?_) fun _=> ?_
   ·refine yI 3 q ((R.getD k.toNat default)).h<| yG 1 encC ((R.getD k.toNat default).R) q<| yBn 3 53 kd (((R.getD k.toNat default).R.getD q.toNat default).k) (fun _=> ?_) fun _=> ?_
    ·refine yF 5 (o (b false)) ?_
     (exfalso;have hh:=rows_kind (k:=k) (j:=q) hr (by omega) (by omega) (by omega) (by omega);omega)
    exact yI 5 q ((R.getD k.toNat default)).h<| yG 1 encC ((R.getD k.toNat default).R) q<| yJ 8 33 (k+1)<| yK 0 [0] (ih15 ((k+1),(((R.getD k.toNat default).R.getD q.toNat default).k)) (by omega) (by (try dsimp only);omega))
   exact yI 14 q ((R.getD k.toNat default)).h<| yG 1 encC ((R.getD k.toNat default).R) q<| yJ 8 33 (k+1)<| yK 0 [0] (ih15 ((k+1),(((R.getD k.toNat default).R.getD q.toNat default).k)) (by exact ⟨by omega,by omega,.inr (kd_step hr (by omega) (by omega) (by omega) (by omega) (by assumption))⟩) (by (try dsimp only);omega))
  exact yJ 8 27 (q+1)<| yK 0 [0] (ih6 (q+1) (by omega) (by (try dsimp only);omega))
 refine yF 6 (o (b true)) ?_;rfl
theorem c31 (w:Nat) (R:List (Row w)) (z:PV) (Kd:List Int) (h1:1≤w) (h4:w≤4) (hl:(citL.take w).length=w) (hz:IsS encRow R z) (hR:R.length≤6) (hr:RowsOk Kd R):ValC Tryz.prog GG 31 [o (.p (.sl 1 [.vl (vs [116]),.sl (citL.take w).length ((citL.take w).flatMap encS),z])),o (sv ⟨#[116]⟩)] (fun r=>r= .tup [.agg [sv ⟨#[116]⟩,.p (.sl (citL.take w).length ((citL.take w).flatMap encS)),.p z],.one (b true)]):=by
 refine vX (fn:=Tryz.f31)<| yP 14 [0] 25 (pT Tryz.f31 [1,0,1,0,0]) (α:=(Int)) (fun k=>k=1∧0≤k) (fun k=>0) (fun k=>([(1,o (.p (.vl (vs [116])))),(4,o (.ref 0 0)),(8,o (.p (.sl 1 [(.vl (vs [116])),(.sl ((List.take w citL).length) (List.flatMap encS (List.take w citL))),z]))),(9,o (i k)),(10,o (i 0))],[.cells [.p (.vl (vs [])),nl,nl] false])) 1 (by exact ⟨rfl,by omega⟩) ?_
 rintro k hI ih4 J
 try dsimp only at hI ih4 ⊢
 obtain ⟨_,_⟩:=hI;refine yp 5 11 (0<k)<| yV 19 (c85 _ _ _ _ (by omega) (by omega) (by omega) hz (by omega) hr)<| yF 9 (.tup [.agg [.p (.vl (vs [116])),.p (.sl ((List.take w citL).length) (List.flatMap encS (List.take w citL))),.p z],.one (b true)]) ?_
 rfl
theorem c30_1 (w:Nat) (R:List (Row w)) (z:PV) (Kd:List Int) (h1:2≤w) (h4:w≤4) (hl:(citL.take w).length=w) (hz:IsS encRow R z) (hR:R.length≤6) (hr:RowsOk Kd R):ValC Tryz.prog GG 30 [o (sv ⟨#[116,46,99,105,116,121,46,122,105,112,58,110,117,109,98,101,114]⟩),o (.p (.sl 1 [.vl (vs [116]),.sl (citL.take w).length ((citL.take w).flatMap encS),z]))] (fun r=>r=o (i (if badZ R then 14 else 0))):=by
 refine vX (fn:=Tryz.f30)<| yV 7 c83_1<| yV 14 (c31 _ _ _ _ (by omega) (by omega) (by omega) hz (by omega) hr)<| yC 20 (c84_1 w (by omega) (by omega)) ?_
 rintro _ ⟨v0,rfl,_⟩;refine yn 8 36 (v0<0)<| yC 3 (c84_3 w (by omega) (by omega)) ?_
 rintro _ ⟨v3,rfl,_⟩;refine yn 3 42 (v3<0)<| yL 7 hz<| yP 4 [] 63 (pT Tryz.f30 [1,1,1,1,1,1,0,1,0,0]) (α:=(Int×Int)) (fun (k,q)=>q=1∧0≤k∧k≤R.length∧(∀j:Nat,(j:Int)<k→((R.getD j default).R.getD q.toNat default).k=0∨((R.getD j default).R.getD q.toNat default).k=2)) (fun (k,q)=>(R.length - k).toNat) (fun (k,q)=>([(8,o (i 2)),(11,o (i q)),(44,o (.p z)),(45,o (i ((↑R.length:Int)))),(46,o (i k))],[])) (0,v0) (by exact ⟨by omega,by omega,by omega,by omega⟩) ?_
 rintro ⟨k,q⟩ hI ih9 J
 try dsimp only at hI ih9 ⊢
 obtain ⟨_,_,_,_⟩:=hI;refine yB 5 47 (k<(↑R.length:Int)) (fun _=> ?_) fun _=> ?_
 ·refine yI 6 k hz<| yG 0 encRow R k ?_
  have:=((R.getD k.toNat default)).hw;refine yI 6 q ((R.getD k.toNat default)).h<| yG 1 encC ((R.getD k.toNat default).R) q<| yBn 7 57 (((R.getD k.toNat default).R.getD q.toNat default).k) 0 (fun _=> ?_) fun _=> ?_
  ·refine yBn 5 61 (((R.getD k.toNat default).R.getD q.toNat default).k) 2 (fun _=> ?_) fun _=> ?_
   ·refine yF 5 (o (i 14)) ?_
    (rw [badZ_true (k:=k) (q:=q) (by omega) (by omega) (by omega) (by omega) (by omega)];rfl)
   exact yJ 8 46 (k+1)<| yK 0 [] (ih9 ((k+1),q) (by exact ⟨by omega,by omega,by omega,badZ_next (q:=q) (k:=k) (by omega) (by assumption) (.inr (by omega))⟩) (by (try dsimp only);omega))
  exact yJ 13 46 (k+1)<| yK 0 [] (ih9 ((k+1),q) (by exact ⟨by omega,by omega,by omega,badZ_next (q:=q) (k:=k) (by omega) (by assumption) (.inl (by omega))⟩) (by (try dsimp only);omega))
 refine yF 6 (o (i 0)) ?_
 (rw [badZ_false (k:=k) (q:=q) (by omega) (by omega) (by assumption)];rfl)
theorem c30_0 (w:Nat) (R:List (Row w)) (z:PV) (Kd:List Int) (h1:w=1) (hl:(citL.take w).length=w) (hz:IsS encRow R z) (hR:R.length≤6) (hr:RowsOk Kd R):ValC Tryz.prog GG 30 [o (sv ⟨#[116,46,99,105,116,121,46,122,105,112,58,110,117,109,98,101,114]⟩),o (.p (.sl 1 [.vl (vs [116]),.sl (citL.take w).length ((citL.take w).flatMap encS),z]))] (fun r=>r=o (i 13)):=by
 refine vX (fn:=Tryz.f30)<| yV 7 c83_1<| yV 14 (c31 _ _ _ _ (by omega) (by omega) (by omega) hz (by omega) hr)<| yV 20 (c84_2 w (by omega))<| yF 20 (o (i 13)) ?_
 rfl
theorem c30_2 (w:Nat) (R:List (Row w)) (z:PV) (Kd:List Int) (h1:1≤w) (h4:w≤4) (hl:(citL.take w).length=w) (hz:IsS encRow R z) (hR:R.length≤6) (hk:Kd.getD 0 0=1) (hr:RowsOk Kd R):ValC Tryz.prog GG 30 [o (sv ⟨#[116,46,99,105,116,121,46,99,105,116,121,58,116,101,120,116]⟩),o (.p (.sl 1 [.vl (vs [116]),.sl (citL.take w).length ((citL.take w).flatMap encS),z]))] (fun r=>r=o (i 0)):=by
 refine vX (fn:=Tryz.f30)<| yV 7 c83_2<| yV 14 (c31 _ _ _ _ (by omega) (by omega) (by omega) hz (by omega) hr)<| yC 20 (c84_3 w (by omega) (by omega)) ?_
 rintro _ ⟨v0,rfl,_⟩;refine yn 8 36 (v0<0)<| yC 3 (c84_3 w (by omega) (by omega)) ?_
 rintro _ ⟨v3,rfl,_⟩;refine yn 3 42 (v3<0)<| yL 7 hz<| yP 4 [] 63 (pT Tryz.f30 [1,1,1,1,1,1,0,1,0,0]) (α:=(Int×Int)) (fun (k,q)=>q=0∧0≤k∧k≤R.length) (fun (k,q)=>(R.length - k).toNat) (fun (k,q)=>([(8,o (i 1)),(11,o (i q)),(44,o (.p z)),(45,o (i ((↑R.length:Int)))),(46,o (i k))],[])) (0,v0) (by omega) ?_
 rintro ⟨k,q⟩ hI ih9 J
 try dsimp only at hI ih9 ⊢
 obtain ⟨_,_,_⟩:=hI;refine yB 5 47 (k<(↑R.length:Int)) (fun _=> ?_) fun _=> ?_
 ·refine yI 6 k hz<| yG 0 encRow R k ?_
  have:=((R.getD k.toNat default)).hw;refine yI 6 q ((R.getD k.toNat default)).h<| yG 1 encC ((R.getD k.toNat default).R) q<| yBn 7 57 (((R.getD k.toNat default).R.getD q.toNat default).k) 0 (fun _=> ?_) fun _=> ?_
  ·refine yBn 5 61 (((R.getD k.toNat default).R.getD q.toNat default).k) 1 (fun _=> ?_) fun _=> ?_
   ·refine yF 5 (o (i 14)) ?_
    (exfalso;have hh:=row0 (k:=k) (q:=q) (by omega) hr hk (by omega) (by omega) (by omega);omega)
   exact yJ 8 46 (k+1)<| yK 0 [] (ih9 ((k+1),q) (by omega) (by (try dsimp only);omega))
  exact yJ 13 46 (k+1)<| yK 0 [] (ih9 ((k+1),q) (by omega) (by (try dsimp only);omega))
 refine yF 6 (o (i 0)) ?_;rfl
theorem okF:CF.Ok:=Conf.Base.ok (prim:=prim4) ⟨tok,wf,mix,funcOk,primOk4,extOk⟩ EntOk.zero rfl
def baseP (w:Nat) (z:PV):PV:= .sl 1 [.vl (vs [116]),.sl (citL.take w).length ((citL.take w).flatMap encS),z]
theorem cit_len {w:Nat} (h:w≤4):(citL.take w).length=w:=by
 rw [List.length_take];show min w 4=w;omega
theorem c6_r39 (cc:PV) (w:Nat) (R:List (Row w)) (z:PV) (Kd:List Int) (h1:1≤w) (h4:w≤4) (hz:IsS encRow R z) (hR:R.length≤6) (hr:RowsOk Kd R):
  ValC Tryz.prog GG 6 [o (sv ⟨#[108,111,111,107,117,112]⟩),o (sv ⟨#[116,46,99,105,116,121,46,122,105,112,58,110,117,109,98,101,114]⟩),o (.p (baseP w z)),o (.p cc)]
   (fun r=>r=if w<2 then .tup [.one nl,.one (i 0),.one (i 13)] else if badZ R then .tup [.one nl,.one (i 0),.one (i 14)] else .tup [.one (.p (.sl 1 [.vl (vi 1)])),.one (i 2),.one (i 0)]):=by
 by_cases hw:w<2
 ·rw [if_pos hw];refine ValC.split (C:=CF) okF (call:=callN CF 30000 200) (callN_sound okF 200) (k:=30000) (m:=5) (by kernel_rfl) (c30_0 w R z Kd (by omega) (cit_len h4) hz hR hr) ?_;rintro r rfl;refine ⟨_,?_,rfl⟩;kernel_rfl
 ·rw [if_neg hw];refine ValC.split (C:=CF) okF (call:=callN CF 30000 200) (callN_sound okF 200) (k:=30000) (m:=5) (by kernel_rfl) (c30_1 w R z Kd (by omega) h4 (cit_len h4) hz hR hr) ?_;rintro r rfl;cases badZ R
  ·refine ⟨_,?_,rfl⟩;kernel_rfl
  ·refine ⟨_,?_,rfl⟩;kernel_rfl
theorem c6_r40 (cc:PV) (w:Nat) (R:List (Row w)) (z:PV) (Kd:List Int) (h1:1≤w) (h4:w≤4) (hz:IsS encRow R z) (hR:R.length≤6) (hk:Kd.getD 0 0=1) (hr:RowsOk Kd R):
  ValC Tryz.prog GG 6 [o (sv ⟨#[108,111,111,107,117,112]⟩),o (sv ⟨#[116,46,99,105,116,121,46,99,105,116,121,58,116,101,120,116]⟩),o (.p (baseP w z)),o (.p cc)]
   (fun r=>r= .tup [.one (.p (.sl 1 [.vl (vi 1)])),.one (i 1),.one (i 0)]):=by
 refine ValC.split (C:=CF) okF (call:=callN CF 30000 200) (callN_sound okF 200) (k:=30000) (m:=5) (by kernel_rfl) (c30_2 w R z Kd (by omega) h4 (cit_len h4) hz hR hk hr) ?_;rintro r rfl;refine ⟨_,?_,rfl⟩;kernel_rfl
theorem c6_r41 (cc:PV) (w:Nat) (R:List (Row w)) (z:PV) (Kd:List Int) (h1:1≤w) (h4:w≤4) (hz:IsS encRow R z) (hR:R.length≤6) (hr:RowsOk Kd R):
  ValC Tryz.prog GG 6 [o (sv ⟨#[116,97,98,108,101]⟩),o (sv ⟨#[116]⟩),o (.p (baseP w z)),o (.p cc)]
   (fun r=>r= .tup [.one nl,.one (i 5),.one (i 0)]):=by
 refine ValC.split (C:=CF) okF (call:=callN CF 30000 200) (callN_sound okF 200) (k:=30000) (m:=5) (by kernel_rfl) (c31 w R z Kd h1 h4 (cit_len h4) hz hR hr) ?_;rintro r rfl;refine ⟨_,?_,rfl⟩;kernel_rfl
end Go.Sx.E1
