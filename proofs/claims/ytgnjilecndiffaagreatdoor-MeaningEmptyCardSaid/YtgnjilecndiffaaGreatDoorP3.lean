/- A part of the proof of MeaningEmpty. -/
import Derived.Lib.Builder
import Derived.Lib.UnsafeStr
import Derived.Test.YtgnjilecndiffaaGreatDoorP2
set_option linter.all false
set_option maxRecDepth 1000000
set_option maxHeartbeats 0
namespace Go.Sx
section
variable {P:Program} {T:Tab} [TOk P T] {G:Globs} {A:Nat→Prop} {S:Where} {L:List Ob} {w:World}
theorem info_of_sz {t:TypeId} {n:Nat} (h:szOf T t=some (n+1)):∃i,P.info? t=some i∧i.size≠0:=by
 unfold szOf at h;cases hi:T.info t with
 | none=>simp [hi] at h
 | some i=>simp [hi] at h;exact ⟨i,TOk.info t i hi,by omega⟩
theorem convRef_ok (hs:Sim G A S L w) {s d:TypeId} {b o:Nat} {r:RV} {v:Value} {L':List Ob} (h:convRef P T s d b o L=some (r,L')) (hx:RelR A S w (.v (.one (.ref b o))) v):
  ValOk P G A S L w (convert s d v) r L':=by
 obtain ⟨B,dd,q1,rfl⟩:=hx;unfold convRef at h;split at h
 ·rename_i t e cs hu1 hu2 hL;split at h
  ·rename_i n hn;split at h
   ·rename_i ho;simp at h;obtain ⟨rfl,rfl⟩:=h;obtain ⟨B',c,fr,h1,h2,h3,_⟩:=hs.ob b _ hL;rw [q1] at h1;simp only [Option.some.injEq,Prod.mk.injEq] at h1;obtain ⟨rfl,rfl⟩:=h1;obtain ⟨i,hi,hi0⟩:=info_of_sz (P:=P) hn;refine ValOk.still hs (Lib.run_to_unsafe w (e:=e) (cells:=c.size) ⟨B,0+o,none⟩ (TOk.und _ _ hu1) (TOk.und _ _ hu2) hi hi0 ?_ ?_) ⟨B,0,q1,rfl⟩
    ·simp [World.shape?,h2]
    ·simp;omega
   ·simp at h
  ·simp at h
 ·rename_i u e cs hu1 hu2 hL;split at h
  ·rename_i n hn;split at h
   ·rename_i hlies;simp at h;obtain ⟨rfl,rfl⟩:=h;obtain ⟨B',c,fr,h1,h2,h3,h4,_⟩:=hs.ob b _ hL;rw [q1] at h1;simp only [Option.some.injEq,Prod.mk.injEq] at h1;obtain ⟨rfl,rfl⟩:=h1;obtain ⟨i,hi,hi0⟩:=info_of_sz (P:=P) hn;have hsz:=(h4 rfl).1;refine ValOk.still hs (Lib.run_from_unsafe w (e:=e) (cells:=c.size) ⟨B,0+o,none⟩ (TOk.und _ _ hu1) (TOk.und _ _ hu2) hi ?_ ?_) ⟨B,0,q1,rfl⟩
    ·simp [World.shape?,h2]
    simp_all
   ·simp at h
  ·simp at h
 ·simp at h
theorem sliceDataA_ok (hs:Sim G A S L w) {args:List RV} {vs:List Value} {ats:Array TypeId} {ty:TypeId} {r:RV} {L':List Ob} (h:sliceDataA args L=some (r,L')) (hx:RelV A S w args vs):
  ValOk P G A S L w (Builtin.unsafeSliceData_ ats ty vs.toArray) r L':=by
 unfold sliceDataA at h;split at h
 ·rename_i b o n z;simp at h;obtain ⟨rfl,rfl⟩:=h;obtain ⟨v,vs',rfl,h1,h2⟩:=hx.uncons;have:=h2.nil_inv;subst this;obtain ⟨B,d,q,cap,p1,rfl,p2,p3⟩:=h1;obtain ⟨rfl,_⟩:=p3 (by omega);exact ValOk.still hs (Lib.run_unsafeSliceData_row w ats ty _ _ cap (by omega)) ⟨B,d,p1,rfl⟩
 ·simp at h
theorem capA_ok (hs:Sim G A S L w) {args:List RV} {vs:List Value} {ats:Array TypeId} {ty:TypeId} {r:RV} {L':List Ob} (h:capA T ats args L=some (r,L')) (hx:RelV A S w args vs):
  ValOk P G A S L w (Builtin.cap_ ats ty vs.toArray) r L':=by
 unfold capA at h;split at h
 ·rename_i e hu;simp at h;obtain ⟨rfl,rfl⟩:=h;obtain ⟨t0,h0,hu0⟩:=Option.bind_eq_some_iff.1 hu;obtain ⟨v,vs',rfl,h1,h2⟩:=hx.uncons;have:=h2.nil_inv;subst this;cases h1;refine ValOk.still hs (v:=goInt 0) ?_ (.vl _ rfl);simp [Builtin.cap_,h0,run_und hu0]
 ·simp at h
theorem byteList:∀{cs:List LV} {l:List UInt8} {vs:List Value},bytesOf cs=some l→RelL A S w cs vs→∃ns:List Int,vs=ns.map (Value.int .u8)∧l=ns.map fun n=>UInt8.ofNat n.toNat
 | [],l,vs,h,hr=>by simp [bytesOf] at h;subst h;rw [hr.nil_inv];simp_all
 | y::cs,l,vs,h,hr=>by
  obtain ⟨v,vs',rfl,h1,h2⟩:=hr.uncons;cases y with
  | p y=>
   cases y with
   | vl u=>
    cases u with
    | int k n=>
     cases k<;>simp [bytesOf] at h
     obtain ⟨l',hl',rfl⟩:=h;cases h1;obtain ⟨ns,rfl,rfl⟩:=byteList hl' h2;exact ⟨n::ns,rfl,rfl⟩
    | _=>simp [bytesOf] at h
   | sl _ _=>simp [bytesOf] at h
  | _=>simp [bytesOf] at h
theorem loadBytes_run:∀(ns:List Int) (a:Addr) (acc:ByteArray),(∀(j:Nat) n,ns[j]? =some n→w.cell? (a.add j)=some (.int .u8 n))→
  (loadBytes a acc ns.length).run P w= .ok ⟨acc.data++(ns.map fun n=>UInt8.ofNat n.toNat).toArray⟩ w
 | [],a,acc,_=>by rfl
 | n::ns,a,acc,h=>by
  have h0:w.cell? a=some (.int .u8 n):=by
   have:=h 0 n rfl
   simpa [Addr.add] using this
  have ih:=loadBytes_run ns (a.add 1) (acc.push (UInt8.ofNat n.toNat)) (fun j y hy=>by
   have:=h (j+1) y (by simpa using hy);have e:(a.add 1).add j=a.add (j+1):=by
    unfold Addr.add
    by_cases hj:j=0
    ·subst hj;simp
    ·grind
   simp_all)
  have hx:n.toNat.toUInt8=UInt8.ofNat n.toNat:=rfl;simp only [List.length_cons,loadBytes,Sem.run_bind,run_load,h0,Result.andThen,hx]
  simp_all
def ustrBody (s1 s2 s3:String) (t0:TypeId) (B:Nat) (m:Int):Sem Value:=do
    let n ← asInt (.int .i64 m)
    if n<0 then runtimePanic (.error s1)
    if n>IntKind.i64.max then unsupported (.unsafePointer s2)
    if n=0 then pure (.string .empty)
    else if ← variablesAt ⟨B,0,none⟩ (← elemOf t0) n.toNat then do
     let s ← loadBytes ⟨B,0,none⟩ .empty n.toNat
     freeze ⟨B,0,none⟩ n.toNat
     pure (.string s)
    else unsupported (.unsafePointer s3)
theorem ustr_is (t0:TypeId) (rest:List TypeId) (ty:TypeId) (B:Nat) (m:Int):∃s1 s2 s3,Builtin.unsafeString_ (t0::rest).toArray ty #[.pointer (some ⟨B,0,none⟩),.int .i64 m]=ustrBody s1 s2 s3 t0 B m:=⟨_,_,_,rfl⟩
theorem unsafeString_run {ats:Array TypeId} {t0 ty e:TypeId} (ha:ats[0]? =some t0) (hp:(elemOf t0).run P w= .ok e w) (hc:P.cellsOf e=1) {B cells:Nat} (hsh:w.shape? B=some (e,cells)) (ns:List Int) (h0:ns.length≠0) (hn:ns.length≤cells) (h63:ns.length≤1099511627776)
  (hcell:∀(j:Nat) n,ns[j]? =some n→w.cell? ((⟨B,0,none⟩:Addr).add j)=some (.int .u8 n)):
  (Builtin.unsafeString_ ats ty #[.pointer (some ⟨B,0,none⟩),.int .i64 ns.length]).run P w= .ok (.string ⟨(ns.map fun n=>UInt8.ofNat n.toNat).toArray⟩) (w.freeze ⟨B,0,none⟩ ns.length):=by
 have hlb:=loadBytes_run (P:=P) ns ⟨B,0,none⟩ .empty hcell;have hlies:=Lib.liesAt_bytes (P:=P) hc (cells /P.cellsOf e) ns.length (by simp_all);have h63':¬(9223372036854775807:Int)<(ns.length:Int):=by omega
 have hmax:IntKind.i64.max=9223372036854775807:=rfl;have hneg:¬(ns.length:Int)<0:=by omega
 obtain ⟨rest,rfl⟩:∃rest:List TypeId,ats=(t0::rest).toArray:=by
  obtain ⟨l⟩:=ats;cases l with
  | nil=>simp at ha
  | cons x l=>simp_all
 obtain ⟨s1,s2,s3,hdef⟩:=ustr_is t0 rest ty B ns.length;rw [hdef,ustrBody];simp [asInt,asIntOf,hmax,h63',hneg,h0,variablesAt,hsh,hp,hlies,hlb]
theorem freeze_put {c:Array Value} {e:TypeId} {lo hi:Nat} {B n:Nat} (h:w.heap[B]? =some (.cells c e (lo,hi))) (hn:n≠0):
  w.freeze ⟨B,0,none⟩ n=putW w B (.cells c e (if lo==hi then (0,0+n) else (min lo 0,max hi (0+n)))):=by
 have hlt:=not_lt_heap h;simp only [World.freeze,hn,if_false,putW]
 congr 1
 grind
theorem setSame {b:Nat} {x:Ob} (h:L[b]? =some x):L.set b x=L:=by
 apply List.ext_getElem?
 grind
theorem unsafeStrA_ok (hs:Sim G A S L w) {args:List RV} {vs:List Value} {ats:Array TypeId} {ty:TypeId} {r:RV} {L':List Ob} (h:unsafeStrA P T ats args L=some (r,L')) (hx:RelV A S w args vs):
  ValOk P G A S L w (Builtin.unsafeString_ ats ty vs.toArray) r L':=by
 unfold unsafeStrA at h;split at h
 ·rename_i b n u hu;obtain ⟨t0,h0,hu0⟩:=Option.bind_eq_some_iff.1 hu;split at h
  ·rename_i e cs hL;split at h
   ·rename_i l hl;split at h
    ·rename_i hc;obtain ⟨hlen,h40,rfl,hcell⟩:=hc;simp at h;obtain ⟨rfl,rfl⟩:=h;obtain ⟨v,vs',rfl,h1,h2⟩:=hx.uncons;obtain ⟨v2,vs2,rfl,h3,h4⟩:=h2.uncons;have:=h4.nil_inv;subst this;obtain ⟨B,d,p1,rfl⟩:=h1;cases h3;obtain ⟨B',c,fr,g1,g2,g3,_,g5,g6⟩:=hs.ob b _ hL;rw [p1] at g1;simp only [Option.some.injEq,Prod.mk.injEq] at g1;obtain ⟨rfl,rfl⟩:=g1;obtain ⟨cv,hcv,hcc⟩:=list_of cs (fun x i v=>c[i]? =some v∧Rel A S w x v) fun i x hi=>g6 i x hi;have hrl:RelL A S w cs cv:=⟨hcv,fun i x hi=>let ⟨u,q1,q2⟩:=hcc i x hi;⟨u,q1,q2.2⟩⟩
     obtain ⟨ns,rfl,rfl⟩:=byteList hl hrl;have hnl:ns.length=n+1:=by have:=hrl.1;simp at this;omega
     have hcell':∀(j:Nat) m,ns[j]? =some m→w.cell? ((⟨B,0,none⟩:Addr).add j)=some (.int .u8 m):=by
      intro j m hj;have hlt:j<cs.length:=by have:=(List.getElem?_eq_some_iff.1 hj).1;omega
      obtain ⟨u,q1,q2,_⟩:=hcc j cs[j] (List.getElem?_eq_getElem hlt);rw [List.getElem?_map,hj] at q1;simp at q1;subst q1;have:(⟨B,0,none⟩:Addr).add j=⟨B,j,none⟩:=by rw [addr_add];simp
      rw [this];exact cell_of_heap g2 q2
     have hel:(elemOf t0).run P w= .ok u w:=by simp [elemOf,run_und hu0]
     have e40:(2:Nat)^40=1099511627776:=by decide
     have hrun:=unsafeString_run (P:=P) (w:=w) (ty:=ty) h0 hel hcell (B:=B) (cells:=c.size) (by simp [World.shape?,g2]) ns (by omega) (by omega) (by omega) hcell';have hcast:(Int.ofNat (n+1))=(ns.length:Int):=by rw [hnl];rfl
     obtain ⟨lo,hi⟩:=fr;have hfz:=freeze_put (n:=ns.length) g2 (by omega);rw [hfz] at hrun;have hshape:∀c1 e1 fr1,Obj.cells c u (lo,hi)= .cells c1 e1 fr1→∃c2,(∃fr2,Obj.cells c u (if lo==hi then (0,0+ns.length) else (min lo 0,max hi (0+ns.length)))= .cells c2 e1 fr2)∧c2.size=c1.size:=by
      intro c1 e1 fr1 he;cases he;exact ⟨c,⟨_,rfl⟩,rfl⟩
     have hx':Ext A S L w A S (L.set b (.tc u cs true)) _:=Ext.writeF hs (y:= .tc u cs true) hL rfl p1 g2 hshape;have hs':=hs.writeF (y:= .tc u cs true) hL rfl p1 g2 hshape rfl ?_
     ·rw [setSame hL] at hx' hs';refine ⟨_,_,A,S,?_,.vl _ rfl,hs',hx'⟩
      simp_all
     ·refine ⟨B,c,_,p1,putW_same w _ (not_lt_heap g2),g3,fun hh=>by simp at hh,?_,fun i x hi=> ?_⟩
      ·simp_all
      ·obtain ⟨v,r1,r2⟩:=g6 i x hi;exact ⟨v,r1,hs.rel hx' r2⟩
    ·simp at h
   ·simp at h
  ·simp at h
 ·simp at h
theorem newBuf_ok (hs:Sim G A S L w) {cs:List LV} {c:Array Value} (e:TypeId) (hl:cs.length≤c.size)
  (hc:∀(i:Nat) x,cs[i]? =some x→∃v,c[i]? =some v∧Rel A S w x v):
  ∃S',S' L.length=some (w.heap.size,0)∧Sim G A S' (L++[.tc e cs true]) (pushW w (.cells c e))∧Ext A S L w A S' (L++[.tc e cs true]) (pushW w (.cells c e)):=by
 refine ⟨S.put L.length (w.heap.size,0),Where.put_same _ _ _,hs.push _ _ 0 ?_,Ext.push hs _ _ 0⟩;refine ⟨w.heap.size,c,(0,0),Where.put_same _ _ _,pushW_new w _,hl,fun h=>by simp at h,Nat.zero_le _,fun i x hi=> ?_⟩;obtain ⟨v,h1,h2⟩:=hc i x hi;exact ⟨v,h1,hs.rel (Ext.push hs (.tc e cs true) (.cells c e) 0) h2⟩
theorem growT_sim (hs:Sim G A S L w) {old new:List LV} {ov nv:List Value} {rest:Array Value} (e:TypeId) (ho:RelL A S w old ov) (hn:RelL A S w new nv):
  ∃S',S' L.length=some (w.heap.size,0)∧Sim G A S' (L++[.tc e (old++new) true]) (pushW {w with drawn:=w.drawn+1} (.cells (ov.toArray++nv.toArray++rest) e))∧
   Ext A S L w A S' (L++[.tc e (old++new) true]) (pushW {w with drawn:=w.drawn+1} (.cells (ov.toArray++nv.toArray++rest) e)):=by
 have hr:=ho.app hn;obtain ⟨S',q1,q2,q3⟩:=newBuf_ok (cs:=old++new) (c:=ov.toArray++nv.toArray++rest) hs.drew e
  (by have:=hr.1;simp_all) (fun i x hi=>by
   obtain ⟨v,h1,h2⟩:=hr.2 i x hi;refine ⟨v,?_,hs.rel Ext.drew h2⟩
   grind)
 exact ⟨S',q1,q2,Ext.drew.trans q3⟩
theorem appendB_ok (hs:Sim G A S L w) {ats:Array TypeId} {ty:TypeId} {s x r:RV} {vs vx:Value} {L':List Ob} (h:appendB T ats [s,x] L=some (r,L')) (hv:RelR A S w s vs) (hx:RelR A S w x vx):
  ValOk P G A S L w (Builtin.append_ ats ty #[vs,vx]) r L':=by
 simp only [appendB] at h;split at h
 ·rename_i e xd ha0 ha1;obtain ⟨t0,h0,hu0⟩:=Option.bind_eq_some_iff.1 ha0;obtain ⟨t1,h1,hu1⟩:=Option.bind_eq_some_iff.1 ha1;have hxd:∀k,xd≠.int k:=by intro k hk;subst hk;simp at h
  split at h
  ·simp at h
  ·split at h
   ·rename_i i zero hi hz;split at h
    ·rename_i m new hel;obtain ⟨hlen,hcl,nv,hnr,hfirst⟩:=elems_ok (P:=P) hs hel hx;have hlen':∀w':World,(Builtin.lenOf vx).run P w'= .ok m w':=lenOf_any hlen;have hnv:nv.take (m*i.size)=nv:=List.take_of_length_le (by have:=hnr.1;omega);have hfm:=hfirst m (Nat.le_refl _);rw [hnv] at hfm;obtain ⟨zv,hz1,hz2⟩:=zeroOf_rel (P:=P) hz;split at h
     ·rename_i hc;obtain ⟨hzl,hm,hzp⟩:=hc;have hzs:zv.cells.size=i.size:=by have:=(hz2 (A:=A) (S:=S) (w:=w)).1;simp at this;omega
      split at h
      ·cases hv;split at h
       ·rename_i hroom;simp at h;obtain ⟨rfl,rfl⟩:=h;obtain ⟨ncap,rest,k1,k2,k3⟩:=append_grow (P:=P) (w:=w) (s:= .slice none 0 0) (ty:=ty) (old:=[]) (new:=nv) rfl h0 h1 hu0 hu1 hxd hi hz1 hlen' (by omega) (by simp_all)
         (fun w' _=>by rfl) hfm
        obtain ⟨S',q1,q2,q3⟩:=growT_sim hs (old:=[]) (new:=new) (ov:=[]) (nv:=nv) (rest:=rest) e RelL.nil hnr;rw [Nat.zero_add] at k3;refine ⟨_,_,A,S',k3,⟨w.heap.size,0,0,ncap,q1,rfl,by omega,fun _=>⟨by simp,_,e,(0,0),pushW_new _ _,?_⟩⟩,q2,q3⟩;have:=hnr.1;simp [k2,hzs,this,hcl];rw [← Nat.add_mul]
        simp_all
       ·simp at h
      ·rename_i b n z';split at h
       ·rename_i e' cs hL;split at h
        ·rename_i hc2;obtain ⟨rfl,rfl,hcs,hroom⟩:=hc2;simp at h;obtain ⟨rfl,rfl⟩:=h;obtain ⟨B,d,q,cap,p1,rfl,p2,p3⟩:=hv;have hpart:part cs 0 (n*i.size)=some cs:=by unfold part;rw [← hcs];simp
         have hel2:elems L i.size (.v (.one (.lsl b 0 n i.size)))=some (n,cs):=by simp [elems,hL,hpart]
         obtain ⟨_,hol,ov,hor,hofirst⟩:=elems_ok (P:=P) hs hel2 (show RelR A S w (.v (.one (.lsl b 0 n _))) _ from ⟨B,d,q,cap,p1,rfl,p2,p3⟩);have hov:ov.take (n*i.size)=ov:=List.take_of_length_le (by have:=hor.1;omega);have hfo:=hofirst n (Nat.le_refl _);rw [hov] at hfo;obtain ⟨B',c,fr,h1',h2,h3,_,h5,h6⟩:=hs.ob b _ hL;rw [p1] at h1';simp only [Option.some.injEq,Prod.mk.injEq] at h1';obtain ⟨rfl,rfl⟩:=h1'
         by_cases hfit:n+m≤cap
         ·obtain ⟨rfl,c0,e0,fr0,g1,g2⟩:=p3 (by omega);rw [h2] at g1;simp only [Option.some.injEq,Obj.cells.injEq] at g1;obtain ⟨rfl,rfl,rfl⟩:=g1;have hnl:=hnr.1;have hmul:(n+m)*i.size≤cap*i.size:=Nat.mul_le_mul_right _ hfit;rw [Nat.add_mul] at hmul;obtain ⟨c',k1,k2,k3⟩:=storeCells_run2 (P:=P) nv (0+0+n*i.size) 0 c w h2 (by omega) (fun k hk _=>by omega) hnr.singles;have hshape:∀c1 e1 fr1,Obj.cells c e' fr= .cells c1 e1 fr1→∃c2,Obj.cells c' e' fr= .cells c2 e1 fr1∧c2.size=c1.size:=by
           intro c1 e1 fr1 he;cases he;exact ⟨c',rfl,k2⟩
          have hx':Ext A S L w A (S.put L.length (B,0)) (L.set b .gone++[.tc e' (cs++new) true]) (putW w B (.cells c' e' fr)):=Ext.regrow hs 0 hL rfl p1 h2 hshape
          refine ⟨_,_,A,_,append_fits h0 h1 hu0 hu1 hxd hi hlen' hfit (hfm w rfl) k1,⟨B,0,0,cap,Where.put_same _ _ _,rfl,hfit,fun _=>⟨rfl,c',e',fr,putW_same w _ (not_lt_heap h2),by omega⟩⟩,
           hs.regrow 0 hL rfl p1 h2 hshape ?_,hx'⟩
          refine ⟨B,c',fr,Where.put_same _ _ _,putW_same w _ (not_lt_heap h2),by grind,fun hh=>by simp at hh,by simp;omega,fun j y hj=> ?_⟩;rw [k3]
          by_cases hjo:j<cs.length
          ·rw [List.getElem?_append_left hjo] at hj;rw [if_neg (by omega)];obtain ⟨u,r1,r2⟩:=h6 j y hj;exact ⟨u,r1,hs.rel hx' r2⟩
          ·rw [List.getElem?_append_right (by omega)] at hj;obtain ⟨u,r1,r2⟩:=hnr.2 _ _ hj;have hjlt:=(List.getElem?_eq_some_iff.1 hj).1;rw [if_pos (by omega)];exact ⟨u,by simp_all,hs.rel hx' r2⟩
         ·obtain ⟨ncap,rest,k1,k2,k3⟩:=append_grow (P:=P) (w:=w) (ty:=ty) (old:=ov) (new:=nv) rfl h0 h1 hu0 hu1 hxd hi hz1 hlen' (by omega) hroom hfo hfm;have hd:=hs.drop b;obtain ⟨S',q1,q2,q3⟩:=growT_sim hd (old:=cs) (new:=new) (ov:=ov) (nv:=nv) (rest:=rest) e' hor hnr;refine ⟨_,_,A,S',k3,⟨w.heap.size,0,0,ncap,by simpa using q1,by simp,by omega,fun _=>⟨by simp,_,e',(0,0),pushW_new _ _,?_⟩⟩,q2,(Ext.drop b).trans q3⟩;have e1:=hnr.1;have e2:=hor.1;simp [k2,hzs,e1,e2,hcl,hol];rw [← Nat.add_mul,← Nat.add_mul]
          simp_all
        ·simp at h
       ·simp at h
      ·simp at h
     ·simp at h
    ·simp at h
   ·simp at h
 ·simp at h
end
end Go.Sx
namespace Go.Sx
def WFP (T:Tab):Prop:=∀t fields,T.und t=some (.struct fields)→∀f∈fields,(szOf T f.type).isSome=true
section
variable {P:Program} {T:Tab} [TOk P T] {G:Globs} {A:Nat→Prop} {S:Where} {L:List Ob} {w:World}
def OpOk (P:Program) (G:Globs) (A:Nat→Prop) (S:Where) (L:List Ob) (w:World) (s:Sem Next) (r:RV) (L':List Ob):Prop:=
 ∃nx v w' A' S',s.run P w= .ok nx w'∧(nx= .value v∨(nx= .skip∧v=undef))∧RelR A' S' w' r v∧Sim G A' S' L' w'∧Ext A S L w A' S' L' w'
theorem OpOk.val {s:Sem Value} {r:RV} {L':List Ob} (h:ValOk P G A S L w s r L'):OpOk P G A S L w (do pure (.value (← s))) r L':=by
 obtain ⟨v,w',A',S',h1,h2,h3,h4⟩:=h;exact ⟨_,v,w',A',S',by simp [h1],.inl rfl,h2,h3,h4⟩
theorem undefR_rel:RelR A S w undefR undef:=⟨#[],rfl,rfl,fun i x h=>by simp at h⟩
theorem OpOk.unit {s:Sem Unit} {L':List Ob} (h:UnitOk P G A S L w s L'):OpOk P G A S L w (do s;pure .skip) undefR L':=by
 obtain ⟨w',A',S',h1,h3,h4⟩:=h;exact ⟨_,undef,w',A',S',by simp [h1],.inr ⟨rfl,rfl⟩,undefR_rel,h3,h4⟩
theorem RelV.mapMem {α:Type} (f:α→RV) (g:α→Value):∀(l:List α),(∀x∈l,RelR A S w (f x) (g x))→RelV A S w (l.map f) (l.map g)
 | [],_=>RelV.nil
 | a::l,h=>RelV.cons (h a (List.mem_cons_self ..)) (RelV.mapMem f g l fun x hx=>h x (List.mem_cons_of_mem _ hx))
set_option maxHeartbeats 1000000 in
theorem opA_ok (hwf:WFP T) (hs:Sim G A S L w) {ρ:Operand→RV} {ρ':Operand→Value} {o:Oper} {r:RV} {L':List Ob} (hρ:∀x∈o.op.operands,RelR A S w (ρ x) (ρ' x)) (h:opA P T G ρ o L=some (r,L')):
  OpOk P G A S L w (execOp ρ' o) r L':=by
 obtain ⟨dst,op,type,pos,after,guard⟩:=o;cases op with
 | move x=>
  simp [opA] at h;obtain ⟨rfl,rfl⟩:=h;exact OpOk.val (s:=pure (ρ' x)) (ValOk.still hs rfl (hρ x (by simp [Op.operands])))
 | assign x=>
  simp [opA] at h;obtain ⟨rfl,rfl⟩:=h;exact OpOk.val (s:=pure (ρ' x)) (ValOk.still hs rfl (hρ x (by simp [Op.operands])))
 | pick c a b=>
  simp only [opA] at h;split at h
  ·rename_i t ht;simp at h;obtain ⟨rfl,rfl⟩:=h;have hc:=hρ c (by simp [Op.operands]);rw [ht] at hc;have hcv:ρ' c= .bool t:=by
    generalize ρ' c=v at hc;cases hc;rfl
   refine ⟨.value (if t then ρ' a else ρ' b),if t then ρ' a else ρ' b,w,A,S,?_,.inl rfl,?_,hs,Ext.refl⟩
   ·simp [execOp,hcv,asBool]
   ·cases t
    ·exact hρ b (by simp [Op.operands])
    ·exact hρ a (by simp [Op.operands])
  ·simp at h
 | alloc t=>
  simp only [opA] at h;split at h
  ·exact OpOk.val (allocT_ok hs h)
  ·exact OpOk.val (allocA_ok hs h)
 | box t x=>
  simp only [opA] at h;split at h
  ·exact OpOk.val (boxT_ok hs h (hρ x (by simp [Op.operands])))
  ·exact OpOk.val (boxA_ok hs h (hρ x (by simp [Op.operands])))
 | build t parts=>
  simp only [opA] at h
  have:=buildA_ok (P:=P) (vs:=parts.toList.map fun p=>(p.1,ρ' p.2)) hs h (fun f hf=>hwf t f hf) (by simp_all) (by
   simp only [List.map_map]
   exact RelV.mapMem _ _ _ fun p hp=>hρ p.2 (by simp [Op.operands];grind))
  have e:(parts.toList.map fun p=>(p.1,ρ' p.2)).toArray=parts.map fun (i,x)=>(i,ρ' x):=by
   apply Array.ext';simp
  rw [e] at this;exact OpOk.val this
 | buildSlice t n parts=>
  simp only [opA] at h
  have:=buildSliceA_ok (P:=P) (vs:=parts.toList.map fun p=>(p.1,ρ' p.2)) hs h (by simp_all) (by
   simp only [List.map_map]
   exact RelV.mapMem _ _ _ fun p hp=>hρ p.2 (by simp [Op.operands];grind))
  have e:(parts.toList.map fun p=>(p.1,ρ' p.2)).toArray=parts.map fun (i,x)=>(i,ρ' x):=by
   apply Array.ext';simp
  rw [e] at this;exact OpOk.val this
 | load t a=>exact OpOk.val (loadA_ok hs h (hρ a (by simp [Op.operands])))
 | store t a v=>
  obtain ⟨rfl,hu⟩:=storeA_ok (P:=P) hs h (hρ a (by simp [Op.operands])) (hρ v (by simp [Op.operands]));exact OpOk.unit hu
 | nilCheck x=>
  simp only [opA] at h;have hx:=hρ x (by simp [Op.operands]);obtain ⟨rfl,rfl,hv⟩:=nilCheckA_ok h hx;refine ⟨.value (ρ' x),ρ' x,w,A,S,?_,.inl rfl,hx,hs,Ext.refl⟩
  rcases hv with ⟨a,e⟩ | ⟨f,a,b,e⟩ | ⟨l,e⟩<;>simp [execOp,e]
 | binOp op t x y yt=>exact OpOk.val (binA_ok hs h (hρ x (by simp [Op.operands])) (hρ y (by simp [Op.operands])))
 | unOp op t x=>
  simp only [opA] at h;split at h
  ·rename_i v hv;split at h
   ·rename_i r' hr;simp at h;obtain ⟨rfl,rfl⟩:=h;have:=toVal_rel hv (hρ x (by simp [Op.operands]));refine OpOk.val (s:=Op.unary op (ρ' x)) ?_;rw [this];exact pureR_ok hs hr
   ·simp at h
  ·simp at h
 | convert s d x=>
  simp only [opA] at h;have hx:=hρ x (by simp [Op.operands]);split at h
  ·rename_i b o hr;rw [hr] at hx;exact OpOk.val (convRef_ok hs h hx)
  ·exact OpOk.val (convQ_ok hs h hx)
 | makeInterface t x=>exact OpOk.val (ifaceA_ok hs h (hρ x (by simp [Op.operands])))
 | makeFunc fn first captured=>
  simp only [opA] at h;have:=funcA_ok (P:=P) hs h (RelV.mapMem ρ ρ' first.toList fun x hx=>hρ x (by simp [Op.operands];simp_all)) (RelV.mapMem ρ ρ' captured.toList fun x hx=>hρ x (by simp [Op.operands];simp_all));have e1:(first.toList.map ρ').toArray=first.map ρ':=by apply Array.ext';simp
  have e2:(captured.toList.map ρ').toArray=captured.map ρ':=by apply Array.ext';simp
  rw [e1,e2] at this;exact OpOk.val this
 | makeMap t r=>
  cases r with
  | none=>
   simp [opA] at h;obtain ⟨rfl,rfl⟩:=h;exact OpOk.val (makeMap_ok hs t)
  | some r=>simp [opA] at h
 | makeSlice t l c=>exact OpOk.val (makeSliceA_ok hs h (hρ l (by simp [Op.operands])) (hρ c (by simp [Op.operands])))
 | slice t x lo hi mx=>
  simp only [opA] at h;refine OpOk.val (sliceQ_ok (P:=P) (vl:=lo.map ρ') (vh:=hi.map ρ') (vm:=mx.map ρ') hs h (hρ x (by simp [Op.operands])) ?_ (by simp) ?_ (by simp) ?_ (by simp))
  ·intro y u h1 h2;cases lo with
   | none=>simp at h1
   | some a=>simp at h1 h2;subst h1 h2;exact hρ a (by simp [Op.operands])
  ·intro y u h1 h2;cases hi with
   | none=>simp at h1
   | some a=>simp at h1 h2;subst h1 h2;exact hρ a (by simp [Op.operands])
  ·intro y u h1 h2;cases mx with
   | none=>simp at h1
   | some a=>simp at h1 h2;subst h1 h2;exact hρ a (by simp [Op.operands])
 | fieldAddr s x f=>exact OpOk.val (fieldAddrA_ok hs h (hρ x (by simp [Op.operands])))
 | field t x f=>exact OpOk.val (fieldA_ok hs h (hρ x (by simp [Op.operands])))
 | indexAddr t x ix=>exact OpOk.val (indexAddrA_ok hs h (hρ x (by simp [Op.operands])) (hρ ix (by simp [Op.operands])))
 | index t x ix=>exact OpOk.val (indexQ_ok hs h (hρ x (by simp [Op.operands])) (hρ ix (by simp [Op.operands])))
 | lookup t x k ok=>exact OpOk.val (lookupA_ok hs h (hρ x (by simp [Op.operands])) (hρ k (by simp [Op.operands])))
 | extract t i=>
  simp only [opA] at h;split at h
  ·rename_i vs hv;split at h
   ·rename_i y hy;simp at h;obtain ⟨rfl,rfl⟩:=h;have ht:=hρ t (by simp [Op.operands]);rw [hv] at ht;obtain ⟨us,e,_,hc⟩:=ht;obtain ⟨u,h1,h2⟩:=hc i y hy;refine OpOk.val (s:=Instr.extract (ρ' t) i) (ValOk.still hs (v:=u) ?_ h2);simp [Instr.extract,e,h1]
   ·simp at h
  ·simp at h
 | mapUpdate t m k x=>
  obtain ⟨rfl,hu⟩:=mapPutA_ok (P:=P) hs h (hρ m (by simp [Op.operands])) (hρ k (by simp [Op.operands])) (hρ x (by simp [Op.operands]));exact OpOk.unit hu
 | insert t m k x=>
  obtain ⟨rfl,hu⟩:=mapPutA_ok (P:=P) hs h (hρ m (by simp [Op.operands])) (hρ k (by simp [Op.operands])) (hρ x (by simp [Op.operands]));exact OpOk.unit hu
 | range t x=>
  simp only [opA] at h;split at h
  ·rename_i s hu hx;simp at h;obtain ⟨rfl,rfl⟩:=h;have hxr:=hρ x (by simp [Op.operands]);rw [hx] at hxr;have hxv:ρ' x= .string s:=by
    generalize ρ' x=v at hxr;cases hxr;rfl
   refine OpOk.val (s:=Instr.range t (ρ' x)) ?_;rw [hxv];exact range_ok hs hu
  ·simp at h
 | next it b=>
  cases b with
  | false=>simp [opA] at h
  | true=>exact OpOk.val (nextA_ok hs h (hρ it (by simp [Op.operands])))
 | call c=>
  obtain ⟨callee,args,argTypes⟩:=c;cases callee with
  | value f=>simp [opA] at h
  | invoke r m=>simp [opA] at h
  | builtin b=>
   have hargs:RelV A S w (args.toList.map ρ) (args.toList.map ρ'):=RelV.mapMem ρ ρ' args.toList fun x hx=>hρ x (by simp [Op.operands,Call.operands];simpa using hx);have hexec:∀(s:Sem Value),(∀consts,builtin b argTypes type consts (args.map ρ')=(do pure (.value (← s)):Sem Next))→ValOk P G A S L w s r L'→OpOk P G A S L w (execOp ρ' ⟨dst,.call ⟨.builtin b,args,argTypes⟩,type,pos,after,guard⟩) r L':=by
    intro s e hv;obtain ⟨nx,v,w',A',S',k1,k2⟩:=OpOk.val hv;refine ⟨nx,v,w',A',S',?_,k2⟩;simp only [execOp,resolve,Sem.run_bind,Sem.run_pure,Result.andThen_ok,invoke];rw [e];exact k1
   have hmapl:args.map ρ'=(args.toList.map ρ').toArray:=by apply Array.ext';simp
   cases b with
   | unsafeSliceData=>
    simp only [opA] at h;exact hexec _ (fun c=>by rw [hmapl];rfl) (sliceDataA_ok hs h hargs)
   | unsafeString=>
    simp only [opA] at h;exact hexec _ (fun c=>by rw [hmapl];rfl) (unsafeStrA_ok hs h hargs)
   | cap=>
    simp only [opA] at h;exact hexec _ (fun c=>by rw [hmapl];rfl) (capA_ok hs h hargs)
   | append=>
    simp only [opA] at h;generalize hrs:args.toList.map ρ=rs at h hargs;generalize hvs:args.toList.map ρ'=vs at hargs hmapl;split at h
    ·match rs,h,hargs with
     | [a,b],h,hargs=>
      obtain ⟨v,vs',rfl,h1,h2⟩:=hargs.uncons;obtain ⟨u,vs'',rfl,h3,h4⟩:=h2.uncons;have:=h4.nil_inv;subst this;exact hexec _ (fun c=>by rw [hmapl];rfl) (appendB_ok hs h h1 h3)
     | [],h,_=>simp [appendB] at h
     | [_],h,_=>simp [appendB] at h
     | _::_::_::_,h,_=>simp [appendB] at h
    ·match rs,h,hargs with
     | [a,b],h,hargs=>
      obtain ⟨v,vs',rfl,h1,h2⟩:=hargs.uncons;obtain ⟨u,vs'',rfl,h3,h4⟩:=h2.uncons;have:=h4.nil_inv;subst this;exact hexec _ (fun c=>by rw [hmapl];rfl) (appendA_ok hs h h1 h3)
     | [],h,_=>simp [builtinA] at h
     | [_],h,_=>simp [builtinA] at h
     | _::_::_::_,h,_=>simp [builtinA] at h
   | len=>
    simp only [opA] at h;generalize hrs:args.toList.map ρ=rs at h hargs;generalize hvs:args.toList.map ρ'=vs at hargs hmapl
    match rs,h,hargs with
    | [a],h,hargs=>
     obtain ⟨v,vs',rfl,h1,h2⟩:=hargs.uncons;have:=h2.nil_inv;subst this;exact hexec _ (fun c=>by rw [hmapl];rfl) (len_ok hs h h1)
    | [],h,_=>simp [builtinA] at h
    | _::_::_,h,_=>simp [builtinA] at h
   | copy=>
    simp only [opA] at h;generalize hrs:args.toList.map ρ=rs at h hargs;generalize hvs:args.toList.map ρ'=vs at hargs hmapl
    match rs,h,hargs with
    | [a,b],h,hargs=>
     obtain ⟨v,vs',rfl,h1,h2⟩:=hargs.uncons;obtain ⟨u,vs'',rfl,h3,h4⟩:=h2.uncons;have:=h4.nil_inv;subst this;exact hexec _ (fun c=>by rw [hmapl];rfl) (copy_ok hs h h1 h3)
    | [],h,_=>simp [builtinA] at h
    | [_],h,_=>simp [builtinA] at h
    | _::_::_::_,h,_=>simp [builtinA] at h
   | min=>
    simp only [opA] at h;exact hexec _ (fun c=>by rw [hmapl];rfl) (minmax_ok (b:= .min) hs (.inl rfl) h hargs)
   | max=>
    simp only [opA] at h;exact hexec _ (fun c=>by rw [hmapl];rfl) (minmax_ok (b:= .max) hs (.inr rfl) h hargs)
   | _=>simp [opA,builtinA] at h
 | _=>simp [opA] at h
end
end Go.Sx
namespace Go.Sx
def Fr (b:Frame) (t:Array Value) (todo:List Item):Frame:={b with tmps:=t,todo:=todo,mode:= .run}
def evT (t:Array Value):Operand→Value
 | .tmp i=>t.getD i undef
 | .const v=>v
 | .global g=> .pointer (some ⟨g,0,none⟩)
 | .func f=> .func (.func f) #[] #[]
def putT (t:Array Value) (dst:Option Tmp) (v:Value):Array Value:=
 match dst with
 | some d=>t.setIfInBounds d v
 | none=>t
section
variable {P:Program} {b:Frame} {t:Array Value} {k:List Item} {cs:List Frame} {w w':World} {ops:Array Oper}
theorem eval_Fr (b:Frame) (t:Array Value) (todo:List Item):(Fr b t todo).eval=evT t:=by
 rfl
theorem fr_skip:step P (lone (Fr b t (.code .skip::k)) cs w)= .next (lone (Fr b t k) cs w):=step_lone_go (by rfl)
theorem fr_label {l:Nat}:step P (lone (Fr b t (.code (.label l)::k)) cs w)= .next (lone (Fr b t k) cs w):=step_lone_go (by rfl)
theorem fr_inBlock {id:Nat}:step P (lone (Fr b t (.inBlock id::k)) cs w)= .next (lone (Fr b t k) cs w):=step_lone_go (by rfl)
theorem fr_seq {x y:Code}:step P (lone (Fr b t (.code (.seq x y)::k)) cs w)= .next (lone (Fr b t (.code x:: .code y::k)) cs w):=step_lone_go (by rfl)
theorem fr_cond {c:Operand} {x y:Code} {u:Bool} (h:evT t c= .bool u):step P (lone (Fr b t (.code (.cond c x y)::k)) cs w)= .next (lone (Fr b t (.code (if u then x else y)::k)) cs w):=
 step_lone_go (by
  have:=congrFun (eval_Fr b t (.code (.cond c x y)::k)) c;simp only [Fr] at this
  simp [stepG,stepG.exec,Fr,this,h])
theorem fr_block {id:Nat} {c:Code}:step P (lone (Fr b t (.code (.block id c)::k)) cs w)= .next (lone (Fr b t (.code c:: .inBlock id::k)) cs w):=step_lone_go (by rfl)
theorem fr_loop {c:Code}:step P (lone (Fr b t (.code (.loop c)::k)) cs w)= .next (lone (Fr b t (.code c:: .inLoop c::k)) cs w):=step_lone_go (by rfl)
theorem fr_inLoop {c:Code}:step P (lone (Fr b t (.inLoop c::k)) cs w)= .next (lone (Fr b t (.code c:: .inLoop c::k)) cs w):=step_lone_go (by rfl)
theorem fr_exit {id:Nat} {k':List Item} (h:exitTo id k=some k'):step P (lone (Fr b t (.code (.exit id)::k)) cs w)= .next (lone (Fr b t k') cs w):=step_lone_go (by simp [stepG,stepG.exec,Fr,h])
theorem fr_region {id:Nat}:step P (lone (Fr b t (.code (.region id ops false)::k)) cs w)= .next (lone (Fr b t (.inRegion ops (List.range ops.size)::k)) cs w):=step_lone_go (by rfl)
theorem fr_draw {id:Nat}:step P (lone (Fr b t (.code (.region id ops true)::k)) cs w)= .next (lone (Fr b t (.inRegion ops (Region.schedule (P.follows .mixedOrders) ops (w.tape w.drawn (.order b.fn id)))::k)) cs {w with drawn:=w.drawn+1}):=
 step_lone_go (by rfl)
theorem fr_regionEnd:step P (lone (Fr b t (.inRegion ops []::k)) cs w)= .next (lone (Fr b t k) cs w):=step_lone_go (by rfl)
theorem finish_Fr (i:Nat) (rest:List Nat) (v:Value):(Fr b t (.inRegion ops (i::rest)::k)).finish v=Fr b (putT t ((ops[i]?).bind (·.dst)) v) (.inRegion ops rest::k):=by
 rfl
theorem fr_opSkip {i:Nat} {rest:List Nat} (h:((ops[i]?).map (Region.wanted · (yielded ops t))).getD false=false):
  step P (lone (Fr b t (.inRegion ops (i::rest)::k)) cs w)= .next (lone (Fr b (putT t ((ops[i]?).bind (·.dst)) undef) (.inRegion ops rest::k)) cs w):=by
 rw [← finish_Fr]
 exact step_lone_go (by
  have h':=h;simp only [Fr] at*
  simp [stepG,stepG.exec,h'])
def notDefer:Op→Bool
 | .defer _=>false
 | _=>true
theorem stepG_Fr {i:Nat} {rest:List Nat} {o:Oper} (ho:ops[i]? =some o) (hw:Region.wanted o (yielded ops t)=true) (hd:notDefer o.op=true):
  stepG P true {frame:=Fr b t (.inRegion ops (i::rest)::k),callers:=cs,status:= .running,dying:=none} w=
   stepG.apply P true (Fr b t (.inRegion ops (i::rest)::k)) cs none (execOp (evT t) o) w:=by
 have he:=eval_Fr b t (.inRegion ops (i::rest)::k);simp only [Fr] at he;simp only [stepG,stepG.exec,stepG.oper,Frame.oper?,Fr,ho,hw,Option.map_some,Option.getD_some,if_true,he];cases hr:b.roundOf with
 | none=>rfl
 | some l=>
  cases hop:o.op<;>first | rfl | (simp [notDefer,hop] at hd)
theorem fr_opValue {i:Nat} {rest:List Nat} {o:Oper} (ho:ops[i]? =some o) (hw:Region.wanted o (yielded ops t)=true) (hd:notDefer o.op=true) {v:Value}
  (hr:(execOp (evT t) o).run P w= .ok (.value v) w'):step P (lone (Fr b t (.inRegion ops (i::rest)::k)) cs w)= .next (lone (Fr b (putT t o.dst v) (.inRegion ops rest::k)) cs w'):=by
 have hf:=finish_Fr (b:=b) (t:=t) (k:=k) (ops:=ops) i rest v;rw [ho] at hf;simp only [Option.bind_some] at hf;rw [← hf];exact step_lone_go (by rw [stepG_Fr ho hw hd];simp [stepG.apply,hr])
theorem fr_opUnit {i:Nat} {rest:List Nat} {o:Oper} (ho:ops[i]? =some o) (hw:Region.wanted o (yielded ops t)=true) (hd:notDefer o.op=true)
  (hr:(execOp (evT t) o).run P w= .ok .skip w'):step P (lone (Fr b t (.inRegion ops (i::rest)::k)) cs w)= .next (lone (Fr b (putT t o.dst undef) (.inRegion ops rest::k)) cs w'):=by
 have hf:=finish_Fr (b:=b) (t:=t) (k:=k) (ops:=ops) i rest undef;rw [ho] at hf;simp only [Option.bind_some] at hf;rw [← hf];exact step_lone_go (by rw [stepG_Fr ho hw hd];simp [stepG.apply,hr])
theorem fr_opEnter {i:Nat} {rest:List Nat} {o:Oper} (ho:ops[i]? =some o) (hw:Region.wanted o (yielded ops t)=true) (hd:notDefer o.op=true) {f:FuncId} {args:Array Value}
  (hr:(execOp (evT t) o).run P w= .ok (.enter f args) w'):step P (lone (Fr b t (.inRegion ops (i::rest)::k)) cs w)= .next (lone (Frame.enter P f args .normal) (Fr b t (.inRegion ops (i::rest)::k)::cs) w'):=
 step_lone_go (by rw [stepG_Fr ho hw hd];simp [stepG.apply,hr,Fr])
theorem fr_opRound {i:Nat} {rest:List Nat} {o:Oper} (ho:ops[i]? =some o) (hw:Region.wanted o (yielded ops t)=true) (hd:notDefer o.op=true) {l f:Nat} {tm:Array Value} {as body:Code}
  (hr:(execOp (evT t) o).run P w= .ok (.round l f tm as body) w'):step P (lone (Fr b t (.inRegion ops (i::rest)::k)) cs w)= .next (lone (Frame.round l f tm as body .normal) (Fr b t (.inRegion ops (i::rest)::k)::cs) w'):=
 step_lone_go (by rw [stepG_Fr ho hw hd];simp [stepG.apply,hr])
theorem fr_ret (hro:b.roundOf=none):step P (lone (Fr b t (.code .ret::k)) cs w)= .next (lone {Fr b t (.code .ret::k) with mode:= .returning} cs w):=step_lone_go (by simp [stepG,stepG.exec,Fr,hro])
theorem fr_end (hro:b.roundOf=none):step P (lone (Fr b t []) cs w)= .next (lone {Fr b t [] with mode:= .returning} cs w):=step_lone_go (by simp [stepG,stepG.exec,Fr,hro])
theorem fr_takeMark {fr:Frame} {D:Nat} {ds:List Deferred} (hm:fr.mode= .returning) (hd:fr.defers={target:= .collected D,args:=#[]}::ds) (hD:w.heap[D]? =some (.deferred (some []))):
  step P (lone fr cs w)= .next (lone {fr with defers:=ds} cs (putW w D (.deferred none))):=by
 apply step_lone_go;have ht:(Instr.takeDeferred D).run P w= .ok [] (putW w D (.deferred none)):=by
  simp [Instr.takeDeferred,getObj,setObj,Sem.run,hD];rfl
 simp only [stepG,hm,unwind,hd,Sem.runT_eq,ht,GStep.bare_after,List.nil_append];rfl
end
end Go.Sx
namespace Go.Sx
def evR (regs:List RV):Operand→RV
 | .tmp i=>regs.getD i undefR
 | .const v=>(ofVal v).getD undefR
 | .global g=>atR (.pointer (some ⟨g,0,none⟩))
 | .func f=>atR (.func (.func f) #[] #[])
def goodX:Operand→Bool
 | .const v=>(ofVal v).isSome
 | _=>true
def goodO (o:Oper):Bool:=o.op.operands.toList.all goodX
def putR (regs:List RV) (dst:Option Tmp) (r:RV):List RV:=
 match dst with
 | some d=>regs.set d r
 | none=>regs
inductive Cal where
 | fn (f:FuncId)
 | yl (b:Nat)
def calOf (f:RV) (args:List RV):Option (Cal×List RV):=
 match f with
 | .v (.one (.p (.vl (.func (.func f) first captured))))=>match mapOpt ofVal first.toList,mapOpt ofVal captured.toList with
  | some a,some b=>some (.fn f,a++args++b)
  | _,_=>none
 | .v (.one (.fn f caps))=>match Nat.blt f mK with
  | true=>some (.fn f,args++caps.map fun p=> .v (.one (.ref p.1 p.2)))
  | false=>some (.fn (f - mK),(caps.map fun p=> .v (.one (.ref p.1 p.2)))++args)
 | .v (.one (.yld b))=>some (.yl b,args)
 | _=>none
inductive Ex where
 | normal
 | exit (id:Nat)
 | ret
abbrev CallW:=Cal→List RV→List Ob→(RV→List Ob→Prop)→Prop
def guardR (all:Array Oper) (regs:List RV) (g:Nat×Bool):Option Bool:=
 match (all[g.1]?).bind (·.dst) with
 | none=>some false
 | some d=>match regs[d]? with
  | none=>some false
  | some (.v (.one (.p (.vl (.bool b)))))=>some (b==g.2)
  | some (.tup [])=>some false
  | _=>none
def opK (P:Program) (T:Tab) (G:Globs) (E:CallW) (o:Oper) (st:St) (K:St→Prop):Prop:=
 match goodO o with
 | false=>False
 | true=>match o.op with
  | .call {callee:= .value f,args,..}=>match calOf (evR st.regs f) (args.toList.map (evR st.regs)) with
   | some (c,as)=>E c as st.hp fun r hp=>K ⟨putR st.regs o.dst r,hp⟩
   | none=>False
  | _=>match opA P T G (evR st.regs) o st.hp with
   | some (r,hp)=>K ⟨putR st.regs o.dst r,hp⟩
   | none=>False
def wpL (P:Program) (T:Tab) (G:Globs) (E:CallW) (all:Array Oper):List Oper→St→(St→Prop)→Prop
 | [],st,Q=>Q st
 | o::rest,st,Q=>match o.guard with
  | none=>opK P T G E o st fun st'=>wpL P T G E all rest st' Q
  | some g=>match guardR all st.regs g with
   | some c=>(c=true→opK P T G E o st fun st'=>wpL P T G E all rest st' Q)∧(c=false→wpL P T G E all rest ⟨putR st.regs o.dst undefR,st.hp⟩ Q)
   | none=>False
def loopW (F:St→(Ex→St→Prop)→Prop) (Q:Ex→St→Prop):Nat→St→Prop
 | 0,_=>False
 | n+1,st=>F st fun e st'=>match e with
  | .normal=>loopW F Q n st'
  | .exit i=>Q (.exit i) st'
  | .ret=>Q .ret st'
def exOf:Option Code→Option Ex
 | none=>some .normal
 | some .ret=>some .ret
 | some (.exit id)=>some (.exit id)
 | _=>none
def wpC (P:Program) (T:Tab) (G:Globs) (E:CallW) (D:Array Oper→St→(St→Prop)→Prop) (fn:FuncId) (rnd:Bool):Code→St→(Ex→St→Prop)→Prop
 | .skip,st,Q=>Q .normal st
 | .label _,st,Q=>Q .normal st
 | .region _ ops false,st,Q=>wpL P T G E ops ops.toList st (Q .normal)
 | .region _ ops true,st,Q=>D ops st (Q .normal)
 | .seq a b,st,Q=>wpC P T G E D fn rnd a st fun e st'=>match e with
  | .normal=>wpC P T G E D fn rnd b st' Q
  | .exit i=>Q (.exit i) st'
  | .ret=>Q .ret st'
 | .cond c x y,st,Q=>match evR st.regs c with
  | .v (.one (.p (.vl (.bool b))))=>(b=true→wpC P T G E D fn rnd x st Q)∧(b=false→wpC P T G E D fn rnd y st Q)
  | _=>False
 | .block id c,st,Q=>wpC P T G E D fn rnd c st fun e st'=>match e with
  | .normal=>Q .normal st'
  | .exit i=>if i=id then Q .normal st' else Q (.exit i) st'
  | .ret=>Q .ret st'
 | .loop c,st,Q=>∃n,loopW (wpC P T G E D fn rnd c) Q n st
 | .exit id,st,Q=>Q (.exit id) st
 | .ret,st,Q=>Q .ret st
 | .rangeFunc f params assign body,st,Q=>rnd=false∧goodX f=true∧
  match calOf (evR st.regs f) [.v (.one (.yld st.hp.length))] with
  | some (.fn g,as)=>E (.fn g) as (st.hp++[.loop {fn:=fn,regs:=st.regs,params:=params.toList,assign:=assign,body:=body,state:= .ready,pending:=none}]) fun _ hp=>
   match hp[st.hp.length]? with
   | some (.loop r)=>r.state≠.busy∧match exOf r.pending with
    | some e=>Q e ⟨st.regs,hp.set st.hp.length .gone⟩
    | none=>False
   | _=>False
  | _=>False
 | _,_,_=>False
section
variable {P:Program} {T:Tab} [TOk P T] {G:Globs} {A:Nat→Prop} {S:Where} {L:List Ob} {w:World}
theorem evR_rel {regs:List RV} {t:Array Value} (h:RelRs A S w regs t) {x:Operand} (hx:goodX x=true):RelR A S w (evR regs x) (evT t x):=by
 cases x with
 | tmp i=>
  simp only [evR,evT]
  by_cases hi:i<regs.length
  ·obtain ⟨v,h1,h2⟩:=h.2 i regs[i] (List.getElem?_eq_getElem hi)
   simp_all
  ·have hle:regs.length≤i:=Nat.le_of_not_lt hi;have h1:regs.getD i undefR=undefR:=by rw [List.getD_eq_getElem?_getD,List.getElem?_eq_none hle];rfl
   have h2:t.getD i undef=undef:=by
    have:t[i]? =none:=Array.getElem?_eq_none (by rw [h.1];exact hle);simp [this]
   rw [h1,h2];exact undefR_rel
 | const v=>
  simp only [goodX] at hx;obtain ⟨r,hr⟩:=Option.isSome_iff_exists.1 hx;simp only [evR,evT,hr,Option.getD_some];exact ofVal_rel hr
 | global g=>exact EncP.vl _ rfl
 | func f=>exact EncP.vl _ rfl
theorem goodO_mem {o:Oper} (h:goodO o=true):∀x∈o.op.operands,goodX x=true:=by
 intro x hx;exact List.all_eq_true.1 h x (Array.mem_toList_iff.2 hx)
theorem RelRs.put {regs:List RV} {t:Array Value} (h:RelRs A S w regs t) {dst:Option Tmp} {r:RV} {v:Value} (hr:RelR A S w r v):RelRs A S w (putR regs dst r) (putT t dst v):=by
 cases dst with
 | none=>exact h
 | some d=>
  refine ⟨by simp [putR,putT,h.1],fun i x hi=> ?_⟩;simp only [putR] at hi;simp only [putT]
  by_cases hid:i=d
  ·subst hid;have hlt:i<regs.length:=by have:=(List.getElem?_eq_some_iff.1 hi).1;simpa using this
   rw [List.getElem?_set_self hlt] at hi;simp at hi;subst hi;refine ⟨v,?_,hr⟩;rw [Array.getElem?_setIfInBounds_self_of_lt (by rw [h.1];exact hlt)]
  ·rw [List.getElem?_set_ne (Ne.symm hid)] at hi;obtain ⟨u,h1,h2⟩:=h.2 i x hi
   grind
theorem guardR_ok {regs:List RV} {t:Array Value} (h:RelRs A S w regs t) {ops:Array Oper} {o:Oper} {g:Nat×Bool} {c:Bool} (hg:o.guard=some g) (hc:guardR ops regs g=some c):
  Region.wanted o (yielded ops t)=c:=by
 obtain ⟨j,want⟩:=g;unfold guardR at hc;unfold Region.wanted yielded;simp only [hg];simp only at hc;cases hd:(ops[j]?).bind (·.dst) with
 | none=>
  simp_all
 | some d=>
  simp only [hd] at hc;simp only [Option.bind_some];cases hr:regs[d]? with
  | none=>
   simp only [hr] at hc;simp at hc;subst hc;have:t[d]? =none:=by
    rw [Array.getElem?_eq_none];have:=List.getElem?_eq_none_iff.1 hr;rw [h.1];exact this
   simp [this]
  | some r=>
   simp only [hr] at hc;obtain ⟨v,h1,h2⟩:=h.2 d r hr;simp only [h1];split at hc
   ·simp_all
   ·rename_i b heq;cases heq;simp at hc;subst hc;cases h2;simp
   ·rename_i heq;cases heq;simp at hc;subst hc;obtain ⟨vs,rfl,_⟩:=h2;simp
   ·simp at hc
end
end Go.Sx
namespace Go.Sx
section
variable {P:Program} {T:Tab} [TOk P T] {G:Globs}
def RetOk (P:Program) (G:Globs) (A:Nat→Prop) (S:Where) (L:List Ob) (w:World) (fr:Frame) (Q:RV→List Ob→Prop):Prop:=
 ∀(c:Frame) (cs:List Frame),∃r L' v A' S' w',Q r L'∧Steps P (lone fr (c::cs) w) (lone (c.finish v) cs w')∧RelR A' S' w' r v∧Sim G A' S' L' w'∧Ext A S L w A' S' L' w'
def CalX (P:Program) (G:Globs) (f:FuncId) (args:List RV) (L:List Ob) (Q:RV→List Ob→Prop):Prop:=
 ∀A S w vs,Sim G A S L w→RelV A S w args vs→∃r L' v A' S' w',Q r L'∧(callFunc f vs.toArray).run P w= .ok (.value v) w'∧RelR A' S' w' r v∧Sim G A' S' L' w'∧Ext A S L w A' S' L' w'
def CalOk (P:Program) (G:Globs):CallW:=fun c args L Q=>
 match c with
 | .fn f=>((∃fn,P.funcs[f]? =some fn∧fn.body.isSome=true∧fn.name≠ "runtime.NumGoroutine")∧∀A S w vs,Sim G A S L w→RelV A S w args vs→RetOk P G A S L w (Frame.enter P f vs.toArray .normal) Q)∨CalX P G f args L Q
 | .yl b=>(∃r,L[b]? =some (.loop r))∧∀A S w vs B d lr,Sim G A S L w→RelV A S w args vs→S b=some (B,d)→w.heap[B]? =some (.loop lr)→vs.length=lr.params.size∧
   RetOk P G A S L w (Frame.round B lr.fn ((lr.params.zip vs.toArray).foldl (fun tm (x,a)=>tm.setIfInBounds x a) lr.tmps) lr.assign lr.body .normal) Q
theorem RetOk.mono {A:Nat→Prop} {S:Where} {L:List Ob} {w:World} {fr:Frame} {Q Q':RV→List Ob→Prop} (h:RetOk P G A S L w fr Q) (hq:∀r L,Q r L→Q' r L):RetOk P G A S L w fr Q':=
 fun c cs=>let ⟨r,L',v,A',S',w',q,rest⟩:=h c cs;⟨r,L',v,A',S',w',hq _ _ q,rest⟩
structure Bs where
 n:Nat
 tl:List Deferred
def Marks (A:Nat→Prop) (S:Where) (L:List Ob) (w:World) (base:Bs) (dall:List Deferred):Prop:=
 ∃ds,dall=ds++base.tl∧ds.Pairwise (fun x y=>x.target≠y.target)∧∀d∈ds,∃D,d={target:= .collected D,args:=#[]}∧base.n≤D∧w.heap[D]? =some (.deferred (some []))∧¬Owned S L D∧¬A D
variable {A:Nat→Prop} {S:Where} {L:List Ob} {w:World}
theorem RelV.append {a b:List RV} {va vb:List Value} (h1:RelV A S w a va) (h2:RelV A S w b vb):RelV A S w (a++b) (va++vb):=by
 induction a generalizing va with
 | nil=>rw [h1.nil_inv];simpa using h2
 | cons x a ih=>
  obtain ⟨v,va',rfl,k1,k2⟩:=h1.uncons;exact RelV.cons k1 (ih k2)
theorem ofVals_rel:∀{vs:List Value} {rs:List RV},mapOpt ofVal vs=some rs→RelV A S w rs vs
 | [],rs,h=>by simp [mapOpt] at h;subst h;exact RelV.nil
 | v::vs,rs,h=>by
  simp only [mapOpt] at h;split at h
  ·rename_i y ys h1 h2;simp at h;subst h;exact RelV.cons (ofVal_rel h1) (ofVals_rel h2)
  ·simp at h
theorem callFunc_enter {f:FuncId} {fn:Func} {args:Array Value} (h1:P.funcs[f]? =some fn) (h2:fn.body.isSome=true) (h3:fn.name≠ "runtime.NumGoroutine"):(callFunc f args).run P w= .ok (.enter f args) w:=by
 have hb:¬(fn.body=none):=by grind
 simp [callFunc,h1,hb,h3]
theorem calOf_fn {o:Oper} {f:Operand} {args:Array Operand} {ats:Array TypeId} (hop:o.op= .call {callee:= .value f,args:=args,argTypes:=ats}) {regs:List RV} {t:Array Value} {g:FuncId} {as:List RV}
  (hr:RelRs A S w regs t) (hgood:goodO o=true) (hc:calOf (evR regs f) (args.toList.map (evR regs))=some (.fn g,as)):
  ∃vs:List Value,(execOp (evT t) o).run P w=(callFunc g vs.toArray).run P w∧RelV A S w as vs:=by
 have hm:=goodO_mem hgood;rw [hop] at hm;simp only [Op.operands,Call.operands] at hm;have hf:=evR_rel hr (hm f (by simp));have hargs:RelV A S w (args.toList.map (evR regs)) (args.toList.map (evT t)):=RelV.mapMem _ _ _ fun x hx=>evR_rel hr (hm x (by simp_all));have hma:(args.map (evT t)).toList=args.toList.map (evT t):=by simp
 have hexec:execOp (evT t) o=(do let d ← resolve (evT t) {callee:= .value f,args:=args,argTypes:=ats} o.type;invoke d.target d.args):=by
  obtain ⟨dst,op,type,pos,after,guard⟩:=o;simp only at hop;subst hop;rfl
 rw [hexec];generalize evR regs f=rf at hc hf;generalize hvf:evT t f=vf at hf;unfold calOf at hc;split at hc
 ·rename_i g' first captured
  split at hc
  ·rename_i a b h1 h2;simp only [Option.some.injEq,Prod.mk.injEq,Cal.fn.injEq] at hc;obtain ⟨rfl,rfl⟩:=hc;cases hf;refine ⟨first.toList++args.toList.map (evT t)++captured.toList,?_,(RelV.append (RelV.append (ofVals_rel h1) hargs) (ofVals_rel h2))⟩;simp only [Sem.run_bind,resolve,hvf,Deferred.ofValue,Sem.run_pure,Result.andThen_ok,invoke]
   congr 2
   simp_all
  ·simp at hc
 ·rename_i g' caps;obtain ⟨ps,rfl,hl,hp⟩:=hf;have hcaps:RelV A S w (caps.map fun p=> .v (.one (.ref p.1 p.2))) ps:=by
   refine ⟨by simp [hl],fun i r hi=> ?_⟩;simp only [List.getElem?_map,Option.map_eq_some_iff] at hi;obtain ⟨⟨bb,oo⟩,hb,rfl⟩:=hi;obtain ⟨B,d,q1,q2⟩:=hp i bb oo hb;exact ⟨_,q2,B,d,q1,rfl⟩
  unfold fnVal at hvf;split at hc
  ·rename_i hlt;simp only [hlt] at hvf;simp at hc;obtain ⟨rfl,rfl⟩:=hc;refine ⟨args.toList.map (evT t)++ps,?_,RelV.append hargs hcaps⟩;simp only [Sem.run_bind,resolve,hvf,Deferred.ofValue,Sem.run_pure,Result.andThen_ok,invoke]
   congr 2
   simp_all
  ·rename_i hlt;simp only [hlt] at hvf;simp at hc;obtain ⟨rfl,rfl⟩:=hc;refine ⟨ps++args.toList.map (evT t),?_,RelV.append hcaps hargs⟩;simp only [Sem.run_bind,resolve,hvf,Deferred.ofValue,Sem.run_pure,Result.andThen_ok,invoke]
   congr 2
   simp_all
 all_goals simp_all
theorem calOf_yl {o:Oper} {f:Operand} {args:Array Operand} {ats:Array TypeId} (hop:o.op= .call {callee:= .value f,args:=args,argTypes:=ats}) {regs:List RV} {t:Array Value} {bb:Nat} {as:List RV}
  (hr:RelRs A S w regs t) (hgood:goodO o=true) (hc:calOf (evR regs f) (args.toList.map (evR regs))=some (.yl bb,as)):
  ∃(vs:List Value) (B d:Nat),S bb=some (B,d)∧RelV A S w as vs∧∀lr,w.heap[B]? =some (.loop lr)→vs.length=lr.params.size→
   (execOp (evT t) o).run P w= .ok (.round B lr.fn ((lr.params.zip vs.toArray).foldl (fun tm (x,a)=>tm.setIfInBounds x a) lr.tmps) lr.assign lr.body) w:=by
 have hm:=goodO_mem hgood;rw [hop] at hm;simp only [Op.operands,Call.operands] at hm;have hf:=evR_rel hr (hm f (by simp));have hargs:RelV A S w (args.toList.map (evR regs)) (args.toList.map (evT t)):=RelV.mapMem _ _ _ fun x hx=>evR_rel hr (hm x (by simp_all));have hexec:execOp (evT t) o=(do let d ← resolve (evT t) {callee:= .value f,args:=args,argTypes:=ats} o.type;invoke d.target d.args):=by
  obtain ⟨dst,op,type,pos,after,guard⟩:=o;simp only at hop;subst hop;rfl
 rw [hexec];generalize evR regs f=rf at hc hf;generalize hvf:evT t f=vf at hf;unfold calOf at hc;split at hc
 ·grind
 ·grind
 ·rename_i b';simp at hc;obtain ⟨rfl,rfl⟩:=hc;obtain ⟨B,d,q1,rfl⟩:=hf;refine ⟨args.toList.map (evT t),B,d,q1,hargs,fun lr hlr hlen=> ?_⟩;have hg:(getObj B).run P w= .ok (.loop lr) w:=by simp [getObj,Sem.run,hlr]
  have e:(args.map (evT t))=(args.toList.map (evT t)).toArray:=by apply Array.ext';simp
  have hsz:¬((args.toList.map (evT t)).toArray.size≠lr.params.size):=by simp at hlen ⊢;exact hlen
  simp only [Sem.run_bind,resolve,hvf,Deferred.ofValue,Sem.run_pure,Result.andThen_ok,invoke,e,Array.empty_append,Instr.yield,Instr.getLoop,hg,Sem.run_ite,hsz,if_false]
 ·simp at hc
theorem Steps.one' {m m':Machine} (h:step P m= .next m'):Steps P m m':=Go.Steps.one h
theorem opK_sound (hwf:WFP T) {ops:Array Oper} {i:Nat} {rest:List Nat} {o:Oper} {b:Frame} {t:Array Value} {k:List Item} {cs:List Frame} {st:St} {K:St→Prop}
  (ho:ops[i]? =some o) (hw:Region.wanted o (yielded ops t)=true) (hs:Sim G A S st.hp w) (hr:RelRs A S w st.regs t) (h:opK P T G (CalOk P G) o st K):
  ∃st' t' A' S' w',K st'∧Steps P (lone (Fr b t (.inRegion ops (i::rest)::k)) cs w) (lone (Fr b t' (.inRegion ops rest::k)) cs w')∧RelRs A' S' w' st'.regs t'∧Sim G A' S' st'.hp w'∧Ext A S st.hp w A' S' st'.hp w':=by
 unfold opK at h;split at h
 ·exact h.elim
 ·rename_i hgood;split at h
  ·rename_i f args ats hop;have hnd:notDefer o.op=true:=by rw [hop];rfl
   have hfin:∀v,(Fr b t (.inRegion ops (i::rest)::k)).finish v=Fr b (putT t o.dst v) (.inRegion ops rest::k):=by
    intro v;rw [finish_Fr,ho];rfl
   split at h
   ·rename_i c as hc;cases c with
    | fn g=>
     obtain ⟨vs,hexec,hvs⟩:=calOf_fn (P:=P) (w:=w) hop hr hgood hc
     rcases h with ⟨⟨fn,g1,g2,g3⟩,hcall⟩ | hx
     ·obtain ⟨r,L',v,A',S',w',hK,hst,hrel,hsim,hext⟩:=hcall A S w vs hs hvs (Fr b t (.inRegion ops (i::rest)::k)) cs;rw [hfin] at hst;exact ⟨_,_,A',S',w',hK,.head (fr_opEnter ho hw hnd (hexec.trans (callFunc_enter g1 g2 g3))) hst,(hs.relRs hext hr).put hrel,hsim,hext⟩
     ·obtain ⟨r,L',v,A',S',w',hK,hrun,hrel,hsim,hext⟩:=hx A S w vs hs hvs;exact ⟨_,_,A',S',w',hK,Steps.one' (fr_opValue ho hw hnd (hexec.trans hrun)),(hs.relRs hext hr).put hrel,hsim,hext⟩
    | yl bb=>
     obtain ⟨vs,B,d,hSb,hvs,hexec⟩:=calOf_yl (P:=P) hop hr hgood hc;obtain ⟨⟨lr0,hL⟩,hcall⟩:=h;obtain ⟨B',d',tmps,D,q1,q2,q3⟩:=hs.ob bb _ hL;rw [hSb] at q1;simp only [Option.some.injEq,Prod.mk.injEq] at q1;obtain ⟨rfl,rfl⟩:=q1;obtain ⟨hlen,hret⟩:=hcall A S w vs B d _ hs hvs hSb q2;obtain ⟨r,L',v,A',S',w',hK,hst,hrel,hsim,hext⟩:=hret (Fr b t (.inRegion ops (i::rest)::k)) cs;rw [hfin] at hst;exact ⟨_,_,A',S',w',hK,.head (fr_opRound ho hw hnd (hexec _ q2 hlen)) hst,(hs.relRs hext hr).put hrel,hsim,hext⟩
   ·exact h.elim
  ·split at h
   ·rename_i hno r hp hopA;have hnd:notDefer o.op=true:=by
     cases hop:o.op<;>first | rfl | (simp [opA,hop] at hopA)
    obtain ⟨nx,v,w',A',S',hrun,hnx,hrel,hsim,hext⟩:=opA_ok (ρ':=evT t) hwf hs (fun x hx=>evR_rel hr (goodO_mem hgood x hx)) hopA;refine ⟨_,_,A',S',w',h,?_,(hs.relRs hext hr).put hrel,hsim,hext⟩
    rcases hnx with rfl | ⟨rfl,rfl⟩
    ·exact Steps.one' (fr_opValue ho hw hnd hrun)
    ·exact Steps.one' (fr_opUnit ho hw hnd hrun)
   ·exact h.elim
theorem wpL_sound (hwf:WFP T) {ops:Array Oper} {b:Frame} {k:List Item} {cs:List Frame} {Q:St→Prop}:
  ∀(l:List Oper) (i:Nat),ops.toList.drop i=l→∀{A:Nat→Prop} {S:Where} {w:World} {t:Array Value} {st:St},Sim G A S st.hp w→RelRs A S w st.regs t→wpL P T G (CalOk P G) ops l st Q→
  ∃st' t' A' S' w',Q st'∧Steps P (lone (Fr b t (.inRegion ops (List.range' i l.length)::k)) cs w) (lone (Fr b t' k) cs w')∧RelRs A' S' w' st'.regs t'∧Sim G A' S' st'.hp w'∧Ext A S st.hp w A' S' st'.hp w'
 | [],i,hd,A,S,w,t,st,hs,hr,h=>⟨st,t,A,S,w,h,Steps.one' fr_regionEnd,hr,hs,Ext.refl⟩
 | o::l,i,hd,A,S,w,t,st,hs,hr,h=>by
  have ho:ops[i]? =some o:=by
   have:(ops.toList.drop i)[0]? =some o:=by rw [hd];rfl
   rw [List.getElem?_drop] at this
   simpa using this
  have hd':ops.toList.drop (i+1)=l:=by
   rw [← List.drop_drop,hd];rfl
  have hrange:List.range' i (o::l).length=i::List.range' (i+1) l.length:=by simp [List.range'_succ]
  rw [hrange];have go:∀(hw:Region.wanted o (yielded ops t)=true),opK P T G (CalOk P G) o st (fun st'=>wpL P T G (CalOk P G) ops l st' Q)→
    ∃st' t' A' S' w',Q st'∧Steps P (lone (Fr b t (.inRegion ops (i::List.range' (i+1) l.length)::k)) cs w) (lone (Fr b t' k) cs w')∧RelRs A' S' w' st'.regs t'∧Sim G A' S' st'.hp w'∧Ext A S st.hp w A' S' st'.hp w':=by
   intro hw hop;obtain ⟨st1,t1,A1,S1,w1,hK,hst,hr1,hs1,hx1⟩:=opK_sound (b:=b) (k:=k) (cs:=cs) (rest:=List.range' (i+1) l.length) hwf ho hw hs hr hop;obtain ⟨st2,t2,A2,S2,w2,hQ,hst2,hr2,hs2,hx2⟩:=wpL_sound hwf l (i+1) hd' hs1 hr1 hK;exact ⟨st2,t2,A2,S2,w2,hQ,hst.trans hst2,hr2,hs2,hx1.trans hx2⟩
  simp only [wpL] at h;split at h
  ·rename_i hg;exact go (by simp [Region.wanted,hg]) h
  ·rename_i g hg;split at h
   ·rename_i c hc;have hwc:=guardR_ok hr hg hc;cases c with
    | true=>simp_all
    | false=>
     have hskip:=fr_opSkip (P:=P) (b:=b) (t:=t) (k:=k) (cs:=cs) (w:=w) (ops:=ops) (i:=i) (rest:=List.range' (i+1) l.length) (by simp [ho,hwc]);rw [ho] at hskip;simp only [Option.bind_some] at hskip;obtain ⟨st2,t2,A2,S2,w2,hQ,hst2,hr2,hs2,hx2⟩:=wpL_sound (b:=b) (k:=k) (cs:=cs) hwf l (i+1) hd' (st:=⟨putR st.regs o.dst undefR,st.hp⟩) hs (hr.put undefR_rel) (h.2 rfl);exact ⟨st2,t2,A2,S2,w2,hQ,.head hskip hst2,hr2,hs2,hx2⟩
   ·exact h.elim
def Lands (P:Program) (m:Machine) (b:Frame) (k:List Item) (cs:List Frame):Ex→List Deferred→Array Value→World→Prop
 | .normal,ds,t,w=>Steps P m (lone (Fr {b with defers:=ds} t k) cs w)
 | .exit id,ds,t,w=>∃k0,exitTo id k0=exitTo id k∧Steps P m (lone (Fr {b with defers:=ds} t (.code (.exit id)::k0)) cs w)
 | .ret,ds,t,w=>∃k0,Steps P m (lone (Fr {b with defers:=ds} t (.code .ret::k0)) cs w)
theorem Lands.of_steps {m m':Machine} {b:Frame} {k:List Item} {cs:List Frame} {e:Ex} {ds:List Deferred} {t:Array Value} {w:World} (h:Steps P m m') (h':Lands P m' b k cs e ds t w):Lands P m b k cs e ds t w:=by
 cases e with
 | normal=>exact h.trans h'
 | exit id=>obtain ⟨k0,h1,h2⟩:=h';exact ⟨k0,h1,h.trans h2⟩
 | ret=>obtain ⟨k0,h2⟩:=h';exact ⟨k0,h.trans h2⟩
def Goes (P:Program) (G:Globs) (base:Bs) (b:Frame) (k:List Item) (cs:List Frame) (m:Machine) (A:Nat→Prop) (S:Where) (L:List Ob) (w:World) (Q:Ex→St→Prop):Prop:=
 ∃e st' t' A' S' w' ds,Q e st'∧Lands P m b k cs e ds t' w'∧RelRs A' S' w' st'.regs t'∧Sim G A' S' st'.hp w'∧Ext A S L w A' S' st'.hp w'∧Marks A' S' st'.hp w' base ds
theorem Marks.ext {S':Where} {L':List Ob} {w':World} {A':Nat→Prop} {base:Bs} {ds:List Deferred} (h:Marks A S L w base ds) (hx:Ext A S L w A' S' L' w'):Marks A' S' L' w' base ds:=by
 obtain ⟨ms,h0,hp,h⟩:=h;refine ⟨ms,h0,hp,fun d hd=> ?_⟩;obtain ⟨D,e,h1,h2,h3,h4⟩:=h d hd;have hlt:=not_lt_heap h2;refine ⟨D,e,h1,by rw [hx.keep D hlt h3];exact h2,fun ho=>h3 (hx.own D hlt ho),fun hA=> ?_⟩
 rcases hx.down D hA with h | h | h
 all_goals grind
end
end Go.Sx
