/- Part of MeaningExact. -/
import Derived.Test.YtkeiahlgcgabjaaGreatDoorP12
import Derived.Test.YtkeiahlgcgabjaaGreatDoorP13
import Derived.Test.YtkeiahlgcgabjaaGreatDoorP14
import Derived.Test.YtkeiahlgcgabjaaGreatDoorP15
set_option linter.all false
set_option maxRecDepth 1000000
set_option maxHeartbeats 0
namespace Go.Sx
variable {P:Program} {T:aq} {G:az} {hp:List Ob} {e:TypeId}
def bK(s:ByteArray):List Int:=s.data.toList.map fun b=>(b.toNat:Int)
def dT(s:ByteArray):(bK s).length=s.size:=by rw[bK,List.length_map];rfl
def xD(s:ByteArray):ofBytes s=pc ((bK s).flatMap aY):=by simp only[ofBytes,bK,pc];induction s.data.toList with| nil=>rfl|cons x l d=>simp_all[aY]
def Ge(B:List Int):bytesOf (pc (B.flatMap aY))=some (B.map fun n=>UInt8.ofNat n.toNat):=by induction B with| nil=>rfl|cons x l d=>simp_all[aY,pc,bytesOf]
def u1(B:List Int):(pc (B.flatMap aY)).length=B.length:=by simp[pc,bc zN]
def Ap(s:ByteArray):s.size<=(bK s).length/\(bK s).length<=s.size:=by rw[dT];omega
def g2{s:ByteArray}{a b:Int}(h:0<=a)(i:a<=b)(j:b<=s.size):b - a<=((aC s a b).size:Int)/\((aC s a b).size:Int)<=b - a:=by rw[cp h i j];omega
def HL{π:Nat->Option Nat}{hp:List Ob}{b:Nat}{t:TypeId}{l:List PV}{fz:Bool}(h:hp[b]? =some (.tc t (pc l) fz)):gG π hp b=some (.tc t (pc l) fz):=by simp[gG,h,e9,tW]
def Gf{d:Array TypeId}{b f:Nat}{L:List Int}{c:Int}{i:TypeInfo}{zero new:List LV}{fz:Bool}(z:(d[0]?).bind T.au=some (.slice e))(M:(d[1]?).bind T.au=some (.slice e))(y:T.info e=some i)(g:zeroOf T e=some zero)(A:i.size=1)(H:zero.length=i.size)(O:hp[b]? =some (.tc e (pc (L.flatMap aY)) true))(x:hp[f]? =some (.cells new fz))(B:new=[.p (.vl (.int .u8 c))])(C:i.bytes=1)(Q:L.length+1<=17592186044416): dM T d [.v (.one (.ad b 0 L.length 1)),.v (.one (.ad f 0 1 1))] hp=some (.v (.one (.ad hp.length 0 (L++[c]).length 1)),hp.set b .gone++[.tc e (pc ((L++[c]).flatMap aY)) true]):=by(subst B;have D:elems hp i.size (.v (.one (.ad f 0 1 1)))=some (1,[.p (.vl (.int .u8 c))]):=by simp only[elems,A,if_true,x];rfl);(have E:roomy (L.length+1) i.bytes=true:=by simp[roomy,C];omega);simp only[dM,z,M,y,g,D];simp_all[u1];simp[pc,aY]
def x2{c:Array TypeId}{b:Nat}{L:List Int}{s:ByteArray}{i:TypeInfo}{zero:List LV}(z:(c[0]?).bind T.au=some (.slice e))(M:(c[1]?).bind T.au=some .string)(y:T.info e=some i)(d:zeroOf T e=some zero)(A:i.size=1)(H:zero.length=i.size)(O:hp[b]? =some (.tc e (pc (L.flatMap aY)) true))(B:i.bytes=1)(C:0<s.size)(Q:L.length+s.size<=17592186044416): dM T c [.v (.one (.ad b 0 L.length 1)),.v (.one (.p (.vl (.string s))))] hp=some (.v (.one (.ad hp.length 0 (L++bK s).length 1)),hp.set b .gone++[.tc e (pc ((L++bK s).flatMap aY)) true]):=by(have D:elems hp i.size (.v (.one (.p (.vl (.string s)))))=some (s.size,pc ((bK s).flatMap aY)):=by simp only[elems,A,if_true,xD]);(have E:roomy (L.length+s.size) i.bytes=true:=by simp[roomy,B];omega);(have h:¬s.size=0:=by omega);simp only[dM,z,M,y,d,D];simp_all[u1,dT];simp[pc]
def Fw{b:Array TypeId}{s:ByteArray}{i:TypeInfo}{zero:List LV}(z:(b[0]?).bind T.au=some (.slice e))(M:(b[1]?).bind T.au=some .string)(y:T.info e=some i)(d:zeroOf T e=some zero)(A:i.size=1)(H:zero.length=i.size)(B:i.bytes=1)(C:0<s.size)(Q:s.size<=17592186044416): dM T b [.v (.one (.p (.vl (.slice none 0 0)))),.v (.one (.p (.vl (.string s))))] hp=some (.v (.one (.ad hp.length 0 (bK s).length 1)),hp++[.tc e (pc ((bK s).flatMap aY)) true]):=by(have D:elems hp i.size (.v (.one (.p (.vl (.string s)))))=some (s.size,pc ((bK s).flatMap aY)):=by simp only[elems,A,if_true,xD]);(have E:roomy s.size i.bytes=true:=by simp[roomy,B];omega);(have h:¬s.size=0:=by omega);simp only[dM,z,M,y,d,D];simp_all[dT]
def zp{c:Array TypeId}{b:Nat}{L:List Int}{u:TypeId}{k:Int}(z:(c[0]?).bind T.au=some (.pointer u))(h:u=e)(d:P.cellsOf e=1)(O:hp[b]? =some (.tc e (pc (L.flatMap aY)) true))(C:k=L.length)(i:1<=L.length)(j:L.length<=1099511627776): jA P T c [.v (.one (.ref b 0)),.v (.one (.p (.vl (.int .i64 k))))] hp=some (.v (.one (.p (.vl (.string (cT L))))),hp):=by subst h C;obtain⟨n,x⟩:∃n,L.length=n+1:=⟨L.length - 1,w_⟩;(have f:((L.length:Nat):Int)= .ofNat (n+1):=by rw[x];rfl);rw[f];simp only[jA,z,O,Ge,u1];rw[if_pos ⟨x,by(have:(2:Nat)^40=1099511627776:=by decide);omega,trivial,d⟩];rfl
def x3{b n z:Nat}(h:1<=n):kO [.v (.one (.ad b 0 n z))] hp=some (.v (.one (.ref b 0)),hp):=by obtain⟨m,rfl⟩:∃m,n=m+1:=⟨n - 1,w_⟩;rfl
end Go.Sx
namespace Go.Sx.E1
open Go.Proofs Go.Proofs.Tryz
variable [af]
def Cd(x:RV)(L:List Ob):am prog GG (.fn 555) [x] L (fun r n=>r=x/\n=L):=CY x L
def Oo(n:Int)(h:0<=n)(x:n<=1000)(L:List Ob):am prog GG (.fn 556) [o (i n)] L (fun r p=>r=o (.ad L.length 0 n.toNat 1)/\p=L++[.tc 5 [] true]):=by obtain⟨m,rfl⟩:=Int.eq_ofNat_of_zero_le h;exact CZ m w_ L
end Go.Sx.E1
noncomputable section
namespace Go.Sx.E1
open Go.Proofs Go.Proofs.Tryz
variable [af]
abbrev p0:=List Dp
abbrev aot:=[LV.p (PV.vl (Value.int IntKind.u8 0)),LV.p (PV.vl (Value.int IntKind.u8 0)),LV.p (PV.vl (Value.int IntKind.u8 0)),LV.p (PV.vl (Value.int IntKind.u8 0)),LV.p (PV.vl (Value.int IntKind.u8 0)),LV.p (PV.vl (Value.int IntKind.u8 0)),LV.p (PV.vl (Value.int IntKind.u8 0)),LV.p (PV.vl (Value.int IntKind.u8 0)),LV.p (PV.vl (Value.int IntKind.u8 0)),LV.p (PV.vl (Value.int IntKind.u8 0)),LV.p (PV.vl (Value.int IntKind.u8 0)),LV.p (PV.vl (Value.int IntKind.u8 0)),LV.p (PV.vl (Value.int IntKind.u8 0)),LV.p (PV.vl (Value.int IntKind.u8 0)),LV.p (PV.vl (Value.int IntKind.u8 0)),LV.p (PV.vl (Value.int IntKind.u8 0)),LV.p (PV.vl (Value.int IntKind.u8 0)),LV.p (PV.vl (Value.int IntKind.u8 0)),LV.p (PV.vl (Value.int IntKind.u8 0)),LV.p (PV.vl (Value.int IntKind.u8 0)),LV.p (PV.vl (Value.int IntKind.u8 0)),LV.p (PV.vl (Value.int IntKind.u8 0)),LV.p (PV.vl (Value.int IntKind.u8 0)),LV.p (PV.vl (Value.int IntKind.u8 0))]
abbrev Wc:=List.map (fun v=>LV.p (PV.vl v)) (Value.agg #[Value.slice none 0 0,Value.string (ByteArray.mk #[])]).cells.toList
abbrev VD:=(.sl 4 [.vl (.string ⟨#[110,97,109,101]⟩),I_ 1,.vl (.string ⟨#[97,109,111,117,110,116]⟩),I_ 2,.vl (.string ⟨#[100,97,121]⟩),I_ 3,.vl (.string ⟨#[111,116,104,101,114]⟩),I_ 5]:PV)
abbrev S5:=[i 0,i 1,i 0,i 0,e_,e_,i 1,i 0,i 0,i 0,i 1,i 0,i 0,i 1,i 0,nl,nl,b false]
abbrev Yh:=List.map (fun v=>LV.p (PV.vl v)) (Value.string (ByteArray.mk #[])).cells.toList
abbrev ni:=o (b true)
abbrev Hx:=[i 0,e_,i 0,i 0,i 0,nl,nl]
abbrev nA:=o (b false)
abbrev Yi:=[i 0,i 0,i 0,i 0,e_,e_,i 0,i 0,i 0,i 0,i 0,i 0,i 0,i 0,i 0,nl,nl,b false]
abbrev W3:=fun(n:Int)=>[i 8,i 1,i 0,i 0,e_,e_,i 1,i 0,i 0,i 0,i n,i n,i 0,i 1,i 0,nl,nl,b false]
abbrev n5:=(.ref 0 0:LV)
abbrev LB:=b false
abbrev aih:=(.p (.sl 4 [(.vl (vs [110,97,109,101])),I_ 1,(.vl (vs [97,109,111,117,110,116])),I_ 2,(.vl (vs [100,97,121])),I_ 3,(.vl (vs [111,116,104,101,114])),I_ 5]):LV)
abbrev OF:=(fun r=>∃v:Bool,r=o (b v))
abbrev Vq:=[o (.aI 5),o (.ref 4 0),o (.ref 3 0)]
abbrev ZN:=fun v=>LV.p (PV.vl v)
abbrev ZO:=fun(w:Nat)=>(.sl ((List.take w av).length) (List.flatMap ae (List.take w av)):PV)
abbrev pD:=fun(x:PV)=>(0,o (.p x))
abbrev r3:=List.range 15
abbrev xA:=b true
abbrev V2:=(.vl (Value.func (Fn.func 282) #[vs []] #[]):PV)
abbrev CJ:=fun(s:BA)=>(s.size:Int)<=1000000
abbrev v8:=z_ 13++[[2]]
abbrev VU:=[1,1,0,1,0,0,1,0,0,1,1,1,0]
abbrev ae1:=(.p (.sl 4 [.vl (vs [110,97,109,101]),.vl (vi 1),.vl (vs [97,109,111,117,110,116]),.vl (vi 2),.vl (vs [100,97,121]),.vl (vi 3),.vl (vs [111,116,104,101,114]),.vl (vi 5)]):LV)
abbrev ZP:=[i 16,i 1,i 0,i 0,e_,e_,i 1,i 0,i 0,i 0,i 1,i 0,i 1,i 1,i 0,nl,nl,b false]
abbrev ZM:=[i 16,i 1,i 0,i 0,e_,e_,i 1,i 0,i 0,i 0,i 1,i 0,i 2,i 1,i 0,nl,nl,b false]
abbrev VT:=fun z=>o (.p (.vl (.int .u64 z)))
abbrev Xt:=fun(op:BA)=>(op.toList==(ByteArray.mk #[99,111,108]).toList)=false
abbrev aaW:=([.p (.vl (Value.func (Fn.func 185) #[] #[]))]:List LV)
abbrev tg:=(.ref 1 0:LV)
abbrev V1:=fun z=>o (.p (.vl (.int .u32 z)))
abbrev Xu:=fun(op:BA)=>(op.toList==(ByteArray.mk #[105,102]).toList)=false
abbrev CO:=[1,1,0,1,0,0]
abbrev vQ:=(.ref 2 0:LV)
abbrev aaX:=([.p (.vl (Value.func (Fn.func 181) #[] #[]))]:List LV)
abbrev acJ:=fun(L:p0)=>List.flatMap ai L
abbrev ae5:=fun(w:Nat)=>List.flatMap ae (List.take w av)
abbrev aa2:=fun(op:BA)=>VQ 36 [o (sv op)] (o (b false))
abbrev W6:=[.p (.vl (vs [45])),b false]
abbrev QL:=fun(s:BA)=>(s.size:Int)<=200
abbrev sE:=fun(y:PV)=>(1,o (.p y))
abbrev WL:=[1,1,0,1,0,0,1,0,0,1,0]
abbrev aa3:=pT f95 [1,0,1,0,1,1,1,1,1,1,1,1,1,0,1,1,1,1,1,1,1,0,0]
abbrev WM:=fun(x:BA)=>(12,o (i ((↑x.size:Int))))
abbrev aio:=(.p (.sl 5 [I_ 1,I_ 4,I_ 4,(.vl (vs [])),I_ 0,I_ 0,I_ 0,(.vl (vs [45])),I_ 1,I_ 1,I_ 200,(.vl (vs [])),I_ 0,I_ 0,I_ 0,(.vl (vs [45])),I_ 1,I_ 1,I_ 200,(.vl (vs []))]):LV)
abbrev aa4:=fun(w:Nat)=>(.sl (av.take w).length ((av.take w).flatMap ae):PV)
abbrev W7:=[.p (.vl (vs [68,68])),b true]
abbrev Bq:=[b false]
abbrev W8:=fun(L:eF)=>(L.length:Int)<4611686018427387904
abbrev Yl:=[.p (.vl (vs [89,89,89,89])),b true]
abbrev aov:=(.ab [.agg [i 0,i 1,i 0,i 0,e_,e_,i 1,i 0,i 0,i 0,i 1,i 0,i 0,i 1,i 0,nl,nl,b true],.one (b true)]:RV)
abbrev Xx:=[i 1,i 0,i 0,e_,e_]
abbrev aa6:=fun(D:List ByteArray)=>(.sl D.length (List.flatMap ae D):PV)
abbrev W9:=pT f547 [0,0,1,0,1,0,0,2]
abbrev aow:=[97,109,111,117,110,116]
abbrev XT:=fun(D:List ByteArray)=>List.flatMap ae D
abbrev U4:=[1,0,1,0,0]
abbrev aa7:=(.ab [.one (.p (.sl (1) [(I_ (1))])),.one (i (1)),.one (i (0))]:RV)
abbrev Yj:=(.ref 3 0:LV)
abbrev aa0:=[89,89,89,89,45,77,77,45,68,68]
abbrev Vu:=List.range 11
abbrev ZR:=[[],[],[],[0],[0],[0],[],[],[],[0],[0]]
abbrev XR:=[1,0,0,1,1,0,0,1,1,1,0]
abbrev Xv:=[i 1,i 0,i 0,i 0]
abbrev Wd:=[1,1,1,0,1,0,0]
abbrev Xw:=fun(w:Nat)=>List.take w av
abbrev Vr:=List.range 12
abbrev XS:=fun(s:BA)=>(s.size:Int)<4611686018427387904
abbrev axg:=[i 0,i 1,i 0,i 0,e_,e_,i 1,i 0,i 0,i 0,i 1,i 0,i 0,i 1,i 0,nl,nl,b true]
abbrev acL:=o (.p (.vl (Value.pointer (some (Addr.mk 1 0 none)))))
abbrev ae3:=vs [89,89,89,89]
abbrev ae4:=(.vl (vs [68,68]):PV)
abbrev ain:=[89,89,89,89]
abbrev We:=fun(n:Int)=>n<=1000000000000000
abbrev Yk:=fun(R:List (Row 0))=>i ((↑R.length:Int))
abbrev W5:=[i 0,i 0]
abbrev aa1:=No false
abbrev acM:=(fun r=>∃s:nB,r=o (sv s)/\(s.size:Int)<=24)
abbrev Wy:=o (.p (.vl (vs et)))
abbrev acN:=fun C=>(.sl C.length (List.flatMap ae C):PV)
abbrev Vx:=List.range 13
abbrev Wf:=fun(x:BA)=>(x.size:Int)<=200
abbrev V3:=(.vl (vs [116]):PV)
abbrev aik:=(.p (.sl (1) [(I_ (1))]):LV)
abbrev ae2:=fun(B:eF)=>([.tc 349 [.ref 0 0,.ad 1 0 B.length 1] false,.tc 5 (pc (B.flatMap aY)) true]:List Ob)
abbrev ZQ:=[.p (.vl (vs [77,77])),b true]
abbrev ail:=C_ [i 0,LV.p (PV.vl (vs [])),i 0,i 0,i 0,nl,nl]
abbrev Ww:=(0,o (.aI 4))
abbrev aou:=[110,97,109,101]
abbrev Wx:=fun(w:Nat)=>(av.take w).length=w
abbrev WK:=fun(n:Int)=> -1000000000000000<=n
abbrev aaZ:=(.vl (vs []):PV)
abbrev Vv:=[0,1,2]
abbrev VF:=fun(D:p0)=>D.length<=1000
abbrev ae9:=vs [68,68]
abbrev W_:=([.fn 1491 [(0,0)]]:List LV)
abbrev acV:=[1,1,1,0,1,0,0,1,1,0,0,1,1,1,0,0]
abbrev C4:=(.vl vn:PV)
abbrev Wh:=List.range 18
abbrev IS:=PV.vl vn
abbrev ZT:=[1,1,1,1,1,1,0,1,0,0]
abbrev abb:=z_ 5++[[99999],[],[],[3]]
abbrev ae_:=pT f157 [1,1,0,1,0,0,1,0,0,1,1,1,0,1,0,0]
abbrev aoz:=fun(n:Int)=>[i 0,i 1,i 0,i 0,e_,e_,i 1,i 0,i 0,i 0,i n,i n,i 0,i 1,i 0,nl,nl,b false]
abbrev aoA:=[[99999],[],[],[3]]
abbrev afa:=fun(C:List ByteArray)=>List.flatMap ae C
abbrev aiu:=[116,46,99,105,116,121,46,122,105,112,58,110,117,109,98,101,114]
abbrev V4:=List.range 9
abbrev V5:=(.sl 1 [I_ 1]:PV)
abbrev afb:=fun(w:PV)=>(fun r M=>∃v:Bool,r=o (b v)/\M=[C_ [.p w]])
abbrev Xy:=[(0,0)]
abbrev ZU:=fun(e:Int)=>[i 0,e_,i 0,i 0,i e,nl,nl]
abbrev abc:=vs [45,77,77,45,68,68]
abbrev aoB:=fun(L:List ByteArray)=>(.p (.sl L.length (List.flatMap ae L)):LV)
abbrev axk:=(.vl (vs [100,97,121]):PV)
abbrev aiv:=[116,46,99,105,116,121,46,99,105,116,121,58,116,101,120,116]
abbrev VG:=o (i (-1))
abbrev Ym:=o (.p (.vl (vs gV)))
abbrev acP:=[0,1,2,3,4,5,6,7,8,9,10,11]
abbrev ait:=(.ab [.one (.p (.sl (2) [(I_ (2)),(I_ (2))])),.one (i (2)),.one (i (0))]:RV)
abbrev acQ:=PV.vl (vs [])
abbrev aox:=[4,5,6,8,9,10,11,12,1,7,13,14,15,16]
abbrev axi:=fun(q:Int)=>(.ab [.agg [i 4,e_,i 0,i 0,i q,nl,nl],.one (i 0)]:RV)
abbrev IN:=o (i 1)
abbrev Wg:=List.range 8
abbrev ae6:=fun D=>aV prog TT .append #[43,43] 43 [(o (nl)),(o (.p D))]
abbrev aa9:=(fun r=>∃v,r=o (b v))
abbrev aa_:=[[],[1],[1],[1],[1],[1]]
abbrev acR:=[.p (.vl (vs [46])),b false]
abbrev YW:=fun(t:BA)=>(t.size:Int)<=1000000
abbrev VE:=fun k=>(13,o (i k))
abbrev VK:=fun(k:Int)=>some (o (i k))
abbrev Vl:=o (i 0)
abbrev WB:=[0,1,2,3]
abbrev VL:=fun F=>(36,o (.p F))
abbrev acS:=fun z=>o (.p (.vl (.int .u8 z)))
abbrev YX:=[b true]
abbrev ZS:=z_ 12++[[0],[],[0]]
abbrev aba:=vs [77,77,45,68,68]
abbrev acT:=[1,1,1,1,1,1,1,0,1,0,0]
abbrev acU:=fun(C:Dp)=>[.p C.x,sv C.t]
abbrev axj:=(.p (.sl (2) [(I_ (2)),(I_ (2))]):LV)
abbrev aoy:=[6,8,9,10,11,12,1,7,13,14,15,16]
abbrev acO:=[99,105,116,121]
abbrev aip:=fun(B:eF)=>Ob.tc 5 (pc (List.flatMap aY B)) true
abbrev Wz:=(8,o (nl))
abbrev aiq:=fun z=>o (.p (.vl (.int .u32 (IntKind.u32.wrap (z*2)))))
abbrev aa8:=fun(N:Nat)=>(.ad 0 0 ((↑N:Int).toNat) 1:LV)
abbrev air:=fun(s:BA)=>(fun r=>∃t:nB,r=o (sv t)/\(t.size:Int)<=s.size)
abbrev ais:=fun(s:BA)=>[o (sv ⟨#[89,89,89,89,45,77,77,45,68,68]⟩),o (sv s)]
abbrev WA:=[i 1,i 0]
abbrev axh:=fun k=>bj prog TT .quo 3 (Operand.const (Value.int IntKind.i64 1000000000000000)) (.tmp 48) (o (i 1000000000000000)) (o (i (tn k)))
abbrev Iu:=fun M=>[P_ ai M]
abbrev ae8:=Operand.const (Value.int IntKind.i64 1)
abbrev abe:=[1,1,1,1,0,1,0,0]
abbrev aoH:=fun(F:Nat)=>(.vl (.func (.func F) #[] #[]):PV)
abbrev XV:=C_ [i 0]
abbrev VM:=o (nl)
abbrev aiz:=fun(x:BA)=>(fun r=>∃k:Int,r=o (i k)/\-1<=k/\k<x.size)
abbrev ac0:=(fun r=>∃k,r=o (i k))
abbrev ac1:=fun(g:PV)=>[i 5,e_,i 0,i 0,i 0,.p g,nl]
abbrev ac2:=fun(s:BA)=>[i 1,sv s,i 0,i 0,i 0,nl,nl]
abbrev aiA:=vs [45]
abbrev abf:=(3,o (.ref 5 0))
abbrev XB:=fun(L:eF)=>L.length<=1000
abbrev Xa:=fun k=>(5,o (i k))
abbrev afk:=[1,1,1,1,1,1,1,1,0,1,0,0]
abbrev aiB:=fun(s:BA)=>(fun r=>∃v:Bool,r=o (b v)/\(v=true↔b8 s))
abbrev ZX:=fun(x:Int)=>x<18446744073709551616
abbrev afl:=[[0,1,2,3,4,5,6,7,8,9,10]]
abbrev XC:=(5,o (nl))
abbrev aoI:=(.vl (vs [46]):PV)
abbrev aoJ:=fun(s:BA)=>(fun r=>∃(A:eF)(y:PV),r=o (.p y)/\aa aj A y/\(A.length:Int)=s.size+1/\cy s.size A)
abbrev Y4:=[(0,0),(2,0)]
abbrev aiC:=fun O=>(.sl O.length (List.flatMap ai O):PV)
abbrev ac3:=fun(n:Int)=>[i 3,e_,i 0,i 0,i n,nl,nl]
abbrev aoK:=[10,11,12,1,7,13,14,15,16]
abbrev Wj:=(.ref 0 3:LV)
abbrev Sd:=fun(s:BA)=>[o (sv s)]
abbrev acX:=fun T=>List.flatMap ae T
abbrev Xz:=fun(s:BA)=>(0,o (sv s))
abbrev acY:=[[1],[1],[1],[1],[1]]
abbrev Y0:=fun(t:BA)=>1<=(t.size:Int)
abbrev Y1:=fun(t:BA)=>(t.size:Int)<=4
abbrev XA:=(3,o (nl))
abbrev Wi:=fun k=>(6,o (i k))
abbrev WN:=fun(x:PV)=>(37,o (.p x))
abbrev Y2:=fun(B:eF)=>(.ad 1 0 B.length 1:LV)
abbrev VV:=fun k=>(8,o (i k))
abbrev aoE:=fun(L:List ByteArray)=>(fun r=>∃(M:List ByteArray)(y:PV),r=o (.p y)/\aa ae M y/\M.length<=L.length+1)
abbrev Y3:=fun(M:p0)=>(.ad 1 0 M.length 2:LV)
abbrev aix:=fun(w:Nat)=>i ((↑(List.take w av).length:Int))
abbrev acZ:=fun(y:PV)=>VQ 37 [o (.p y)] (o (b false))
abbrev aff:=[i 4,e_,i 0,i 0,i 0,nl,nl]
abbrev afg:=[i 4,e_,i 0,i 0,i 1,nl,nl]
abbrev afh:=[e_,e_,nl,nl,nl,nl,nl,nl]
abbrev ZV:=z_ 6++[[99999]]
abbrev ZW:=fun(x:Int)=>(.p (.vl (.int .u64 x)):LV)
abbrev axl:=[o (.p (.vl (vs [45,68,68])))]
abbrev Yn:=List.range 10
abbrev aiy:=fun(hz:dH 0 (B_ []) 0 0 0)=>[ce.mk 0 (B_ []) 0 0 0 hz]
abbrev aoG:=[i 0,i 1,i 0,i 0,e_,e_,i 1,i 0,i 0,i 0,i 1,i 0,i 1,i 1,i 0,nl,nl,b false]
abbrev aoC:=[i 0,i 1,i 0,i 0,e_,e_,i 1,i 0,i 0,i 0,i 1,i 0,i 2,i 1,i 0,nl,nl,b false]
abbrev abd:=fun(R:LR)=>Ob.loop R
abbrev afc:=z_ 8++[[1],[],[4],[],[2]]
abbrev acW:=fun(s:BA)=>ah s<4722366482869645213696
abbrev aiw:=[1,1,1,0,1,0,0,1,0,0,1,0,1,0,0]
abbrev afd:=([.p (.vl (vf 185))]:List LV)
abbrev afe:=([.p (.vl (vf 181))]:List LV)
abbrev aoD:=fun(K:Int)(y:PV) w P=>[C_ [i 0,i 1,i 0,i 0,e_,e_,i 1,i 0,i 0,i 0,i 1,i 0,i 0,i K,i K,.p y,.ad 1 0 w 2,b false],P_ ai P]
abbrev YY:=(.sl 0 []:PV)
abbrev YZ:=z_ 10++[[2]]
abbrev afi:=[0,1,3,2,4,5,6,7,8,9]
abbrev ZZ:=z_ 10++[[3]]
abbrev afp:=z_ 8++[[1],[],[],[],[2]]
abbrev aiL:=(.p (.sl (1) [(I_ (5))]):LV)
abbrev aoS:=fun(t:BA)=>C_ [LV.p (S_ t),b true]
abbrev abm:=(0,o (.aI 3))
abbrev abn:=(8,o (.aI 3))
abbrev afq:=z_ 7++[[99999],[],[],[4]]
abbrev XX:=(.ad 3 0 1 2:LV)
abbrev afr:=fun z=>o (b (!(true && z)))
abbrev abo:=[0,2,1,3,4,5]
abbrev aiM:=(.vl (vf 181):PV)
abbrev Y7:=List.range 7
abbrev aoT:=(fun r=>∃(D:p0)(z:PV),r=o (.p z)/\aa ai D z/\D.length<=100)
abbrev Yp:=[e_,nl,nl]
abbrev ac8:=[[99999],[],[],[2]]
abbrev ac9:=fun(L:List ByteArray)=>i ((↑L.length:Int))
abbrev aoU:=fun(h:Int)=>[i 16,i 1,i 0,i 0,e_,e_,i 1,i 0,i 0,i 0,i 1,i 0,i h,i 1,i 0,nl,nl,b false]
abbrev axr:=fun z=>(.vl (.int .u8 (IntKind.u8.wrap z)):PV)
abbrev aoV:=fun(K:Int)=>[i 0,i 1,i 0,i 0,e_,e_,i 1,i 0,i 0,i 0,i 1,i 0,i 0,i K,i K,nl,nl,b false]
abbrev aiN:=(.p (.vl (.int .u64 11529215046068469760)):LV)
abbrev ac_:=vs [45,68,68]
abbrev aoW:=fun z=>o (i (IntKind.i64.wrap (z+1)))
abbrev aiO:=[o (i 5)]
abbrev Y5:=List.range 14
abbrev Y6:=z_ 6++[[1]]
abbrev ZY:=o (i 6)
abbrev aiH:=fun z=>o (i (if 0>z then 0 else z))
abbrev axp:=fun z=>(.vl (.int .u8 z):PV)
abbrev Yo:=fun(N:Nat)=>(.ad 3 0 N 1:LV)
abbrev abh:=fun(y:Int)=>0<=y/\y<=9999
abbrev abi:=fun(m:Int)=>0<=m/\m<=9999
abbrev abj:=fun(d:Int)=>0<=d/\d<=9999
abbrev aoL:=fun(op:BA)=>[o (sv op)]
abbrev aoM:=[12,1,7,13,14,15,16]
abbrev afo:=fun(D:p0)=>(9,o (i ((↑D.length:Int))))
abbrev aoN:=[6,7,1,3,8,9,10,11]
abbrev XW:=B_ [116]
abbrev aiI:=(.vl (Value.func (Fn.func 288) #[] #[]):PV)
abbrev aiJ:=(.vl (Value.func (Fn.func 308) #[] #[]):PV)
abbrev aoO:=(.ab [.one (.p (.sl (2) [(I_ (3)),(I_ (3))])),.one (i (4)),.one (i (0))]:RV)
abbrev aoP:=(.ab [.one (.p (.sl (2) [(I_ (5)),(I_ (1))])),.one (i (5)),.one (i (0))]:RV)
abbrev ac5:=(.ref 5 0:LV)
abbrev aiK:=(.vl (Value.func (Fn.func 273) #[] #[]):PV)
abbrev ac6:=fun(N:Nat)=>(2,o (i ((↑N:Int))))
abbrev abk:=[(0,0),(1,0)]
abbrev aoQ:=[o (nl),o (nl)]
abbrev ac7:=[0,1,2,10,7]
abbrev axq:=fun(m:Int)=>a5 TT 475 (o (.p (.vl (Value.pointer (some (Addr.mk 6 0 none)))))) (o (i (m - 1)))
abbrev aiE:=fun(s:BA)=>i ((↑((↑s.size:Int)+1).toNat:Int))
abbrev afm:=fun(c:Int)=>(.p (.vl (.int .u8 c)):LV)
abbrev Wk:=fun(w:PV)=>[C_ [.p w]]
abbrev aiF:=[1,0,0,1,1,0,0,1,1,0,1,0]
abbrev axn:=a [i 0,e_,i (0),i 0,i 0,nl,nl]
abbrev axo:=fun(m:Int)=>a8 TT GG 3 (o (.p (.vl (Value.pointer (some (Addr.mk 6 (m - 1).toNat none))))))
abbrev ac4:=fun(s:nB)=>ah s<72057594037927936
abbrev afn:=[o (nl)]
abbrev aiG:=(fun r=>∃k:Int,r=o (i k))
abbrev abg:=z_ 6++[[2]]
abbrev abl:=(13,o (i 0))
abbrev Z1:=z_ 8++[[2]]
abbrev axu:=fun s=>Ob.tc 5 (pc (List.flatMap aY (bK s))) true
abbrev abt:=(29,o (.aI 4))
abbrev ao4:=pT f22 [1,1,1,1,1,1,1,1,0,1,0,0,1,0,0,1,0,1,0,0]
abbrev ao5:=fun M=>o (.p (.sl M.length (List.flatMap aj M)))
abbrev aiW:=[0,1,2,4,5,6,3,7,8,9,10]
abbrev Y9:=fun(F:List ByteArray)=>F.length<=100
abbrev adh:=(17,o (.ref 0 1))
abbrev adi:=(19,o (.ref 1 1))
abbrev ao6:=[99,111,117,110,116,114,121]
abbrev adj:=(.sl 2 [I_ 2,I_ 2]:PV)
abbrev Y_:=(.ad 1 0 0 1:LV)
abbrev ao7:=pT f470 [1,0,0,1,0]
abbrev aiX:=(.p (.vl Value.nilIface):LV)
abbrev aiY:=[1,0,1,0,1,1,1,1,1,0,0]
abbrev ao8:=(.ab [.one (.p (.sl (1) [(I_ (2))])),.one (i (2)),.one (i (0))]:RV)
abbrev ao9:=(.ab [.one (.p (.sl (1) [(I_ (3))])),.one (i (1)),.one (i (0))]:RV)
abbrev ao_:=pT f52 [1,1,1,1,1,1,1,1,1,0,1,0,0,1,0,0,1,0,0]
abbrev aiZ:=(.fn 470 [(1,0),(2,0),(3,0)]:LV)
abbrev X0:=No true
abbrev ai0:=[68,46,77,46,89,89,89,89]
abbrev ai1:=(.p (.vl (.int .u8 32)):LV)
abbrev X1:=(.ref 6 0:LV)
abbrev ai2:=(.fn 581 [(5,0),(6,0),(7,0)]:LV)
abbrev apa:=pT f75 [1,1,1,1,1,1,0,1,0,0,1,0,0,1,0,1,0,0]
abbrev Yq:=fun(x:PV)=>(43,o (.p x))
abbrev aiR:=(.p (.vl (.int .u64 2684354560)):LV)
abbrev ade:=fun(t:BA)=>[sv t,b true]
abbrev aiS:=vs [46,77,46,89,89,89,89]
abbrev aft:=fun t=>o (.ad 1 0 t 2)
abbrev XY:=fun(n:Int)=>n<=3652058
abbrev afu:=[o (i 1)]
abbrev afv:=[o (i 2)]
abbrev afw:=[o (i 3)]
abbrev afx:=[o (i 4)]
abbrev ao2:=[0,2,3,4,5,6,8,9,10,11,12,1,7,13,14,15,16]
abbrev adf:=[i 0,i 3652058]
abbrev Y8:=[[1],[1]]
abbrev aiT:=fun E=>Ob.tc 5 (pc (List.flatMap aY E)) true
abbrev aiU:=[o (sv ⟨#[99,111,108]⟩)]
abbrev abq:=List.range 19
abbrev XZ:=fun k=>(7,o (i k))
abbrev Z0:=(.ad 0 0 0 1:LV)
abbrev abr:=fun(M:List ByteArray)=>(.ad 1 0 M.length 1:LV)
abbrev afA:=fun(p:BA)=>(p.size:Int)<=1000000
abbrev aiV:=fun(B:eF)=>1<=B.length/\B.length<=5000
abbrev ada:=[1,1,0,0,0]
abbrev aoX:=[0,1,3,2,4,5,6,7,8,9,11,10,12,13,14,15]
abbrev adb:=[122,105,112]
abbrev aoY:=(.ab [.one (.p (.sl 1 [I_ 5])),.one (i 2),.one (i 0)]:RV)
abbrev aoZ:=([.tc 349 [.ref 0 0,.ad 1 0 0 1] false,.tc 5 [] true]:List Ob)
abbrev ao0:=fun(s:BA)=>(fun r=>∃t:nB,r=o (sv t)/\(t.size:Int)=s.size)
abbrev aiP:=[.p (.vl (vs [77])),b true]
abbrev ao1:=fun M=>PV.sl M.length (List.flatMap aj M)
abbrev abp:=(35,o (nl))
abbrev aiQ:=fun M=>PV.sl M.length (List.flatMap bw M)
abbrev adg:=fun(e:Bool)=>PV.vl (Value.bool e)
abbrev abx:=List.range 6
abbrev Za:=fun(z:PV)=>(37,o (.p z))
abbrev ai9:=[0,1,2,3,4,5,6,7,8]
abbrev adq:=fun(K:Int)=>(16,o (i (dJ 0 K)))
abbrev ai_:=fun N=>PV.sl N.length (List.flatMap bw N)
abbrev aja:=vs [77,46,89,89,89,89]
abbrev afD:=fun P=>List.flatMap ai P
abbrev apn:=fun(fD:Bool)=>PV.vl (Value.bool fD)
abbrev X2:=fun q=>(6,o (i q))
abbrev WO:=Bd f61
abbrev afE:=z_ 4++[[0],[1]]
abbrev Z6:=PV.sl 0 []
abbrev ajb:=fun z=>o (b (true && z))
abbrev afF:=(22,o (.ref 0 6))
abbrev afG:=(24,o (.ref 1 6))
abbrev afH:=(.p (.vl .nilIface):LV)
abbrev afI:=(0,o (.aI 7))
abbrev apq:=Operand.const (Value.string (ByteArray.mk #[45]))
abbrev Xc:=fun(x:PV)=>[o (.p x)]
abbrev apr:=fun R=>(.sl R.length (List.flatMap ai R):PV)
abbrev aps:=fun(w:PV)=>(fun r M=>∃k:Int,r=o (i k)/\M=[C_ [.p w]])
abbrev afJ:=fun(B:eF)=>i ((↑B.length:Int))
abbrev apf:=fun(x:BA)=>(.p (.sl 1 [I_ 1,S_ x,I_ 0,I_ 0,I_ 0,.vl vn,.vl vn]):LV)
abbrev ai5:=(3,o (.ref 8 0))
abbrev apg:=[1,1,1,1,1,0,0,0]
abbrev abv:=fun(D:p0)=>D.length<=300
abbrev ai6:=[115,105,110,99,101]
abbrev adm:=List.range 16
abbrev aph:=([.tc 349 [.p (.vl (.pointer none)),nl] false]:List Ob)
abbrev api:=[0,1,2,3,4,5,6,7,9,10,8,11,12,13]
abbrev adn:=fun(B:eF)=>o (sv (cT B))
abbrev Z2:=fun(s:BA)=>(1,o (sv s))
abbrev axv:=fun t=>(.ab [.agg [i 4,e_,i 0,i 0,i t,nl,nl],.one (i 0)]:RV)
abbrev apj:=VQ 36 [o (sv ⟨#[105,102]⟩)] (o (b true))
abbrev Ys:=fun X=>(4,o (i X))
abbrev Yt:=fun s=>(4,o (i s))
abbrev Z3:=fun(y:PV)=>(22,o (.p y))
abbrev Z4:=fun(x:PV)=>(24,o (.p x))
abbrev Z5:=fun(R:List (Row 0))=>R.length<=4
abbrev ai7:=(.p (.vl (.int .u64 60)):LV)
abbrev ado:=fun(B:eF)=>(.ad 4 0 B.length 1:LV)
abbrev ai8:=vs [46,89,89,89,89]
abbrev apk:=(.p (.vl (Value.func (Fn.func 256) #[] #[])):LV)
abbrev adp:=[1,0,0,0]
abbrev adk:=(.sl 1 [I_ 2]:PV)
abbrev adl:=(LV.map 0)
abbrev Yr:=Bd f143
abbrev ai3:=(.p (.vl (.int .u64 0)):LV)
abbrev apb:=[1,1,1,0,1,0,1,1,1,1,0,1,0,0]
abbrev V6:=fun(n:Int)=>[o (i n)]
abbrev apd:=fun(d:Int)=>o (.p (.sl 1 [I_ d]))
abbrev ai4:=fun(s:BA)=>i ((↑s.size:Int))
abbrev apm:=fun z=>o (i (IntKind.i64.wrap (0+z)))
abbrev apL:=[50,48,50,52,45,48,49,45,51,49]
abbrev ajj:=fun(p:Int)=>o (.ref 3 (0+p.toNat*1))
abbrev adr:=fun(L2:eF)=>L2.length<=1000
abbrev apM:=fun(F:List ByteArray)=>(fun r=>∃y:PV,r=o (.p y)/\aa ae F y)
abbrev apN:=C_ [LV.p (PV.vl (vs [77,77])),b true]
abbrev Zb:=fun q=>(4,o (i q))
abbrev afM:=z_ 12++[[1]]
abbrev Zc:=fun q=>(7,o (i q))
abbrev Z8:=fun s=>(38,o (i s))
abbrev Z9:=fun(w:Int)=>(4,o (i w))
abbrev ads:=(0,o (nl))
abbrev apO:=[0,2,4,5,6,7,1,3,8,9,10,11]
abbrev apP:=(.vl (Value.func (Fn.func 298) #[] #[]):PV)
abbrev apQ:=(.vl (Value.func (Fn.func 302) #[] #[]):PV)
abbrev apR:=(.vl (Value.func (Fn.func 292) #[] #[]):PV)
abbrev apS:=(.vl (Value.func (Fn.func 312) #[] #[]):PV)
abbrev apT:=(.vl (Value.func (Fn.func 315) #[] #[]):PV)
abbrev apU:=[0,1,2,3,5,6,7,8,9,4,10,11]
abbrev ajk:=(8,o (.aI 7))
abbrev afN:=z_ 12++[[4]]
abbrev apV:=fun d=>fun z=>o (i (IntKind.i64.wrap (d*256+z)))
abbrev abI:=(.ref 1 10:LV)
abbrev adt:=fun(t:BA)=>ah t<=1000000
abbrev abJ:=fun X=>(112,o (i X))
abbrev abK:=fun(x:BA)=>(30,o (sv x))
abbrev ajc:=(27,o (.ref 0 10))
abbrev abC:=fun q=>some (o (i q))
abbrev ajd:=fun(x:BA)=>(x.size:Int)<=1000000
abbrev apA:=C_ [LV.p (PV.vl (vs [46])),b false]
abbrev apB:=fun z=>o (i (IntKind.i64.wrap z))
abbrev apC:=fun(s:BA)=>o (.ad 1 0 (((↑s.size:Int)+1).toNat) 1)
abbrev aje:=fun(c:BA)=>ah c<=1000000000000000
abbrev ajf:=(.sl 2 [I_ 0,I_ 1]:PV)
abbrev apD:=fun(x:BA)=>i (IntKind.i64.wrap ((↑x.size:Int) - 1))
abbrev ajg:=(.sl 2 [I_ 3,I_ 3]:PV)
abbrev apE:=(.p (.sl (2) [(I_ (1)),(I_ (1))]):LV)
abbrev apF:=fun(s:BA)=>([.ad 1 0 (((↑s.size:Int)+1).toNat) 1]:List LV)
abbrev apG:=fun(s:BA)=>([.ad 2 0 (((↑s.size:Int)+1).toNat) 1]:List LV)
abbrev apH:=fun(s:BA)=>([.ad 3 0 (((↑s.size:Int)+1).toNat) 1]:List LV)
abbrev abD:=o (i 2)
abbrev abE:=fun q=>(8,o (i q))
abbrev afL:=(.sl 1 [I_ 0]:PV)
abbrev apI:=fun(s:BA)=>o (b (decide ((↑s.size:Int)<=200)))
abbrev Z7:=Bd f470
abbrev aji:=fun(B:eF)=>(.ad 8 0 B.length 1:LV)
abbrev abF:=fun X=>(38,o (i X))
abbrev axw:=fun M=>o (.p (.sl M.length (List.flatMap ai M)))
abbrev abG:=fun(y:PV)=>(5,o (.p y))
abbrev apK:=fun M=>o (.p (.sl M.length (List.flatMap bw M)))
abbrev apu:=fun k=>fun z=>o (i (IntKind.i64.wrap (z - k)))
abbrev afK:=fun(N:PV)=>(0,o (.p N))
abbrev apy:=fun M=>o (i ((↑(List.map eU M).length:Int)))
abbrev abz:=fun(q:Int)=>o (i (q - 1))
abbrev apz:=fun(F:List ByteArray)=>o (.p (.sl F.length (List.flatMap ae F)))
abbrev abA:=fun k=>(39,o (i k))
abbrev abB:=fun f=>(5,o (.p f))
abbrev abH:=fun r=>(38,o (i r))
abbrev abN:=fun g=>(5,o (.p g))
abbrev abO:=fun h=>(5,o (.p h))
abbrev abR:=fun(y:PV)=>(8,o (.p y))
abbrev abS:=fun(t:Int)=>(10,o (i t))
abbrev aqc:=fun N=>o (.p (.sl N.length (List.flatMap bw N)))
abbrev ajt:=fun(c:BA)=>(c.size:Int)<=1000
abbrev aqd:=fun z=>o (b (!(false || z)))
abbrev aju:=fun(n:Int)=>n>=-1000000000000000
abbrev aqe:=z_ 5++[[99999],[],[],[5]]
abbrev aqf:=([.tc 349 [.ref 0 0,nl] false]:List Ob)
abbrev afQ:=fun(s:Int)=>[s.tmod 16777216]
abbrev afR:=(9,o (nl))
abbrev afS:=fun(M:p0)=>M.length<=1000
abbrev aqg:=fun Q=>List.flatMap ai Q
abbrev axA:=fun V=>List.flatMap ai V
abbrev aqh:=z_ 7++[[0,1,2,3,4],[]]
abbrev aqi:=fun(q:Int)=>(.p (.sl 1 [I_ q]):LV)
abbrev aqj:=[110,117,109,98,101,114]
abbrev aqk:=pT f368 [1,1,1,1,1,0,0]
abbrev ajv:=(.fn 90 [(1,0)]:LV)
abbrev ajw:=(.fn 90 [(2,0)]:LV)
abbrev ajx:=fun(n:Int)=>(.p (.vl (.int .u64 n)):LV)
abbrev ajy:=fun(n:Int)=>o (b (n.tmod 10 !=0))
abbrev ajp:=fun(t:BA)=>(t.size:Int)<=200
abbrev ajq:=fun(y:Int)=>(.p (.vl (.int .u64 y)):LV)
abbrev ajr:=fun(w:Int)=>(.p (.vl (.int .u64 w)):LV)
abbrev WQ:=fun(t:BA)=>o (sv t)
abbrev apY:=fun(z:PV)=>[a [i 5,e_,i 0,i 0,i 0,nl,.p z]]
abbrev apZ:=[1,1,1,1,1,0,1,0,0]
abbrev ap0:=fun D=>Ob.tc 5 (pc (List.flatMap aY D)) true
abbrev ap1:=fun F=>Ob.tc 5 (pc (List.flatMap aY F)) true
abbrev ap2:=fun G=>Ob.tc 5 (pc (List.flatMap aY G)) true
abbrev ap3:=fun H=>Ob.tc 5 (pc (List.flatMap aY H)) true
abbrev V7:=fun(s:BA)=>o (sv s)
abbrev afP:=fun M=>[P_ ai M,C_ []]
abbrev abL:=fun(t:Int)=>(7,o (i t))
abbrev Xd:=fun(x:BA)=>o (sv x)
abbrev ap5:=[[],[],[99999],[99999]]
abbrev ajs:=(111,o (i 0))
abbrev axz:=o (i 32)
abbrev ap6:=[0,1,2,3,6,7,12,13]
abbrev ap7:=VQ 37 [o nl] (o (b false))
abbrev ap8:=fun(n:Int)=>[a [i 0,e_,i 0,i 0,i n,nl,nl]]
abbrev ap9:=fun(n:Int)=>[a [i 4,e_,i 0,i 0,i n,nl,nl]]
abbrev abM:=fun(w:Int)=>(7,o (i w))
abbrev ap_:=z_ 6++[[1],[],[],[3]]
abbrev aqa:=PV.vl (Value.pointer none)
abbrev axx:=(.fn 187 [(4,0),(3,0)]:LV)
abbrev ajl:=z_ 9++[[1]]
abbrev ajm:=z_ 5++[[2]]
abbrev adu:=fun s=>(44,o (i s))
abbrev apX:=fun A=>a [i 0,e_,i 0,i 0,i A,nl,nl]
abbrev ajn:=z_ 9++[[2]]
abbrev adw:=fun k=>(10,o (i k))
abbrev adx:=fun q=>(10,o (i q))
abbrev ajo:=(110,o (nl))
abbrev aqb:=[0,1,2,3,12,13,14]
abbrev adC:=fun q=>(11,o (i q))
abbrev adD:=fun(K:Int)=>(15,o (i K))
abbrev aqv:=fun(S:Bool)=>PV.vl (Value.bool S)
abbrev ajC:=(.vl (vs [48]):PV)
abbrev aqw:=(.fn 540 [(5,0),(6,0)]:LV)
abbrev axB:=(.vl (vs [97]):PV)
abbrev afT:=[1,2,5]
abbrev aqx:=fun(z:PV)=>[o (.p z),o (.p (.vl (vf 185)))]
abbrev aqz:=fun(S:List ByteArray)=>(23,o (i ((↑S.length:Int))))
abbrev aqA:=[0,4,2]
abbrev aqB:=(.p (.vl (.int .u64 10)):LV)
abbrev afU:=fun(t:BA)=>[sv t,b false]
abbrev aqC:=fun v=>o (.ad 1 0 v 2)
abbrev aqD:=fun(a:Int)=>0<=a/\a<=16777215000000
abbrev aqE:=fun(b:Int)=>0<=b/\b<=16777215000000
abbrev aqF:=z_ 7++[[4],[],[2]]
abbrev ajD:=(.sl 1 [I_ 3]:PV)
abbrev ajE:=(1,o (i 0))
abbrev ajF:=(20,o (nl))
abbrev aqH:=z_ 8++[[4],[],[3]]
abbrev aqI:=fun(p:BA)=>some (o (i ((↑p.size:Int))))
abbrev adE:=B_ [45]
end Go.Sx.E1
namespace Go.Sx.E1
open Go.Proofs Go.Proofs.Tryz
variable [af]
def o3(op:BA)(x:PV)(a b c:Ob):am prog GG (.fn 96) [o (sv op),o (.p x)] [a,b,c] auM:=
 vC f96 (kB 20 _ _ (Q':=(fun r L=>r=o axx/\L=[a,b,c,C_ [sv op],C_ [.p x]])) ⟨rfl,rfl⟩)
def Kp{a b c s:Ob}(op:BA):am prog GG Vs Vq aw_ (fun _ M=>M=aw_):=by exact lT f187<|jv 15 (r:=u) k_
def Br{c d e s f g h t x:Ob}(op:BA)(v:Bool)(k n m j:Int)(w:BA)(B:WT)(l:am prog GG (.yl 5) [o (i 0),a akJ] [c,d,e,C_ [sv op],C_ aki,s,C_ akJ] (fun r L=>r=o (b v)/\L=anH)):am prog GG Vs Vq [c,d,e,C_ [sv op],C_ aki,s] (fun _ M=>M=anH):=by(refine lT f187<|yV 30 B<|eJ 12 (l) ?_);rintro _ _ ⟨rfl,rfl⟩;cases z:v;{exact jv 3 (r:=u) k_};exact jv 17 (r:=u) k_
def Bt{c d e s f g h t j k l w x y:Ob}(op:BA)(v:Bool)(m n q z:Int)(A:BA)(B C D E:Int)(F:BA)(G:WT)(H:am prog GG (.yl 5) [o (i 0),a XF] [c,d,e,C_ [sv op],C_ adJ,s,C_ XF] (fun r L=>r=o (b true)/\L=[f,g,h,C_ [sv op],C_ adJ,t,C_ XF,x]))(I:am prog GG (.yl 5) [o (i 1),a abY] [f,g,h,C_ [sv op],C_ adJ,t,C_ XF,x,C_ abY] (fun r L=>r=o (b v)/\L=anU)):am prog GG Vs Vq [c,d,e,C_ [sv op],C_ adJ,s] (fun _ M=>M=anU):=by(refine lT f187<|yV 30 G<|eJ 12 (H) ?_);(rintro _ _ ⟨rfl,rfl⟩;refine yV 32 G<|eJ 12 (I) ?_);rintro _ _ ⟨rfl,rfl⟩;cases J:v;{exact jv 3 (r:=u) k_};exact jv 17 (r:=u) k_
def Kq{c d e s f g h t x:Ob}(op:BA)(k n m j:Int)(v:BA)(l q w y:Int)(z:BA)(B:WT)(A:am prog GG (.yl 5) [o (i 0),a ab0] [c,d,e,C_ [sv op],C_ ajX,s,C_ ab0] (fun r L=>r=o (b false)/\L=anI)):am prog GG Vs Vq [c,d,e,C_ [sv op],C_ ajX,s] (fun _ M=>M=anI):=by(refine lT f187<|yV 30 B<|eJ 12 (A) ?_);exact av8
def Kr(k n m d:Int)(s:BA)(T:d=1):VQ 188 [a agE] IN:=by(refine vX f188 ?_;have:(d=1):=by omega);(refine ye 12 5 d 1<|yF 5 IN ?_);rfl
def Ks(k n m d:Int)(s:BA)(T:¬d=1):VQ 188 [a agE] abD:=by(refine vX f188 ?_;have:¬(d=1):=by omega);(refine yu 12 5 d 1<|yF 6 abD ?_);rfl
def Kt{c d e s f g h t x:Ob}(op:BA)(k n m j:Int)(v:BA)(l q w y:Int)(z:BA)(A B C D:Int)(E:BA)(F:Zs)(G:am prog GG (.yl 5) [o (i 0),a ab0] [c,d,e,C_ [sv op],C_ ajK,s,C_ ab0] (fun r L=>r=o (b false)/\L=anJ)):am prog GG Vs Vq [c,d,e,C_ [sv op],C_ ajK,s] (fun _ M=>M=anJ):=by(refine lT f187<|yV 30 F<|eJ 12 (G) ?_);exact av8
def Bu{c d e s f g h t j k l w x y:Ob}(op:BA)(m n q z:Int)(A:BA)(B C D E:Int)(F:BA)(G H I J:Int)(K:BA)(T:z=1)(v:Bool)(N:Zs)(O:am prog GG (.yl 5) [o (i 0),a XF] ann amI)(P:am prog GG (.yl 5) [o (i 1),a abY] anZ an5):am prog GG Vs Vq aoa (fun _ M=>M=ahN):=by(refine lT f187<|yV 30 N<|eJ 12 (O) ?_);rintro _ _ ⟨rfl,rfl⟩;refine yV 32 N<|yV 12 (Kr m n q z A w_)<|auN
def Bv{c d e s f g h t j k l w x y:Ob}(op:BA)(m n q z:Int)(A:BA)(B C D E:Int)(F:BA)(G H I J:Int)(K:BA)(T:¬z=1)(v:Bool)(N:Zs)(O:am prog GG (.yl 5) [o (i 0),a XF] ann amI)(P:am prog GG (.yl 5) [o (i 2),a [i G,sv K,i H,i I,i J,nl,nl]] anZ an5):am prog GG Vs Vq aoa (fun _ M=>M=ahN):=by(refine lT f187<|yV 30 N<|eJ 12 (O) ?_);rintro _ _ ⟨rfl,rfl⟩;refine yV 32 N<|yV 12 (Ks m n q z A w_)<|auN
noncomputable def _root_.Go.Proofs.f1000033:Func:=pr f33 [1,1,1,1,0,1,0]
def pu(op B:nB)(x y c z V:PV)(M n:Int):List (Nat×RV):=[(0,o (sv op)),(1,o (sv B)),(2,o (.p x)),(3,o (.p y)),(4,o (.p c)),(5,o (.p z)),(12,o (.ref 0 0)),(13,o (.ref 1 0)),(14,o (.ref 2 0)),(15,o (i M)),(16,o (i 0)),(22,.ab [.one (.p V),.one (i M),.one (i 0)]),(23,o (sv op)),(24,o (sv B)),(25,o (.p y)),(26,o (.p c)),(27,.ab [.one (.p V),.one (i M),.one (i 0)]),(28,o (.p V)),(29,o (i M)),(30,o (i 0)),(31,o (i 0)),(32,o (b false)),(35,o (.p x)),(36,o (i n)),(37,o (.p V)),(38,o (i n)),(39,o (b false)),(41,o (sv op)),(42,o (.p x)),(43,o (.fn 187 [(4,0),(3,0)]))]
noncomputable def bk(op B:nB)(x y c z V:PV)(M n:Int):LR:=pt 33 f33 [1,1,1,1,0,1,0] (u0 (pu op B x y c z V M n) 88)
def Qd(op B:BA)(x y d z V:PV)(M n R:Int)(K:List Int)(W:aa aj K V)(h:0<=R)(j:R<K.length)(k q m e:Int)(t:BA)(l:¬k=0)(C:k=K.getD R.toNat 0)(r:VQ 28 [a [i k,sv t,i q,i m,i e,nl,nl]] (o (b true)))(u v w:Ob):EX 8 1000033 (fD f1000033) (fun _=> .s [.code (Bd f1000033)] ⟨u0 (pu op B x y d z V M n++[(12,o (.ref 0 0)),(13,o (.ref 1 0)),(14,o (.ref 2 0)),(17,o (i R)),(18,o (.ref 7 0)),(44,o (i R)),(45,a [i k,sv t,i q,i m,i e,nl,nl])]) 88,([C_ [i 0,e_,i 0,i 0,i 0,nl,nl],C_ [i 0],C_ [.p V],u,v,.loop (bk op B x y d z V M n),w,C_ [i k,sv t,i q,i m,i e,nl,nl]]:List Ob).set 5 (.loop {bk op B x y d z V M n with state:= .busy})⟩) (gU 5 (bk op B x y d z V M n) (fun c L=>c=0/\L=([C_ [i 0,e_,i 0,i 0,i 0,nl,nl],C_ [i 0],C_ [.p V],u,v,.loop (bk op B x y d z V M n),w,C_ [i k,sv t,i q,i m,i e,nl,nl]]:List Ob).set 5 (.loop {bk op B x y d z V M n with state:= .busy}))):=by(have:¬(k=0):=by omega);(refine qu 8 48 k 0<|qD 3 [] [] (List.range 12)<|qI 4 R W<|qG 0 aj K R ?_);(have g:¬(k≠K.getD R.toNat 0):=by omega);exact qE 2 59 ((b' g)) ob<|qV 1 r<|fY 6 0 _ (⟨rfl,rfl⟩)
def Qe(op B:BA)(x y d z V:PV)(M n R:Int)(K:List Int)(W:aa aj K V)(h:0<=R)(j:R<K.length)(k q m e:Int)(t:BA)(l:¬k=0)(C:¬k=K.getD R.toNat 0)(r u v:Ob):EX 8 1000033 (fD f1000033) (fun _=> .s [.code (Bd f1000033)] ⟨u0 (pu op B x y d z V M n++[(12,o (.ref 0 0)),(13,o (.ref 1 0)),(14,o (.ref 2 0)),(17,o (i R)),(18,o (.ref 7 0)),(44,o (i R)),(45,a [i k,sv t,i q,i m,i e,nl,nl])]) 88,([C_ [i 0,e_,i 0,i 0,i 0,nl,nl],C_ [i 0],C_ [.p V],r,u,.loop (bk op B x y d z V M n),v,C_ [i k,sv t,i q,i m,i e,nl,nl]]:List Ob).set 5 (.loop {bk op B x y d z V M n with state:= .busy})⟩) (gU 5 (bk op B x y d z V M n) (fun c L=>c=1/\L=([C_ [i 0,e_,i 0,i 0,i 0,nl,nl],C_ [i 14],C_ [.p V],r,u,.loop (bk op B x y d z V M n),v,C_ [i k,sv t,i q,i m,i e,nl,nl]]:List Ob).set 5 (.loop {bk op B x y d z V M n with state:= .busy}))):=by(have:¬(k=0):=by omega);(refine qu 8 48 k 0<|qD 3 [] [] (List.range 12)<|qI 4 R W<|qG 0 aj K R ?_);(have w:(k≠K.getD R.toNat 0):=by omega);exact qE 2 59 ((eI w)) ob<|fY 12 1 _ (⟨rfl,rfl⟩)
def Qf(op B:BA)(x y d z V:PV)(M n R:Int)(K:List Int)(W:aa aj K V)(h:0<=R)(j:R<K.length)(k q m e:Int)(t:BA)(l:¬k=0)(C:k=K.getD R.toNat 0)(r:VQ 28 [a [i k,sv t,i q,i m,i e,nl,nl]] (o (b true)))(u v w A D:Ob):EX 10 1000033 (fD f1000033) (fun _=> .s [.code (Bd f1000033)] ⟨u0 (pu op B x y d z V M n++[(12,o (.ref 0 0)),(13,o (.ref 1 0)),(14,o (.ref 2 0)),(17,o (i R)),(18,o (.ref 9 0)),(44,o (i R)),(45,a [i k,sv t,i q,i m,i e,nl,nl])]) 88,([C_ [i 0,e_,i 0,i 0,i 0,nl,nl],C_ [i 0],C_ [.p V],u,v,.loop (bk op B x y d z V M n),w,A,D,C_ [i k,sv t,i q,i m,i e,nl,nl]]:List Ob).set 5 (.loop {bk op B x y d z V M n with state:= .busy})⟩) (gU 5 (bk op B x y d z V M n) (fun c L=>c=0/\L=([C_ [i 0,e_,i 0,i 0,i 0,nl,nl],C_ [i 0],C_ [.p V],u,v,.loop (bk op B x y d z V M n),w,A,D,C_ [i k,sv t,i q,i m,i e,nl,nl]]:List Ob).set 5 (.loop {bk op B x y d z V M n with state:= .busy}))):=by(have:¬(k=0):=by omega);(refine qu 8 48 k 0<|qD 3 [] [] (List.range 12)<|qI 4 R W<|qG 0 aj K R ?_);(have g:¬(k≠K.getD R.toNat 0):=by omega);exact qE 2 59 ((b' g)) ob<|qV 1 r<|fY 6 0 _ (⟨rfl,rfl⟩)
def Qg(op B:BA)(x y d z V:PV)(M n R:Int)(K:List Int)(W:aa aj K V)(h:0<=R)(j:R<K.length)(k q m e:Int)(t:BA)(l:¬k=0)(C:¬k=K.getD R.toNat 0)(r u v w A:Ob):EX 10 1000033 (fD f1000033) (fun _=> .s [.code (Bd f1000033)] ⟨u0 (pu op B x y d z V M n++[(12,o (.ref 0 0)),(13,o (.ref 1 0)),(14,o (.ref 2 0)),(17,o (i R)),(18,o (.ref 9 0)),(44,o (i R)),(45,a [i k,sv t,i q,i m,i e,nl,nl])]) 88,([C_ [i 0,e_,i 0,i 0,i 0,nl,nl],C_ [i 0],C_ [.p V],r,u,.loop (bk op B x y d z V M n),v,w,A,C_ [i k,sv t,i q,i m,i e,nl,nl]]:List Ob).set 5 (.loop {bk op B x y d z V M n with state:= .busy})⟩) (gU 5 (bk op B x y d z V M n) (fun c L=>c=1/\L=([C_ [i 0,e_,i 0,i 0,i 0,nl,nl],C_ [i 14],C_ [.p V],r,u,.loop (bk op B x y d z V M n),v,w,A,C_ [i k,sv t,i q,i m,i e,nl,nl]]:List Ob).set 5 (.loop {bk op B x y d z V M n with state:= .busy}))):=by(have:¬(k=0):=by omega);(refine qu 8 48 k 0<|qD 3 [] [] (List.range 12)<|qI 4 R W<|qG 0 aj K R ?_);(have g:(k≠K.getD R.toNat 0):=by omega);exact qE 2 59 ((eI g)) ob<|fY 12 1 _ (⟨rfl,rfl⟩)
abbrev cA:Ob:= .cells [i 0,.p (.vl (vs [])),i 0,i 0,i 0,nl,nl] false
abbrev cB(k:Int):Ob:= .cells [i k] false
abbrev cP(k n m d:Int)(s:nB):Ob:= .cells [i k,sv s,i n,i m,i d,nl,nl] false
abbrev VR(k n m d:Int)(s:nB)(w:Bool):Prop:=aR prog GG 28 [a [i k,sv s,i n,i m,i d,nl,nl]] (fun r=>r=o (b w))
abbrev iC(R:LR):LR:={R with state:= .done,pending:=some .ret}
def ll{op B:BA}{x y c z V:PV}(M n R:Int)(K:eF)(W:aa aj K V)(h:0<=R)(j:R<K.length)(k q m d:Int)(s:BA)(l:¬k=0)(C:aha)(t:VR k q m d s true){u v w:Ob}:am prog GG (.yl 5) agA [cA,cB 0,C_ [.p V],u,v,.loop (bk op B x y c z V M n),w] (fun r L=>r=o (b true)/\L=[cA,cB 0,C_ [.p V],u,v,.loop (bk op B x y c z V M n),w,cP k q m d s]):=
 pQ (Qd op B x y c z V M n R K W h j k q m d s l C t u v w)
def vS{op B:BA}{x y c z V:PV}(M n R:Int)(K:eF)(W:aa aj K V)(h:0<=R)(j:R<K.length)(k q m d:Int)(s:BA)(l:¬k=0)(C:ag8){t u v:Ob}:am prog GG (.yl 5) agA [cA,cB 0,C_ [.p V],t,u,.loop (bk op B x y c z V M n),v] (fun r L=>r=o (b false)/\L=[cA,cB 14,C_ [.p V],t,u,.loop (iC (bk op B x y c z V M n)),v,cP k q m d s]):=
 pQ (Qe op B x y c z V M n R K W h j k q m d s l C t u v)
def vT{op B:BA}{x y c z V:PV}(M n R:Int)(K:eF)(W:aa aj K V)(h:0<=R)(j:R<K.length)(k q m d:Int)(s:BA)(l:¬k=0)(C:aha)(t:VR k q m d s true){u v w A D:Ob}:am prog GG (.yl 5) agA [cA,cB 0,C_ [.p V],u,v,.loop (bk op B x y c z V M n),w,A,D] (fun r L=>r=o (b true)/\L=[cA,cB 0,C_ [.p V],u,v,.loop (bk op B x y c z V M n),w,A,D,cP k q m d s]):=
 pQ (Qf op B x y c z V M n R K W h j k q m d s l C t u v w A D)
def vV{op B:BA}{x y c z V:PV}(M n R:Int)(K:eF)(W:aa aj K V)(h:0<=R)(j:R<K.length)(k q m d:Int)(s:BA)(l:¬k=0)(C:ag8){t u v w A:Ob}:am prog GG (.yl 5) agA [cA,cB 0,C_ [.p V],t,u,.loop (bk op B x y c z V M n),v,w,A] (fun r L=>r=o (b false)/\L=[cA,cB 14,C_ [.p V],t,u,.loop (iC (bk op B x y c z V M n)),v,w,A,cP k q m d s]):=
 pQ (Qg op B x y c z V M n R K W h j k q m d s l C t u v w A)
def ke{op B:BA}(y c z V:PV)(N n:Int)(K:eF)(W:aa aj K V):am prog GG Vs Vq atQ (fun _ M=>M=atQ):=
 Kp op
def Qh(op B:BA)(y c z V:PV)(N n:Int)(K:eF)(W:aa aj K V)(x:1<=K.length)(k q m d:Int)(s:BA)(h:¬k=0)(C:aar)(i:VR k q m d s true)(D:WT):am prog GG Vs Vq am3 (fun _ M=>M=[cA,cB 0,C_ [.p V],C_ [sv op],C_ [.p abU],.loop (bk op B abU y c z V N n),cP k q m d s,cP k q m d s]):=
 Br op true k q m d s D (ll _ _ 0 K W w_ w_ k q m d s h C i)
def Ku(op B:BA)(y c z V:PV)(N n:Int)(K:eF)(W:aa aj K V)(x:1<=K.length)(k q m d:Int)(s:BA)(h:¬k=0)(C:ahH)(D:WT):am prog GG Vs Vq am3 (fun _ M=>M=[cA,cB 14,C_ [.p V],C_ [sv op],C_ [.p abU],.loop (iC (bk op B abU y c z V N n)),cP k q m d s,cP k q m d s]):=
 Br op false k q m d s D amH
def Qi(op B:BA)(y c z V:PV)(N n:Int)(K:eF)(W:aa aj K V)(x:2<=K.length)(k q m d:Int)(s:BA)(l r t e:Int)(u:BA)(h:¬k=0)(i:¬l=0)(C:aar)(j:VR k q m d s true)(D:l=K.getD 1 0)(v:VR l r t e u true)(E:WT):am prog GG Vs Vq ahO (fun _ M=>M=[cA,cB 0,C_ [.p V],C_ [sv op],C_ [.p Zg],.loop (bk op B Zg y c z V N n),cP k q m d s,cP k q m d s,cP l r t e u,cP l r t e u]):=
 Bt op true k q m d s l r t e u E awB (vT _ _ 1 K W w_ w_ l r t e u i D v)
def Kv(op B:BA)(y c z V:PV)(N n:Int)(K:eF)(W:aa aj K V)(x:2<=K.length)(k q m d:Int)(s:BA)(l r t e:Int)(u:BA)(h:¬k=0)(i:¬l=0)(C:aar)(j:VR k q m d s true)(D:¬l=K.getD 1 0)(E:WT):am prog GG Vs Vq ahO (fun _ M=>M=[cA,cB 14,C_ [.p V],C_ [sv op],C_ [.p Zg],.loop (iC (bk op B Zg y c z V N n)),cP k q m d s,cP k q m d s,cP l r t e u,cP l r t e u]):=
 Bt op false k q m d s l r t e u E awB (vV _ _ 1 K W w_ w_ l r t e u i D)
def Kw(op B:BA)(y c z V:PV)(N n:Int)(K:eF)(W:aa aj K V)(x:2<=K.length)(k q m d:Int)(s:BA)(l r t e:Int)(u:BA)(h:¬k=0)(C:ahH)(D:WT):am prog GG Vs Vq ahO (fun _ M=>M=[cA,cB 14,C_ [.p V],C_ [sv op],C_ [.p Zg],.loop (iC (bk op B Zg y c z V N n)),cP k q m d s,cP k q m d s]):=
 Kq op k q m d s l r t e u D amH
def Kx(op B:BA)(y c z V:PV)(N n:Int)(K:eF)(W:aa aj K V)(x:3<=K.length)(k q m d:Int)(s:BA)(l r t e:Int)(u:BA)(v w A f:Int)(C:BA)(h:¬k=0)(D:ahH)(E:Zs):am prog GG Vs Vq acm (fun _ M=>M=[cA,cB 14,C_ [.p V],C_ [sv op],C_ [.p Xf],.loop (iC (bk op B Xf y c z V N n)),cP k q m d s,cP k q m d s]):=
 Kt op k q m d s l r t e u v w A f C E (vS _ _ 0 K W w_ w_ k q m d s h D)
def Ky(op B:BA)(y c z V:PV)(N n:Int)(K:eF)(W:aa aj K V)(x:3<=K.length)(k q m d:Int)(s:BA)(l r t e:Int)(u:BA)(v w A f:Int)(C:BA)(h:¬k=0)(i:¬l=0)(D:aar)(j:VR k q m d s true)(T:d=1)(E:l=K.getD 1 0)(F:VR l r t e u true)(G:Zs):am prog GG Vs Vq acm (fun _ M=>M=[cA,cB 0,C_ [.p V],C_ [sv op],C_ [.p Xf],.loop (bk op B Xf y c z V N n),cP k q m d s,cP k q m d s,cP l r t e u,cP l r t e u]):=
 Bu op k q m d s l r t e u v w A f C T true G agU (vT _ _ 1 K W w_ w_ l r t e u i E F)
def IH(op B:BA)(y c z V:PV)(N n:Int)(K:eF)(W:aa aj K V)(x:3<=K.length)(k q m d:Int)(s:BA)(l r t e:Int)(u:BA)(v w A f:Int)(C:BA)(h:¬k=0)(i:¬l=0)(D:aar)(j:VR k q m d s true)(T:d=1)(E:¬l=K.getD 1 0)(F:Zs):am prog GG Vs Vq acm (fun _ M=>M=[cA,cB 14,C_ [.p V],C_ [sv op],C_ [.p Xf],.loop (iC (bk op B Xf y c z V N n)),cP k q m d s,cP k q m d s,cP l r t e u,cP l r t e u]):=
 Bu op k q m d s l r t e u v w A f C T false F agU (vV _ _ 1 K W w_ w_ l r t e u i E)
def Kz(op B:BA)(y c z V:PV)(N n:Int)(K:eF)(W:aa aj K V)(x:3<=K.length)(k q m d:Int)(s:BA)(l r t e:Int)(u:BA)(v w A f:Int)(C:BA)(h:¬k=0)(i:¬v=0)(D:aar)(j:VR k q m d s true)(T:¬d=1)(E:v=K.getD 2 0)(F:VR v w A f C true)(G:Zs):am prog GG Vs Vq acm (fun _ M=>M=[cA,cB 0,C_ [.p V],C_ [sv op],C_ [.p Xf],.loop (bk op B Xf y c z V N n),cP k q m d s,cP k q m d s,cP l r t e u,cP v w A f C]):=
 Bv op k q m d s l r t e u v w A f C T true G agU (vT _ _ 2 K W w_ w_ v w A f C i E F)
def II(op B:BA)(y c z V:PV)(N n:Int)(K:eF)(W:aa aj K V)(x:3<=K.length)(k q m d:Int)(s:BA)(l r t e:Int)(u:BA)(v w A f:Int)(C:BA)(h:¬k=0)(i:¬v=0)(D:aar)(j:VR k q m d s true)(T:¬d=1)(E:¬v=K.getD 2 0)(F:Zs):am prog GG Vs Vq acm (fun _ M=>M=[cA,cB 14,C_ [.p V],C_ [sv op],C_ [.p Xf],.loop (iC (bk op B Xf y c z V N n)),cP k q m d s,cP k q m d s,cP l r t e u,cP v w A f C]):=
 Bv op k q m d s l r t e u v w A f C T false F agU (vV _ _ 2 K W w_ w_ v w A f C i E)
def kf(op B:BA)(y c z:PV)(N:Int)(A:VQ 34 arq (.ab [.one ZD,.one (i N),.one (i 0)]))(G:am prog GG Vs Vq atF (fun _ M=>M=atF))(F:Nat)(f g j:PV)(L:akj)(k n m d e:Int)(s:BA)(C D:PV)(l:VQ F [a av0,o ZD] (.ab [.agg ajZ,.one (i e)])):aA 33 [o (sv op),o (sv B),o ZD,o (.p y),o (.p c),o (.p z)] ahM:=by refine vE f33<|qV 11 A<|a3 33 (o3 op IS ail XV (C_ [nl]))<|qW 2 5 (R:=bk op B C4 y c z C4 N 0) (G)<|aqs
def Qj(op B:BA)(y c z:PV)(O:Int)(N:Nat){G H:rK}{q t:Ob}(A:af9)(I:am prog GG Vs Vq am0 (fun _ M=>M=[cA,cB 0,C_ [.p WU],C_ [sv op],C_ [.p YG],.loop (bk op B YG y c z WU O N),q,t]))(F:Nat)(f g j:PV)(L:akj)(k n m d e:Int)(s:BA)(C D:PV)(l:anW):aA 33 amN ahM:=by exact amc
def vW(op B:BA)(y c z:PV)(O:Int)(N:Nat){G H:rK}{q t u v:Ob}(A:af9)(I:am prog GG Vs Vq am0 (fun _ M=>M=[cA,cB 0,C_ [.p WU],C_ [sv op],C_ [.p YG],.loop (bk op B YG y c z WU O N),q,t,u,v]))(F:Nat)(f g j:PV)(L:akj)(k n m d e:Int)(s:BA)(C D:PV)(l:anW):aA 33 amN ahM:=by exact amc
def vc(op B:BA)(y c z:PV)(O:Int)(N:Nat){F H:rK}{q s:Ob}(A:af9)(G:am prog GG Vs Vq am1 (fun _ M=>M=[cA,cB 14,C_ [.p WU],C_ [sv op],C_ [.p ace],.loop (iC (bk op B ace y c z WU O N)),q,s])):aA 33 auh av9:=by exact aq7
def vd(op B:BA)(y c z:PV)(O:Int)(N:Nat){F H:rK}{q s t u:Ob}(A:af9)(G:am prog GG Vs Vq am1 (fun _ M=>M=[cA,cB 14,C_ [.p WU],C_ [sv op],C_ [.p ace],.loop (iC (bk op B ace y c z WU O N)),q,s,t,u])):aA 33 auh av9:=by exact aq7
def DR(l h:Int):VC 265 [a YE] asY:=by(refine vX f265<|yB 14 7 (l>h) ?_ ?_<;>intro _);{exact yV 3 (kv (f:=355) (args:=[]) (r:=a WA) k_)<|yF 2 (a WA)<|l_};exact yF 7 (a YE)<|l_
def Sm(l h m n:Int):VC 179 aez (fun r=>∃l' V:Int,r=a [i l',i V]/\(max l m<=min h n->l'=max l m/\V=min h n)/\(min h n<max l m->l'=1/\V=0)):=by(refine vX f179<|yC 19 (DR (if m>l then m else l) (if n<h then n else h)) ?_);exact abW
def Sn(l h m n:Int):VC 198 aez aqZ:=by(refine vX f198<|yB 15 9 (l>h) ?_ ?_<;>intro _);{refine yC 4 (DR m n) ?_;exact abW};refine yB 11 16 (m>n) ?_ ?_<;>intro _;{exact yF 6 (a YE)<|l_};exact yF 17 (a [i (if m<l then m else l),i (if n>h then n else h)])<|l_
def ve(M l h:Int)(j:0<=l)(k:l<=h)(m:h<=M):VQ 179 [a YE,a [i 0,i M]] (a YE):=by refine(Sm l h 0 M).mono ?_;rintro _ ⟨_,_,rfl,n,_⟩;obtain⟨rfl,rfl⟩:=n w_;rw[show max l 0=l by omega,show min h M=h by omega]
def iq(s:BA)(A:(CJ s)):VC 379 (Sd s) (fun r=>∃c:nB,r=o (sv c)/\(c.size:Int)<=s.size/\ah c=ah s/\E1.Canon c):=by(refine vX f379<|yP 11 [] 19 (pT f379 ada) (α:=(Int)) (fun k=>0<=k/\k<=s.size/\(∀j:Int,0<=j->j<k->an s j=0)) (fun k=>(s.size - k).toNat) aw1 0 g_ ?_);rintro k G d _;(try dsimp only at G d |-);obtain⟨_,_,Z⟩:=G;refine yB 8 8 XH ?_ ?_<;>intro _;{refine yY 2 s k ?_;have:=dr s k;by_cases z:(an s k=0);{exact ye 3 13 (an s k) 0<|yJ 10 3 (k+1)<|yK 0 [] (d (k+1) (by(refine⟨w_,w_,fun j h l=> ?_⟩;rcases aaL (acA l) with h3|h3;(exact Z j h h3);(subst h3;omega))) w_)};exact yu 3 13 (an s k) 0<|yO 6 (aZ prog TT 228 (V7 s) (VK k) none none) V_<|arj};exact yO 12 (aZ prog TT 228 (V7 s) (VK k) none none) V_<|arj
def jr(s:BA)(A:(CJ s))(P:(acW s)):VC 381 (Sd s) (fun r=>∃(x:PV)(L:eF),r=o (.p x)/\aa aj L x/\cE L/\aB L=ah s/\L.length<=3/\(L.length=0\/16777216^(L.length - 1)<=aB L)):=by(refine vX f381<|yC 7 (iq s w_) ?_);rintro _ ⟨c,rfl,_,Z,Y⟩;refine yP 15 [] 35 (pT f381 Wd) (α:=(Int) ⊕ (Int×eF)) (fun t=>match t with| (.inl e)=>e=c.size/\0<=e/\e<=9|(.inr (q,L))=>q=c.size - 3*L.length/\ah s=vU c q.toNat*16777216^L.length+aB L/\cE L/\1<=L.length/\L.length<=3/\(c.size:Int)<=9/\-2<=q) (fun t=>match t with| (.inl e)=>(e+3).toNat|(.inr (q,L))=>(q+3).toNat) (fun t=>match t with| (.inl e)=>([(0,o (sv c)),XA,(4,o (i e))],[])|(.inr (q,L))=>([(0,o (sv c)),(3,o (.ad 0 0 L.length 1)),(Zb q)],[P_ aj L])) (.inl ((↑c.size:Int))) (by exact⟨w_,w_,Qk a_ a_ a_⟩) ?_;rintro(e|⟨q,L⟩) G f J;(try dsimp only at G f |-);{obtain⟨_,_,_⟩:=G;refine yB 6 12 (e>0) ?_ ?_<;>intro _;{(refine yE 18 6 (yw (e - 3)) aiH<|yP 0 [] 35 (pT f381 aiw) (α:=(Int×Int)) (fun(k,d)=>((if 0>e - 3 then 0 else e - 3))<=k/\k<=(e)/\d=eT c (((if 0>e - 3 then 0 else e - 3))).toNat k.toNat/\0<=d/\d<16777216) (fun(k,d)=>((e) - k).toNat) (fun(k,d)=>([(0,o (sv c)),XA,(4,o (i e)),(5,o (i d)),(Wi k)],[])) ((if 0>e - 3 then 0 else e - 3),0) asK ?_);rintro⟨k,d⟩ G g J;(try dsimp only at G g |-);obtain⟨_,_,_,_,_⟩:=G;refine yB 7 20 (k<e) ?_ ?_<;>intro _;{(refine yJ 9 24 (d*256)<|yY 0 c k ?_);have:=dr c k;exact yE 11 5 (yw (an c k)) (apV d)<|yJ 0 6 (k+1)<|yJ 0 5 (d*256+an c k)<|yK 0 [] (g ((k+1),(d*256+an c k)) (by(have h:=zU c (a:=((if 0>e - 3 then 0 else e - 3))) (k:=k) (d:=d) w_ w_ a_;have j:=Bx c (a:=((if 0>e - 3 then 0 else e - 3))) (k:=k+1) w_ w_ w_;exact⟨w_,w_,h,w_,w_⟩)) w_)};exact yJ 16 4 (e - 3)<|yK 0 [1] (f (.inr ((e - 3),([d]))) (by(refine⟨?_,HX (k:=k) (e:=e) (d:=d) (a:=if 0>e - 3 then 0 else e - 3) w_ Z w_ w_ rfl a_,qw w_,s_,s_,w_,w_⟩;simp;omega)) t_)};exact yF 7 VM<|⟨_,[],rfl,.nil rfl,jG,by rw[<- Z,me w_];rfl,s_,.inl rfl⟩};obtain⟨_,_,_,_,_,_,_⟩:=G;refine yB 6 12 (q>0) ?_ ?_<;>intro _;{(refine yE 18 6 (yw (q - 3)) aiH<|yP 0 [0] 35 (pT f381 aiw) (α:=(Int×Int)) (fun(k,d)=>((if 0>q - 3 then 0 else q - 3))<=k/\k<=(q)/\d=eT c (((if 0>q - 3 then 0 else q - 3))).toNat k.toNat/\0<=d/\d<16777216) (fun(k,d)=>((q) - k).toNat) (fun(k,d)=>([(0,o (sv c)),(3,o (.ad 0 0 L.length 1)),(Zb q),(5,o (i d)),(Wi k)],[P_ aj L])) ((if 0>q - 3 then 0 else q - 3),0) asK ?_ (hh:=m_));rintro⟨k,d⟩ G g J;(try dsimp only at G g |-);obtain⟨_,_,_,_,_⟩:=G;refine yB 7 20 (k<q) ?_ ?_<;>intro _;{(refine yJ 9 24 (d*256)<|yY 0 c k ?_);have:=dr c k;exact yE 11 5 (yw (an c k)) (apV d)<|yJ 0 6 (k+1)<|yJ 0 5 (d*256+an c k)<|yK 0 [0] (g ((k+1),(d*256+an c k)) (by(have h:=zU c (a:=((if 0>q - 3 then 0 else q - 3))) (k:=k) (d:=d) w_ w_ a_;have j:=Bx c (a:=((if 0>q - 3 then 0 else q - 3))) (k:=k+1) w_ w_ w_;exact⟨w_,w_,h,w_,w_⟩)) w_) (hh:=m_)};exact yA 6 aj L d 8<|yJ 9 4 (q - 3)<|yK 0 [2] (f (.inr ((q - 3),(L++[d]))) (by(refine⟨?_,of_next (k:=k) (q:=q) (d:=d) (a:=if 0>q - 3 then 0 else q - 3) w_ a_ w_ rfl a_,kP a_ w_,s_,?_,w_,w_⟩<;>simp<;>omega)) t_) (hh:=m_)};exact jt 7 (o (.ad 0 0 L.length 1)) (r':=o (.p (.sl L.length (List.flatMap aj L)))) (ts:=[0]) VY<|⟨_,_,rfl,.sl,a_,AW a_ a_,a_,KB Z Y w_ w_ w_ w_ (AW a_ a_)⟩
def vj{L:eF}{m:Nat}(T:cE L)(h:16777216^m<=aB L):m<L.length:=by have:=uQ T;apply acC;intro _;have:=uu (a:=L.length) (b:=m) w_;omega
def BB{L:eF}{m:Nat}(D:L.length=0\/16777216^(L.length - 1)<=aB L)(h:aB L<16777216^m):L.length<=m:=by(rcases D with h1|h1);{omega};apply acC;intro _;have:=uu (a:=m) (b:=L.length - 1) w_;omega
def BC(s:BA)(A:(CJ s))(i:1<=ah s)(j:ah s<16777216):VQ 381 (Sd s) (o (.p (.sl 1 [I_ (ah s)]))):=by
 refine(jr s A w_).mono ?_;rintro _ ⟨_,L,rfl,M,T,P,_,D⟩;have e:=vj (m:=0) T VO;have f:=BB (m:=1) D VO
 match L,e,f,P with
 | [d],_,_,P=>cases M with
  |nil h=>simp at h
  |sl=>
      simp only[aB]at P;have:d=ah s:=by omega
      subst this;rfl
 | [],h,_,_=>simp at h
 |_::_::_,_,h,_=>simp at h
def KE(s:BA)(A:(CJ s))(i:16777216<=ah s)(j:ah s<281474976710656):VC 381 (Sd s) (fun r=>∃d e:Int,r=o (.p (.sl 2 [I_ d,I_ e]))/\ah s=d+16777216*e/\0<=d/\d<16777216/\0<=e/\e<16777216):=by
 refine(jr s A w_).mono ?_;rintro r ⟨_,L,rfl,M,T,P,_,D⟩;have e:=vj (m:=1) T VO;have f:=BB (m:=2) D VO
 match L,e,f,P,T with
 | [d,g],_,_,P,T=>cases M with
  |nil h=>simp at h
  |sl=>
      have b:=T d s_;have c:=T g s_;simp only[aB]at P;exact⟨d,g,rfl,w_,w_,w_,w_,w_⟩
 | [],h,_,_,_=>simp at h
 | [_],h,_,_,_=>simp at h
 |_::_::_::_,_,h,_,_=>simp at h
def KF(s:BA)(A:(CJ s))(i:281474976710656<=ah s)(j:(acW s)):VC 381 (Sd s) (fun r=>∃d e f:Int,r=o (.p (.sl 3 [I_ d,I_ e,I_ f]))/\ah s=d+16777216*e+281474976710656*f/\0<=d/\d<16777216/\0<=e/\e<16777216/\0<=f/\f<16777216):=by
 refine(jr s A w_).mono ?_;rintro r ⟨_,L,rfl,M,T,P,x,_⟩;have e:=vj (m:=2) T VO
 match L,e,x,P,T with
 | [d,f,g],_,_,P,T=>cases M with
  |nil h=>simp at h
  |sl=>
      have b:=T d s_;have c:=T f s_;have k:=T g s_;simp only[aB]at P;exact⟨d,f,g,rfl,w_,w_,w_,w_,w_,w_,w_⟩
 | [],h,_,_,_=>simp at h
 | [_],h,_,_,_=>simp at h
 | [_,_],h,_,_,_=>simp at h
 |_::_::_::_::_,_,h,_,_=>simp at h
def zW{L B:List Int}{q:Int}(i:0<=q)(j:q<L.length)(T:cE L)(a:lV B=aB (L.drop (q+1).toNat))(O:i2 B):lV (B++[IntKind.u8.wrap ((L.getD q.toNat 0).fdiv 65536),IntKind.u8.wrap ((L.getD q.toNat 0).fdiv 256),IntKind.u8.wrap (L.getD q.toNat 0)])=aB (L.drop (q - 1+1).toNat)/\i2 (B++[IntKind.u8.wrap ((L.getD q.toNat 0).fdiv 65536),IntKind.u8.wrap ((L.getD q.toNat 0).fdiv 256),IntKind.u8.wrap (L.getD q.toNat 0)]):=by(have hl:q.toNat<L.length:=by omega);(have e:L.getD q.toNat 0=L[q.toNat]:=by simp[hl]);have U:=T L[q.toNat] s_;rw[e];constructor;{(have f:(q - 1+1).toNat=q.toNat:=by omega);(have g:(q+1).toNat=q.toNat+1:=by omega);rw[f,List.drop_eq_getElem_cons hl,aB,<- g,<- a,HP,mw,mw,mw,ie w_,ie w_];omega};intro z hz;(rcases List.mem_append.1 hz with h2|h2);{exact O z h2};simp only[mw,List.mem_cons,List.mem_nil_iff,or_false]at h2;rcases h2 with h|h|h<;>(rw[h];exact GR)
def GZ{L:List Int}{k:Int}(i:0<=k)(j:k=L.length - 1)(T:cE L):lV [IntKind.u8.wrap ((L.getD k.toNat 0).fdiv 65536),IntKind.u8.wrap ((L.getD k.toNat 0).fdiv 256),IntKind.u8.wrap (L.getD k.toNat 0)]=aB (L.drop (k - 1+1).toNat)/\i2 [IntKind.u8.wrap ((L.getD k.toNat 0).fdiv 65536),IntKind.u8.wrap ((L.getD k.toNat 0).fdiv 256),IntKind.u8.wrap (L.getD k.toNat 0)]:=by have:=zW (L:=L) (B:=[]) (q:=k) i w_ T (by rw[List.drop_of_length_le w_];rfl) (fun _ h=>by simp at h);simpa using this
def IV{L:List Int}{c e:ByteArray}(h:ah c=ah e)(V:e.size=0)(B:L.length=0):ah c=aB L:=by have:L=[]:=List.length_eq_zero_iff.1 B;subst this;rw[h,me V];rfl
def H0{L B:List Int}{c:ByteArray}{q:Int}(h:ah c=ah (cT B))(O:i2 B)(a:lV B=aB (L.drop (q+1).toNat))(M:q= -1):ah c=aB L:=by subst M;rw[h,y_ O,a];rfl
def pw(L:List Int)(x:PV)(M:aa aj L x)(T:cE L)(C:(L.length:Int)<=1000):VC 387 [o (.p x)] (fun r=>∃c:ByteArray,r=o (sv c)/\(c.size:Int)<=3*L.length/\ah c=aB L/\E1.Canon c):=by(refine vX f387<|yL 12 M<|yJ 5 4 ((↑L.length:Int) - 1)<|yP 0 [] 35 (pT f387 [1,1,0,1,0,0]) (α:=(Int) ⊕ (Int×List Int)) (fun s=>match s with| (.inl k)=>k=L.length - 1/\-1<=k|(.inr (q,B))=> -1<=q/\q<=L.length - 2/\lV B=aB (L.drop (q+1).toNat)/\i2 B/\(B.length:Int)=3*(L.length - 1 - q)) (fun s=>match s with| (.inl k)=>(k+10).toNat|(.inr (q,B))=>(q+10).toNat) (fun s=>match s with| (.inl k)=>([(0,o (.p x)),(3,o (nl)),(4,o (i k))],[])|(.inr (q,B))=>([(0,o (.p x)),(3,o (.ad 0 0 B.length 1)),(4,o (i q))],[P_ aY B])) (.inl ((↑L.length:Int) - 1)) w_ ?_);rintro(k|⟨q,B⟩) G d _;(try dsimp only at G d |-);{obtain⟨_,_⟩:=G;refine yB 6 9 (k>=0) ?_ ?_<;>intro _;{exact yD 4 [] [] (List.range 21)<|yI 3 k M<|yG 0 aj L k<|yI 4 k M<|yG 0 aj L k<|yI 4 k M<|yG 0 aj L k<|yJ 12 4 (k - 1)<|yK 0 [1] (d (.inr ((k - 1),([IntKind.u8.wrap ((L.getD k.toNat 0).fdiv 65536),IntKind.u8.wrap ((L.getD k.toNat 0).fdiv 256),IntKind.u8.wrap (L.getD k.toNat 0)]))) (by(have h:=GZ (L:=L) (k:=k) w_ w_ T;refine⟨w_,w_,h.1,h.2,?_⟩;simp;omega)) t_)};refine yC 6 (iq (B_ []) d_) ?_;rintro _ ⟨f,rfl,_,_,_⟩;exact yF 2 (o (sv f))<|⟨_,rfl,by have g:(B_ []).size=0:=rfl;omega,IV a_ rfl w_,a_⟩};obtain⟨_,_,_,_,_⟩:=G;refine yB 6 9 (q>=0) ?_ ?_<;>intro _;{exact yD 4 [] (z_ 19++[[0]]) (List.range 21)<|yI 3 q M<|yG 0 aj L q<|yI 4 q M<|yG 0 aj L q<|yI 4 q M<|yG 0 aj L q<|yO 2 (aV prog TT .append #[172,172] 172 [(o (.ad 0 0 B.length 1)),(o (.ad 1 0 3 1))]) (Fe (e:=5) (L:=B) (a0:=(IntKind.u8.wrap ((L.getD q.toNat 0).fdiv 65536))) (a1:=(IntKind.u8.wrap ((L.getD q.toNat 0).fdiv 256))) (a2:=(IntKind.u8.wrap (L.getD q.toNat 0))) (i:=t5) (zero:=(List.map (fun v=>LV.p (PV.vl v)) (Value.int IntKind.u8 0).cells.toList)) (new:=([LV.p (PV.vl (Value.int IntKind.u8 (IntKind.u8.wrap ((L.getD q.toNat 0).fdiv 65536)))),LV.p (PV.vl (Value.int IntKind.u8 (IntKind.u8.wrap ((L.getD q.toNat 0).fdiv 256)))),LV.p (PV.vl (Value.int IntKind.u8 (IntKind.u8.wrap (L.getD q.toNat 0))))])) (fz:=false) k_ k_ k_ k_ k_ k_ k_ k_ k_ k_ w_)<|yJ 9 4 (q - 1)<|yK 0 [2] (d (.inr ((q - 1),(B++[IntKind.u8.wrap ((L.getD q.toNat 0).fdiv 65536),IntKind.u8.wrap ((L.getD q.toNat 0).fdiv 256),IntKind.u8.wrap (L.getD q.toNat 0)]))) (by(have h:=zW (L:=L) (B:=B) (q:=q) w_ w_ T a_ a_;refine⟨w_,w_,h.1,h.2,?_⟩;simp;omega)) t_) (hh:=m_)};(refine yO 5 (e8 prog TT 172 228 (o (.ad 0 0 B.length 1))) (tf (e:=5) (fz:=false) k_ k_ k_ k_)<|yC 0 (iq (cT B) (by(try show _<=_);simp only[gd];omega)) ?_);rintro _ ⟨f,rfl,_,_,_⟩;exact yF 2 (o (sv f))<|⟨_,rfl,by simp only[gd]at*;omega,H0 a_ a_ a_ w_,a_⟩
def G0{c s:nB}(d:aat)(P:(ac4 s)):(0:Int)<c.size->(0:Int)*256+an c 0<=72057594037927935:=by intro h;have:=AR (s:=c) (k:=0) w_ h;simp only[Int.toNat_zero,vU]at this;omega
def zX{c s:nB}{k n:Int}(d:aat)(P:(ac4 s))(i:0<=k)(j:k<c.size)(x:n=vU c k.toNat):n*256+an c k=vU c (k+1).toNat/\(k+1<c.size->(n*256+an c k)*256+an c (k+1)<=72057594037927935):=by(have e:(k+1).toNat=k.toNat+1:=by omega);(have f:((k.toNat:Nat):Int)=k:=by omega);(have g:n*256+an c k=vU c (k+1).toNat:=by rw[e,vU,f,x]);refine⟨g,fun h=> ?_⟩;have:=AR (s:=c) (k:=k+1) w_ h;rw[g];omega
def uw{c s:nB}(h:Canon c)(d:aat)(P:(ac4 s)):(c.size:Int)<=7:=by have:=xU (m:=7) h (by rw[d];exact P);omega
def H1{c s:nB}{k n:Int}(d:aat)(x:n=vU c k.toNat)(h:k=c.size):n=ah s:=by subst h;rw[<- d,x];rfl
def wx(s:BA)(A:(CJ s))(P:(ac4 s)):VC 388 (Sd s) (fun r=>∃n:Int,r= .ab [.one (i n),.one (b true)]/\n=ah s/\0<=n):=by(refine vX f388<|yC 8 (iq s w_) ?_);rintro _ ⟨d,rfl,_,_,_⟩;refine yB 9 11 ((↑d.size:Int)>8) ?_ ?_<;>intro _;{exact yF 16 X6<|alN};by_cases y:((↑d.size:Int)=8);{(refine ye 4 15 (↑d.size:Int) 8<|yY 1 d 0 ?_ (h0:=d_));refine yB 4 20 (an d 0>127) ?_ ?_<;>intro _;{exact yF 6 X6<|alN};refine yP 13 [] 35 (pT f388 abe) (α:=(Int×Int)) (fun(k,n)=>0<=k/\k<=d.size/\n=vU d k.toNat/\(k<d.size->n*256+an d k<=72057594037927935)/\0<=n/\n<=72057594037927935) (fun(k,n)=>(d.size - k).toNat) (fun(k,n)=>([(0,o (sv d)),(4,o (i n)),(Xa k)],[])) (0,0) g_ ?_;rintro⟨k,n⟩ G e J;(try dsimp only at G e |-);obtain⟨_,_,_,_,_,_⟩:=G;refine yB 8 24 (k<(↑d.size:Int)) ?_ ?_<;>intro _;{refine yY 9 d k ?_;have:=dr d k;exact yE 11 4 (yw (an d k)) (fun z=>o (i (IntKind.i64.wrap (IntKind.i64.wrap (n*256)+z))))<|yJ 0 5 (k+1)<|yE 0 4 (yw (n*256)) (fun z=>o (i (IntKind.i64.wrap (z+an d k))))<|yJ 0 4 (n*256+an d k)<|yK 0 [] (e ((k+1),(n*256+an d k)) (by(have h:=zX (c:=d) (s:=s) (k:=k) (n:=n) a_ P w_ w_ a_;simp only;exact⟨w_,w_,h.1,h.2,w_,w_⟩)) (by(simp only;omega)))};exact yF 8 (.ab [.one (i n),.one xA])<|alN};(refine yu 4 15 (↑d.size:Int) 8<|yP 19 [] 35 (pT f388 abe) (α:=(Int×Int)) (fun(k,n)=>0<=k/\k<=d.size/\n=vU d k.toNat/\(k<d.size->n*256+an d k<=72057594037927935)/\0<=n/\n<=72057594037927935) (fun(k,n)=>(d.size - k).toNat) (fun(k,n)=>([(0,o (sv d)),(4,o (i n)),(Xa k)],[])) (0,0) (by exact⟨w_,w_,rfl,G0 a_ a_,w_,w_⟩) ?_);rintro⟨k,n⟩ G e J;(try dsimp only at G e |-);obtain⟨_,_,_,_,_,_⟩:=G;refine yB 8 24 (k<(↑d.size:Int)) ?_ ?_<;>intro _;{refine yY 9 d k ?_;have:=dr d k;exact yE 11 4 (yw (an d k)) (fun z=>o (i (IntKind.i64.wrap (IntKind.i64.wrap (n*256)+z))))<|yJ 0 5 (k+1)<|yE 0 4 (yw (n*256)) (fun z=>o (i (IntKind.i64.wrap (z+an d k))))<|yJ 0 4 (n*256+an d k)<|yK 0 [] (e ((k+1),(n*256+an d k)) (by(have h:=zX (c:=d) (s:=s) (k:=k) (n:=n) a_ P w_ w_ a_;simp only;exact⟨w_,w_,h.1,h.2,w_,w_⟩)) (by(simp only;omega)))};exact yF 8 (.ab [.one (i n),.one xA])<|⟨_,rfl,H1 a_ a_ w_,w_⟩
def zY{c s:nB}{m:Int}(h:Canon c)(d:aat)(i:(c.size:Int)<=m)(j:m<=7):ah s<72057594037927936:=by(have e:=uP c;have f:=kS (a:=c.size) (b:=7) w_;have g:(256:Int)^7=72057594037927936:=by decide);omega
def G1{c s:nB}{m:Int}(h:Canon c)(d:aat)(i:(c.size:Int)>m)(j:0<=m):256^m.toNat<=ah s:=by rw[<- d];exact nT h w_
def H2{c s:nB}{m n:Int}(h:Canon c)(d:aat)(i:¬(c.size:Int)>m)(j:0<=m)(x:n=ah s):n<256^m.toNat:=by have e:=uP c;have f:=kS (a:=c.size) (b:=m.toNat) w_;omega
def px(s:BA)(m:Int)(A:(CJ s))(j:0<=m)(T:m<=7):VC 380 [o (sv s),o (i m)] (fun r=>∃(n:Int)(ok:Bool),r= .ab [.one (i n),.one (b ok)]/\(ok=true->n=ah s/\n<256^m.toNat)/\(ok=false->256^m.toNat<=ah s)/\0<=n/\n<72057594037927936):=by(refine vX f380<|yC 9 (iq s w_) ?_);rintro _ ⟨c,rfl,_,_,_⟩;refine yB 4 10 ((↑c.size:Int)>m) ?_ ?_<;>intro _;{exact yF 6 X6<|⟨_,_,rfl,fun h=>Bool.noConfusion h,fun _=>G1 a_ a_ a_ j,w_,w_⟩};refine yC 5 (wx s w_ (by exact zY a_ a_ (Int.not_lt.1 a_) a_)) ?_;rintro _ ⟨p,rfl,_,_⟩;exact yF 5 (.ab [.one (i p),.one xA])<|⟨_,_,rfl,fun _=>⟨a_,H2 a_ a_ a_ j a_⟩,fun h=>Bool.noConfusion h,by have:=kN s;omega,by have:=zY a_ a_ (Int.not_lt.1 a_) T;omega⟩
def vk(s:BA)(A:(CJ s)):VC 380 [o (sv s),o (i 3)] (fun r=>∃(n:Int)(ok:Bool),r= .ab [.one (i n),.one (b ok)]/\(ok=true->n=ah s/\n<16777216)/\(ok=false->16777216<=ah s)/\0<=n/\n<72057594037927936):=
 px s 3 A w_ w_
def vo(s:BA)(A:(CJ s)):VC 380 [o (sv s),o (i 4)] (fun r=>∃(n:Int)(ok:Bool),r= .ab [.one (i n),.one (b ok)]/\(ok=true->n=ah s/\n<4294967296)/\(ok=false->4294967296<=ah s)/\0<=n/\n<72057594037927936):=
 px s 4 A w_ w_
def BD(s:BA)(A:(CJ s)):VC 380 [o (sv s),o (i 7)] (fun r=>∃(n:Int)(ok:Bool),r= .ab [.one (i n),.one (b ok)]/\(ok=true->n=ah s/\n<72057594037927936)/\(ok=false->72057594037927936<=ah s)/\0<=n/\n<72057594037927936):=
 px s 7 A w_ w_
def eW{a c:Int}(h:0<=a)(i:a<16777216)(j:0<=c)(k:c<=1000000):0<=a*c/\a*c<=16777215000000:=by refine⟨Int.mul_nonneg h j,?_⟩;have:=Int.mul_le_mul (show a<=16777215 by omega) k j w_;omega
def kp(n:Int)(h:0<=n)(j:n<9223372036854775808):VC 377 (V6 n) (fun r=>∃c:nB,r=o (sv c)/\(c.size:Int)<=8/\ah c=n/\E1.Canon c):=by(refine vX f377<|yB 25 10 (n>0) ?_ ?_<;>intro _);{(refine yp 31 10 (n>0)<|yp 31 10 (n>0)<|yp 31 10 (n>0)<|yp 31 10 (n>0)<|yp 31 10 (n>0)<|yp 31 10 (n>0)<|yp 31 10 (n>0)<|yC 37 (iq (ByteArray.mk #[UInt8.ofNat (IntKind.u8.wrap (n.fdiv 72057594037927936)).toNat,UInt8.ofNat (IntKind.u8.wrap (n.fdiv 281474976710656)).toNat,UInt8.ofNat (IntKind.u8.wrap (n.fdiv 1099511627776)).toNat,UInt8.ofNat (IntKind.u8.wrap (n.fdiv 4294967296)).toNat,UInt8.ofNat (IntKind.u8.wrap (n.fdiv 16777216)).toNat,UInt8.ofNat (IntKind.u8.wrap (n.fdiv 65536)).toNat,UInt8.ofNat (IntKind.u8.wrap (n.fdiv 256)).toNat,UInt8.ofNat (IntKind.u8.wrap (n.fdiv 1)).toNat]) (by exact aeT (b:=8) (Int.le_of_eq rfl) w_)) ?_);rintro _ ⟨d,rfl,_,_,_⟩;refine yF 2 (o (sv d)) ?_;(refine⟨_,rfl,?_,Eq.trans a_ (UJ h j),a_⟩;assumption)};refine yC 6 (iq (B_ []) d_) ?_;rintro _ ⟨d,rfl,_,_,_⟩;refine yF 2 (o (sv d)) ?_;(refine⟨_,rfl,aeT a_ (aeT (b:=0) (Int.le_of_eq rfl) w_),Eq.trans a_ (Eq.trans (b:=0) (me rfl) w_),a_⟩)
def KG{x y a b:Int}(h:x=a)(i:y=b):x*y=a*b:=by rw[h,i]
def KH{p n a b:Int}(x:n=a+16777216*b):n*p=a*p+16777216*(b*p):=by rw[x];grind
def KI{p n a b c:Int}(x:n=a+16777216*b+281474976710656*c):n*p=a*p+16777216*(b*p)+281474976710656*(c*p):=by rw[x];grind
def CQ{a b:Int}(h:(aqD a))(i:(aqE b)):cE ase/\aB ase=a+16777216*b:=by(have n:0<=0+a+0:=by omega);(have e:=vB (a:=0+a+0) (b:=16777216) n;have n1:0<=(0+a+0).tdiv 16777216+b+0:=by omega);rw[AI n1,vB n1,AI n,e];constructor;{exact aw2};exact ab4
def CR{a b c:Int}(h:(aqD a))(i:(aqE b))(j:0<=c/\c<=16777215000000):cE arw/\aB arw=a+16777216*b+281474976710656*c:=by(have n:0<=0+a+0:=by omega);(have e:=vB (a:=0+a+0) (b:=16777216) n;have n1:0<=(0+a+0).tdiv 16777216+b+0:=by omega);(have f:=vB (a:=(0+a+0).tdiv 16777216+b+0) (b:=16777216) n1;have o:0<=((0+a+0).tdiv 16777216+b+0).tdiv 16777216+c+0:=by omega);rw[AI o,vB o,AI n1,f,AI n,e];constructor;{exact aw2};exact ab4
def KJ(s t:BA)(A:(CJ s))(D:(YW t))(h:ah s<16777216)(i:ael)(j:(adt t)):VC 378 X7 af8:=by(refine vX f378<|yC 7 (vk s w_) ?_);rintro _ ⟨n,k,rfl,Z,Y,_,_⟩;refine yC 9 (vo t w_) ?_;rintro _ ⟨p,l,rfl,X,W,_,_⟩;cases z:k;{have:=Y z;exact YD};have:=Z z;cases y:l;{have:=W y;exact YD};have:=X y;have:=(show(0<=n*p/\n*p<=16777215000000) from eW w_ w_ w_ w_);refine yJ 20 32 (n*p) ?_;have:=(show(0<=n*p/\n*p<=16777215000000) from eW w_ w_ w_ w_);refine yC 0 (kp (n*p) w_ w_) ?_;rintro _ ⟨d,rfl,_,_,_⟩;exact yF 2 (o (sv d))<|⟨_,rfl,w_,by rw[‹ah _=_*_›];exact KG w_ w_,a_⟩
def KK(s t:BA)(A:(CJ s))(D:(YW t))(h:16777216<=ah s)(j:ah s<281474976710656)(k:ael)(l:(adt t)):VC 378 X7 af8:=by(refine vX f378<|yC 7 (vk s w_) ?_);rintro _ ⟨_,m,rfl,Z,Y,_,_⟩;refine yC 9 (vo t w_) ?_;rintro _ ⟨_,_,rfl,_,_,_,_⟩;cases y:m;{have:=Y y;refine yC 19 (KE s w_ w_ w_) ?_;rintro _ ⟨d,e,rfl,_,_,_,_,_⟩;have:=(show(0<=d*ah t/\d*ah t<=16777215000000) from eW w_ w_ w_ w_);have:=vB (a:=(0+d*ah t+0)) (b:=16777216) w_;have:=(show(0<=e*ah t/\e*ah t<=16777215000000) from eW w_ w_ w_ w_);(have:=vB (a:=((0+d*ah t+0).tdiv 16777216+e*ah t+0)) (b:=16777216) w_;refine yV 5 (BC t w_ w_ w_)<|yD 55 [] [] abq<|fF 106 0 (yw (d*ah t)) (fun z=>C_ [i ((IntKind.i64.wrap (IntKind.i64.wrap (0+z)+0)).tmod 16777216),i (IntKind.i64.wrap ((IntKind.i64.wrap (IntKind.i64.wrap (0+z)+0)).tdiv 16777216)),i 0])<|fF 0 0 (yw (0+d*ah t)) (fun z=>C_ [i ((IntKind.i64.wrap (z+0)).tmod 16777216),i (IntKind.i64.wrap ((IntKind.i64.wrap (z+0)).tdiv 16777216)),i 0])<|fF 0 0 (yw (0+d*ah t+0)) (fun z=>C_ [i (z.tmod 16777216),i (IntKind.i64.wrap (z.tdiv 16777216)),i 0])<|yQ 0 0 1 (yw ((0+d*ah t+0).tdiv 16777216)) i<|yD 0 [] [] abq<|fF 83 0 (yw (e*ah t)) (fun z=>C_ [i ((0+d*ah t+0).tmod 16777216),i ((IntKind.i64.wrap (IntKind.i64.wrap ((0+d*ah t+0).tdiv 16777216+z)+0)).tmod 16777216),i (IntKind.i64.wrap ((IntKind.i64.wrap (IntKind.i64.wrap ((0+d*ah t+0).tdiv 16777216+z)+0)).tdiv 16777216))])<|fF 0 0 (yw ((0+d*ah t+0).tdiv 16777216+e*ah t)) (fun z=>C_ [i ((0+d*ah t+0).tmod 16777216),i ((IntKind.i64.wrap (z+0)).tmod 16777216),i (IntKind.i64.wrap ((IntKind.i64.wrap (z+0)).tdiv 16777216))])<|fF 0 0 (yw ((0+d*ah t+0).tdiv 16777216+e*ah t+0)) (fun z=>C_ [i ((0+d*ah t+0).tmod 16777216),i (z.tmod 16777216),i (IntKind.i64.wrap (z.tdiv 16777216))])<|yQ 0 0 2 (yw (((0+d*ah t+0).tdiv 16777216+e*ah t+0).tdiv 16777216)) i<|yT 0 [0] (pw _ _ (show aa aj ([(0+d*ah t+0).tmod 16777216,((0+d*ah t+0).tdiv 16777216+e*ah t+0).tmod 16777216,((0+d*ah t+0).tdiv 16777216+e*ah t+0).tdiv 16777216]) _ from aa.sl) (by exact(CQ (eW w_ w_ w_ w_) (eW w_ w_ w_ w_)).1) s_) ?_);rintro _ ⟨f,rfl,_,_,_⟩;exact yF 2 (o (sv f))<|⟨_,rfl,by simp at*;omega,by rw[‹ah _=aB _›,(CQ (eW w_ w_ w_ w_) (eW w_ w_ w_ w_)).2,KH (n:=ah s) (p:=ah t) alr],a_⟩};have:=Z y;exact YD
def KL(s t:BA)(A:(CJ s))(D:(YW t))(h:281474976710656<=ah s)(j:(acW s))(k:ael)(l:(adt t)):VC 378 X7 af8:=by(refine vX f378<|yC 7 (vk s w_) ?_);rintro _ ⟨_,m,rfl,Z,_,_,_⟩;refine yC 9 (vo t w_) ?_;rintro _ ⟨_,_,rfl,_,_,_,_⟩;cases y:m;{refine yC 19 (KF s w_ w_ w_) ?_;rintro _ ⟨d,e,f,rfl,_,_,_,_,_,_,_⟩;have:=(show(0<=d*ah t/\d*ah t<=16777215000000) from eW w_ w_ w_ w_);have:=vB (a:=(0+d*ah t+0)) (b:=16777216) w_;have:=(show(0<=e*ah t/\e*ah t<=16777215000000) from eW w_ w_ w_ w_);have:=vB (a:=((0+d*ah t+0).tdiv 16777216+e*ah t+0)) (b:=16777216) w_;have:=(show(0<=f*ah t/\f*ah t<=16777215000000) from eW w_ w_ w_ w_);(have:=vB (a:=(((0+d*ah t+0).tdiv 16777216+e*ah t+0).tdiv 16777216+f*ah t+0)) (b:=16777216) w_;refine yV 5 (BC t w_ w_ w_)<|yD 55 [] [] abq<|fF 106 0 (yw (d*ah t)) (fun z=>C_ [i ((IntKind.i64.wrap (IntKind.i64.wrap (0+z)+0)).tmod 16777216),i (IntKind.i64.wrap ((IntKind.i64.wrap (IntKind.i64.wrap (0+z)+0)).tdiv 16777216)),i 0,i 0])<|fF 0 0 (yw (0+d*ah t)) (fun z=>C_ [i ((IntKind.i64.wrap (z+0)).tmod 16777216),i (IntKind.i64.wrap ((IntKind.i64.wrap (z+0)).tdiv 16777216)),i 0,i 0])<|fF 0 0 (yw (0+d*ah t+0)) (fun z=>C_ [i (z.tmod 16777216),i (IntKind.i64.wrap (z.tdiv 16777216)),i 0,i 0])<|yQ 0 0 1 (yw ((0+d*ah t+0).tdiv 16777216)) i<|yD 0 [] [] abq<|fF 106 0 (yw (e*ah t)) (fun z=>C_ [i ((0+d*ah t+0).tmod 16777216),i ((IntKind.i64.wrap (IntKind.i64.wrap ((0+d*ah t+0).tdiv 16777216+z)+0)).tmod 16777216),i (IntKind.i64.wrap ((IntKind.i64.wrap (IntKind.i64.wrap ((0+d*ah t+0).tdiv 16777216+z)+0)).tdiv 16777216)),i 0])<|fF 0 0 (yw ((0+d*ah t+0).tdiv 16777216+e*ah t)) (fun z=>C_ [i ((0+d*ah t+0).tmod 16777216),i ((IntKind.i64.wrap (z+0)).tmod 16777216),i (IntKind.i64.wrap ((IntKind.i64.wrap (z+0)).tdiv 16777216)),i 0])<|fF 0 0 (yw ((0+d*ah t+0).tdiv 16777216+e*ah t+0)) (fun z=>C_ [i ((0+d*ah t+0).tmod 16777216),i (z.tmod 16777216),i (IntKind.i64.wrap (z.tdiv 16777216)),i 0])<|yQ 0 0 2 (yw (((0+d*ah t+0).tdiv 16777216+e*ah t+0).tdiv 16777216)) i<|yD 0 [] [] abq<|fF 83 0 (yw (f*ah t)) (fun z=>C_ [i ((0+d*ah t+0).tmod 16777216),i (((0+d*ah t+0).tdiv 16777216+e*ah t+0).tmod 16777216),i ((IntKind.i64.wrap (IntKind.i64.wrap (((0+d*ah t+0).tdiv 16777216+e*ah t+0).tdiv 16777216+z)+0)).tmod 16777216),i (IntKind.i64.wrap ((IntKind.i64.wrap (IntKind.i64.wrap (((0+d*ah t+0).tdiv 16777216+e*ah t+0).tdiv 16777216+z)+0)).tdiv 16777216))])<|fF 0 0 (yw (((0+d*ah t+0).tdiv 16777216+e*ah t+0).tdiv 16777216+f*ah t)) (fun z=>C_ [i ((0+d*ah t+0).tmod 16777216),i (((0+d*ah t+0).tdiv 16777216+e*ah t+0).tmod 16777216),i ((IntKind.i64.wrap (z+0)).tmod 16777216),i (IntKind.i64.wrap ((IntKind.i64.wrap (z+0)).tdiv 16777216))])<|fF 0 0 (yw (((0+d*ah t+0).tdiv 16777216+e*ah t+0).tdiv 16777216+f*ah t+0)) (fun z=>C_ [i ((0+d*ah t+0).tmod 16777216),i (((0+d*ah t+0).tdiv 16777216+e*ah t+0).tmod 16777216),i (z.tmod 16777216),i (IntKind.i64.wrap (z.tdiv 16777216))])<|yQ 0 0 3 (yw ((((0+d*ah t+0).tdiv 16777216+e*ah t+0).tdiv 16777216+f*ah t+0).tdiv 16777216)) i<|yT 0 [0] (pw _ _ (show aa aj ([(0+d*ah t+0).tmod 16777216,((0+d*ah t+0).tdiv 16777216+e*ah t+0).tmod 16777216,(((0+d*ah t+0).tdiv 16777216+e*ah t+0).tdiv 16777216+f*ah t+0).tmod 16777216,(((0+d*ah t+0).tdiv 16777216+e*ah t+0).tdiv 16777216+f*ah t+0).tdiv 16777216]) _ from aa.sl) (by exact(CR (eW w_ w_ w_ w_) (eW w_ w_ w_ w_) (eW w_ w_ w_ w_)).1) s_) ?_);rintro _ ⟨g,rfl,_,_,_⟩;exact yF 2 (o (sv g))<|⟨_,rfl,by simp at*;omega,by rw[‹ah _=aB _›,(CR (eW w_ w_ w_ w_) (eW w_ w_ w_ w_) (eW w_ w_ w_ w_)).2,KI (n:=ah s) (p:=ah t) alr],a_⟩};have:=Z y;exact YD
def So(s t:BA)(A:(CJ s))(D:(YW t))(h:(acW s))(i:ael)(j:(adt t)):VC 378 X7 af8:=by by_cases g:ah s<16777216;{exact KJ s t A D g i j};by_cases k:ah s<281474976710656;{exact KK s t A D w_ k i j};exact KL s t A D w_ h i j
end Go.Sx.E1
