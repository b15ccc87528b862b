/- Part of MeaningExact. -/
import Derived.Test.YtkeiahlgcgabjaaGreatDoorP11
set_option linter.all false
set_option maxRecDepth 1000000
set_option maxHeartbeats 0
namespace Go.Sx.E1
open Go.Proofs Go.Proofs.Tryz
def fg{K:Type}[DecidableEq K](k:K):List (K×Int)->Option Int
 | []=>none
 |p::l=>if k=p.1 then some p.2 else fg k l
def iE{K:Type}[DecidableEq K](k:K)(v:Int):List (K×Int)->List (K×Int)
 | []=>[(k,v)]
 |p::l=>if k=p.1 then(k,v)::l else p::iE k v l
def fZ(p:Int×Int):Value×RW:=(.int .i64 p.1,.one (.p (.vl (.int .i64 p.2))))
def eU(p:(Int×Int)×Int):Value×RW:=(.agg #[.int .i64 p.1.1,.int .i64 p.1.2],.one (.p (.vl (.int .i64 p.2))))
def xX{π:Nat->Option Nat}:∀M:List (Int×Int),ba (oy π) (M.map fZ)=some (M.map fZ)
 | []=>rfl
 |x::l=>mo rfl (xX l)
def xY{π:Nat->Option Nat}:∀M:List ((Int×Int)×Int),ba (oy π) (M.map eU)=some (M.map eU)
 | []=>rfl
 |x::l=>mo rfl (xY l)
def HM{π:Nat->Option Nat}{hp:ag}{b:Nat}{M:List (Int×Int)}(h:hp[b]? =some (.map (M.map fZ))):gG π hp b=some (.map (M.map fZ)):=by simp[gG,h,e9,xX]
def HN{π:Nat->Option Nat}{hp:ag}{b:Nat}{M:List ((Int×Int)×Int)}(h:hp[b]? =some (.map (M.map eU))):gG π hp b=some (.map (M.map eU)):=by simp[gG,h,e9,xY]
def zf(k:Int):∀M:List (Int×Int),dW (.int .i64 k) (M.map fZ)=(fg k M).map fun v=> .one (.p (I_ v))
 | []=>rfl
 |p::l=>by
  have e:Instr.sameBits 1 (.int .i64 k) (.int .i64 p.1)=(k==p.1):=by simp[Instr.sameBits]
  simp only[VZ,dW,fZ,e,fg,Vw];split
  ·rfl
  exact zf k l
def zg(a b:Int):∀M:List ((Int×Int)×Int),dW (.agg #[.int .i64 a,.int .i64 b]) (M.map eU)=(fg (a,b) M).map fun v=> .one (.p (I_ v))
 | []=>rfl
 |p::l=>by
  have e:Instr.sameBits 1 (.agg #[.int .i64 a,.int .i64 b]) (.agg #[.int .i64 p.1.1,.int .i64 p.1.2])=((a,b)==p.1):=by
   exact avS
  simp only[VZ,dW,eU,e,fg,Vw];split
  ·rfl
  exact zg a b l
def Ad(k v:Int):∀M:List (Int×Int),eN (.int .i64 k) (.one (.p (I_ v))) (M.map fZ)=(iE k v M).map fZ
 | []=>rfl
 |p::l=>by
  have e:Instr.sameBits 1 (.int .i64 k) (.int .i64 p.1)=(k==p.1):=by simp[Instr.sameBits]
  simp only[VZ,eN,fZ,e,iE,Vw];split
  ·rfl
  simp only[VZ,Ad k v l];rfl
def Ae(a b v:Int):∀M:List ((Int×Int)×Int),eN (.agg #[.int .i64 a,.int .i64 b]) (.one (.p (I_ v))) (M.map eU)=(iE (a,b) v M).map eU
 | []=>rfl
 |p::l=>by
  have e:Instr.sameBits 1 (.agg #[.int .i64 a,.int .i64 b]) (.agg #[.int .i64 p.1.1,.int .i64 p.1.2])=((a,b)==p.1):=by
   exact avS
  simp only[VZ,eN,eU,e,iE,Vw];split
  ·rfl
  simp only[VZ,Ae a b v l];rfl
def Af{T:aq}(M:List (Int×Int)):(M.map fZ).all (fun e=>eD T (.int .i64) e.1)=true:=by exact auA
def wC{T:aq}{e:lA}(h:T.au e=some (.int .i64))(i:a6 T e=some 1)(a b:Int):eD T (.array 2 e) (.agg #[.int .i64 a,.int .i64 b])=true:=by simp[eD,eX,mH,h,i]
def Ag{T:aq}{e:lA}(h:T.au e=some (.int .i64))(i:a6 T e=some 1)(M:List ((Int×Int)×Int)):(M.map eU).all (fun x=>eD T (.array 2 e) x.1)=true:=by rw[LA];intro x N;obtain⟨p,_,rfl⟩:=List.mem_map.1 N;exact wC h i _ _
def F'{T:aq}{t kt e:lA}{b:Nat}{k:Int}{M:List (Int×Int)}{hp:ag}(h:T.au t=some (.map kt e))(i:T.au kt=some (.int .i64))(j:mI T e=some (.v (.one (.p (I_ 0)))))(O:hp[b]? =some (.map (M.map fZ))): hP T t (.v (.one (.map b))) (.v (.one (.p (I_ k)))) true hp=some (.ab [.one (.p (I_ ((fg k M).getD 0))),.one (.p (.vl (.bool (fg k M).isSome)))],hp):=by have f:bE (.v (.one (.p (I_ k))))=some (.int .i64 k):=rfl;have g:eD T (.int .i64) (.int .i64 k)=true:=rfl;have l:=Af (T:=T) M;simp only[hP,h,f,mapOf,O,i,j,g,l,acK,if_true,zf];cases fg k M<;>rfl
def Ga{T:aq}{t kt e e2:lA}{b:Nat}{k l:Int}{M:List ((Int×Int)×Int)}{hp:ag}(h:T.au t=some (.map kt e))(i:T.au kt=some (.array 2 e2))(j:mI T e=some (.v (.one (.p (I_ 0)))))(m:T.au e2=some (.int .i64))(n:a6 T e2=some 1)(O:hp[b]? =some (.map (M.map eU))): hP T t (.v (.one (.map b))) (.v (.agg [.p (I_ k),.p (I_ l)])) true hp=some (.ab [.one (.p (.vl (.int .i64 ((fg (k,l) M).getD 0)))),.one (.p (.vl (.bool (fg (k,l) M).isSome)))],hp):=by have f:bE (.v (.agg [.p (I_ k),.p (I_ l)]))=some (.agg #[.int .i64 k,.int .i64 l]):=rfl;have g:=wC m n k l;have e2:=Ag m n M;simp only[hP,h,f,mapOf,O,i,j,g,e2,acK,if_true,zg];cases fg (k,l) M<;>rfl
def zh{T:aq}{t kt e:lA}{b:Nat}{k v:Int}{M:List (Int×Int)}{hp:ag}(h:T.au t=some (.map kt e))(i:T.au kt=some (.int .i64))(O:hp[b]? =some (.map (M.map fZ))): e4 T t (.v (.one (.map b))) (.v (.one (.p (I_ k)))) (.v (.one (.p (I_ v)))) hp=some (bl,hp.set b (.map ((iE k v M).map fZ))):=by have f:bE (.v (.one (.p (I_ k))))=some (.int .i64 k):=rfl;have g:eD T (.int .i64) (.int .i64 k)=true:=rfl;have j:=Af (T:=T) M;simp only[e4,h,f,O,i,g,j,acK,if_true,Ad]
def G4{T:aq}{t kt e e2:lA}{b:Nat}{k l v:Int}{M:List ((Int×Int)×Int)}{hp:ag}(h:T.au t=some (.map kt e))(i:T.au kt=some (.array 2 e2))(j:T.au e2=some (.int .i64))(m:a6 T e2=some 1)(O:hp[b]? =some (.map (M.map eU))): e4 T t (.v (.one (.map b))) (.v (.agg [.p (I_ k),.p (I_ l)])) (.v (.one (.p (I_ v)))) hp=some (bl,hp.set b (.map ((iE (k,l) v M).map eU))):=by have f:bE (.v (.agg [.p (I_ k),.p (I_ l)]))=some (.agg #[.int .i64 k,.int .i64 l]):=rfl;have g:=wC j m k l;have e2:=Ag j m M;simp only[e4,h,f,O,i,g,e2,acK,if_true,Ae]
end Go.Sx.E1
namespace Go.Sx.E1
open Go.Proofs
structure eu(n:Nat) where
 x:PV
 L:eF
 h:aa aj L x
 hw:L.length=n
def eu.lS(n:Nat):eu n:=⟨.sl (List.replicate n (0:Int)).length ((List.replicate n (0:Int)).flatMap aj),List.replicate n 0,.sl,s_⟩
instance {n:Nat}:Inhabited (eu n):=⟨eu.lS n⟩
def dY{n:Nat}(r:eu n):rK:=[r.x]
instance {n:Nat}:cZ (dY (n:=n)) 1:=⟨fun _=>rfl⟩
structure cV(n:Nat) where
 x:PV
 L:eF
 h:aa aj L x
 hb:∀k:Nat,0<=L.getD k 0/\(L.getD k 0<n\/n=0)
 hl:L.length<=10/\L.length<=10*n
def cV.lS(n:Nat):cV n:=⟨.sl ([]:eF).length (([]:eF).flatMap aj),[],.sl,fun k=>by simp;omega,s_⟩
def uz{n:Nat}(K:cV n)(k:Nat):0<=K.L.getD k 0/\(K.L.getD k 0<n\/n=0):=K.hb k
instance {n:Nat}:Inhabited (cV n):=⟨cV.lS n⟩
def bY{n:Nat}(r:cV n):rK:=[r.x]
instance {n:Nat}:cZ (bY (n:=n)) 1:=⟨fun _=>rfl⟩
def pV(k:ByteArray):List ByteArray->List ByteArray
 | []=>[k]
 |x::l=>if(k==x)=true then k::l else x::pV k l
def gW(s:ByteArray):Value×RW:=(.string s,.one (.p (.vl (.bool true))))
def xZ{π:Nat->Option Nat}:∀M:List ByteArray,ba (oy π) (M.map gW)=some (M.map gW)
 | []=>rfl
 |x::l=>mo rfl (xZ l)
def HO{π:Nat->Option Nat}{hp:ag}{b:Nat}{M:List ByteArray}(h:hp[b]? =some (.map (M.map gW))):gG π hp b=some (.map (M.map gW)):=by simp[gG,h,e9,xZ]
def Ah(k:BA):∀M:List ByteArray,eN (.string k) (.one (.p (.vl (.bool true)))) (M.map gW)=(pV k M).map gW
 | []=>rfl
 |p::l=>by
  have e:Instr.sameBits 1 (.string k) (.string p)=(k==p):=by simp[Instr.sameBits]
  simp only[VZ,eN,gW,e,pV];split
  ·rfl
  simp only[VZ,Ah k l];rfl
def Ib{T:aq}(M:List ByteArray):(M.map gW).all (fun e=>eD T .string e.1)=true:=by exact auA
def G5{T:aq}{t kt e:lA}{b:Nat}{k:ByteArray}{M:List ByteArray}{hp:ag}(h:T.au t=some (.map kt e))(i:T.au kt=some .string)(O:hp[b]? =some (.map (M.map gW))): e4 T t (.v (.one (.map b))) (.v (.one (sv k))) (.v (.one (.p (.vl (.bool true))))) hp=some (bl,hp.set b (.map ((pV k M).map gW))):=by have f:bE (.v (.one (sv k)))=some (.string k):=rfl;have g:eD T .string (.string k)=true:=rfl;have j:=Ib (T:=T) M;simp only[e4,h,f,O,i,g,j,acK,if_true,Ah]
end Go.Sx.E1
namespace Go.Sx.E1
open Go.Proofs Go.Proofs.Tryz
def xy{T:aq}{hp:ag}{t:lA}{b k:Nat}{v:ByteArray}{L:List ByteArray}(A:a6 T t=some 1)(O:hp[b]? =some (.cells (pc (L.flatMap ae)) false))(C:k<L.length): cf T t (.v (.one (.ref b k))) (.v (.one (sv v))) hp=some (bl,hp.set b (.cells (pc ((L.set k v).flatMap ae)) false)):=by(have e:∀(L:List ByteArray),pc (L.flatMap ae)=L.map fun n=>sv n:=by intro L;induction L with| nil=>rfl|cons x l d=>simp only[XP,ae,pc,YR,VZ,acD]at d |-;rw[d];rfl);(have f:eM (L.map fun n=>sv n) k [sv v]=(L.set k v).map fun n=>sv n:=by exact aj2);(rw[e]at O;have hl:k+1<=(L.map fun n=>sv n).length:=by simp;omega);exact akx
def av:List ByteArray:=[⟨#[99,105,116,121]⟩,⟨#[122,105,112]⟩,⟨#[99,111,117,110,116,114,121]⟩,⟨#[115,105,110,99,101]⟩]
def dZ(k G:Int)(s:ByteArray)(V A m:Int):Prop:=
 (G=0/\s=⟨#[]⟩/\V=0/\A=0/\m=0)\/
 (k=1/\G=1/\(s=⟨#[82,111,109,101]⟩\/s=⟨#[79,115,108,111]⟩\/s=⟨#[66,101,114,103,101,110]⟩\/s=⟨#[105,116]⟩)/\V=0/\A=0/\m=0)\/
 (k=2/\G=2/\s=⟨#[]⟩/\((V=1/\A=0)\/(V= -25/\A=1)\/(V=3/\A=0)\/(V=1000000000000000/\A=0))/\m=0)\/
 (k=3/\G=3/\s=⟨#[]⟩/\V=0/\A=0/\(m=738000\/m=738001\/m=738002\/m=738003))
def kZ(S:eF)(M:List ce):Prop:=∀j:Nat,j<M.length->dZ (S.getD j 0) (M.getD j default).k (M.getD j default).s (M.getD j default).dn (M.getD j default).ds (M.getD j default).n
def dk{w:Nat}(S:eF)(R:List (Row w)):Prop:=∀r∈R,kZ S r.R
def SW:PV->Int
 | .vl (.int .i64 n)=>n
 |_=>0
def iu:PV->eF
 | .sl _ cs=>cs.map SW
 |_=>[]
def uX{S:eF}{y:PV}(h:aa aj S y):iu y=S:=by cases h with| sl=>(unfold iu;induction S with| nil=>rfl|cons a l d=>simp only[XP,YR]at d |-;rw[d];rfl)|nil h=>subst h;rfl
def tK{S:eF}{y:PV}{Rw:List ce}{jj k s dn ds m}{i:dH k s dn ds m}(hy:aa aj S y)(h:kZ (iu y) Rw)(t:(Rw.length:Int)=jj)(c:dZ (S.getD jj.toNat 0) k s dn ds m):kZ (iu y) (Rw++[⟨k,s,dn,ds,m,i⟩]):=by intro j x;simp only[WJ,VP,WY]at x;by_cases e:j<Rw.length;{have:=h j e;exact kg};(have f:j=Rw.length:=by omega);subst f;rw[uX hy];grind
def zi{S:eF}{y:PV}{j k s dn ds m}{i:dH k s dn ds m}(hy:aa aj S y)(t:j=0)(c:dZ (S.getD (Int.toNat j) 0) k s dn ds m):kZ (iu y) [⟨k,s,dn,ds,m,i⟩]:=by subst t;exact tK (Rw:=[]) (jj:=0) hy (fun j h=>by simp at h) rfl (by simpa using c)
def zj{w:Nat}{S:eF}{R:List (Row w)}{r:Row w}(h:dk S R)(C:kZ S r.R):dk S (R++[r]):=by exact anT
def Ai{w:Nat}{S:eF}:dk S ([]:List (Row w)):=fun _ h=>by simp at h
def mf{C:List ByteArray}{q n:Int}{z:ByteArray}(h:C=List.take q.toNat av)(hz:(q=1/\z=⟨#[122,105,112]⟩/\n=2)\/(q=2/\z=⟨#[99,111,117,110,116,114,121]⟩/\n=3)\/(q=3/\z=⟨#[115,105,110,99,101]⟩/\n=4)):C++[z]=List.take n.toNat av:=by subst h;rcases hz with⟨rfl,rfl,rfl⟩|⟨rfl,rfl,rfl⟩|⟨rfl,rfl,rfl⟩<;>rfl
def I9{S:eF}(h:0<S.length):(S.set 0 1).getD 0 0=1:=by exact kg
end Go.Sx.E1
