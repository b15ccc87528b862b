/- The closed facts of the row of MeaningExact about what the law can call. -/
import Derived.Test.YtkeiahlgcgabjaaGreatDoorP33
import Derived.Test.YtkeiahlgcgabjaaGreatDoorCards
import Derived.ProofKit
import Derived.JoinedOf
set_option maxRecDepth 100000
namespace Go.Proofs.YtkeiahlgcgabjaaGreatDoor
open Go Go.Sx.E1
noncomputable def leadF (f:Nat):Option (List Nat):=(fns.get f).map Tryz.prog.leadsTo
noncomputable def clF:Nat→List Nat→Nat→List Nat→Option (List Nat)
 | 0,_,_,_=>none
 | _+1,[],_,seen=>some seen.reverse
 | n+1,f::todo,m,seen=>match Nat.beq ((m>>>f)%2) 1 with
  | true=>clF n todo m seen
  | false=>match leadF f with
   | some l=>clF n (l++todo) (m ||| (1<<<f)) (f::seen)
   | none=>none
theorem clF_ok:∀(n:Nat) (todo:List Nat) (m:Nat) (seen L:List Nat),clF n todo m seen=some L→(∀i,m.testBit i=seen.contains i)→∀N,n≤N→Tryz.prog.closureVia N todo seen=L
 | 0,_,_,_,_,h,_,_,_=>by simp [clF] at h
 | n+1,[],m,seen,L,h,hm,N,hN=>by
  simp [clF] at h;obtain ⟨N,rfl⟩:∃k,N=k+1:=⟨N - 1,by omega⟩
  simp [Program.closureVia,h]
 | n+1,f::todo,m,seen,L,h,hm,N,hN=>by
  obtain ⟨N,rfl⟩:∃k,N=k+1:=⟨N - 1,by omega⟩
  have ht:Nat.beq ((m>>>f)%2) 1=seen.contains f:=by
   rw [← hm f,Nat.testBit_eq_decide_div_mod_eq,Nat.shiftRight_eq_div_pow];cases hd:Nat.beq (m /2^f%2) 1 with
   | true=>simp [Nat.eq_of_beq_eq_true hd]
   | false=>simp [Nat.ne_of_beq_eq_false hd]
  simp only [clF,ht] at h;simp only [Program.closureVia];cases hc:seen.contains f with
  | true=>
   rw [hc] at h;simp only [if_true];exact clF_ok n todo m seen L h hm N (by omega)
  | false=>
   rw [hc] at h;simp only [Bool.false_eq_true,if_false];unfold leadF at h;cases hg:fns.get f with
   | none=>simp [hg] at h
   | some fn=>
    simp only [hg,Option.map_some] at h;rw [(funcOk f fn hg).1];refine clF_ok n _ _ _ L h (fun i=> ?_) N (by omega);rw [Nat.testBit_or,hm i,Nat.one_shiftLeft,Nat.testBit_two_pow,List.contains_cons]
    by_cases e:f=i<;>simp [e,Bool.or_comm]
    intro e2;exact absurd e2.symm e
def CL:List Nat:=[3,4,11,50,134,135,136,236,60,137,44,237,372,18,69,70,51,138,238,373,239,468,139,52,140,141,142,240,143,12,53,144,145,54,55,146,147,148,149,56,150,241,252,377,379,247,380,388,381,387,242,374,244,378,375,376,385,382,57,151,243,58,152,59,61,45,14,13,8,34,98,189,272,327,273,405,28,78,79,80,160,81,161,253,162,226,99,97,406,186,274,275,407,276,234,366,465,441,222,358,460,510,560,527,528,529,568,367,368,455,457,466,532,569,570,403,601,602,571,572,603,604,614,615,277,408,278,409,418,490,492,547,548,337,545,493,494,549,544,583,550,543,417,489,495,491,429,503,555,546,485,539,580,584,609,618,456,428,504,556,610,431,279,410,280,281,411,190,282,283,284,332,430,432,505,557,506,507,558,590,508,433,509,559,591,592,285,333,434,286,412,478,477,479,481,534,480,483,536,574,535,573,439,605,482,287,413,207,336,484,537,575,606,616,617,538,576,607,577,578,608,579,291,206,334,335,435,436,164,437,438,440,511,561,339,443,512,541,444,513,288,414,486,540,487,488,542,581,582,289,415,341,290,292,416,191,293,294,344,369,452,295,346,296,351,458,525,297,298,354,299,235,371,467,370,192,300,301,302,303,419,304,305,193,306,307,308,167,254,255,256,390,309,310,311,312,188,194,195,223,359,461,530,462,531,463,326,313,314,315,101,197,328,420,496,316,317,421,497,498,318,422,499,551,552,585,611,586,587,588,319,423,320,424,321,425,322,426,323,324,325,196,100,35,10,27,76,77,31,46,47,48,49,32,95,175,258,259,83,84,260,163,176,261,391,470,177,178,262,347,392,263,264,179,265,355,180,266,232,365,181,182,267,183,269,402,268,393,399,476,394,471,395,472,473,396,474,475,533,397,398,400,401,184,271,270,404,185,36,37,102,38,43,103,198,199,200,329,427,500,502,554,501,553,589,39,40,41,104,33,96,187,6,29,82,30,85,86,87,166,165,88,90,91,170,93,174,169,257,89,168,92,171,172,173,94,42,105,202,330,201,106,203,331,107,204,108,205,109,209,340,208,338,442,110,111,112,210,211,113,114,212,342,348,454,523,524,515,518,564,567,562,449,519,517,563,565,593,612,619,594,595,596,597,598,599,520,445,447,516,345,453,343,448,450,451,521,566,600,613,522,514,446,350,352,459,526,353,115,213,116,214,349,117,215,118,119,120,216,217,356,218,121,220,357,229,363,230,364,219,122,123,221,124,125,126,127,225,224,227,360,361,362,464,128,228,129,130,231,233,131,132,133,15,62,65,63,153,245,383,384,386,246,64,66,16,17,67,68,154,248,159,251,5,19,20,21,22,71,23,25,73,158,74,75,24,72,155,156,157,249,389,469,250,26,7,9]
theorem clK:clF 2130 [3] 0 []=some CL:=by kernel_rfl
theorem fuelK:Nat.ble 2130 (1+(Tryz.prog.funcs.toList.map fun g=>(Tryz.prog.leadsTo g).length+1).sum)=true:=by kernel_rfl
theorem clo:Tryz.prog.closure 3=CL:=by
 have h:=fuelK;unfold Program.closure
 revert h
 generalize (1+(Tryz.prog.funcs.toList.map fun g=>(Tryz.prog.leadsTo g).length+1).sum)=S;intro h;exact clF_ok _ _ _ _ _ clK (fun i=>by simp) S (Nat.le_of_ble_eq_true h)
theorem allGet:CL.all (fun g=>(fns.get g).isSome)=true:=by kernel_rfl
theorem look (g:Nat) (h:g∈CL):Tryz.prog.funcs[g]? =fns.get g:=by
 have:=List.all_eq_true.1 allGet g h;cases hg:fns.get g with
 | none=>simp [hg] at this
 | some fn=>exact (funcOk g fn hg).1
theorem fmC {α β:Type} {f g:α→Option β}:∀{l:List α},(∀x∈l,f x=g x)→l.filterMap f=l.filterMap g
 | [],_=>rfl
 | x::l,h=>by rw [List.filterMap_cons,List.filterMap_cons,h x (by simp),fmC fun y hy=>h y (by simp [hy])]
theorem inP:Tryz.prog.inPlace 3=CL.filterMap fun g=>(fns.get g).bind fun fn=>if fn.ours || fn.body.isNone || fn.name== "runtime.NumGoroutine" then some fn.name else none:=by
 unfold Program.inPlace;rw [clo];exact fmC fun g hg=>by rw [look g hg]
theorem j9:(Rows.meaningExactRow.inPlace==Tryz.prog.inPlace 3)=true:=by
 rw [inP]
 kernel_rfl
theorem vaN:Tryz.prog.varsNamed 3=((((CL.map fun g=>((fns.get g).bind (·.body)).elim [] Code.globalsNamed).flatten).eraseDups).filterMap (fun g=>(Tryz.prog.globals[g]?).map (·.name))++
  CL.filterMap fun g=>(fns.get g).bind fun fn=>if fn.body.isNone then entryReads.lookup fn.name else none).eraseDups:=by
 unfold Program.varsNamed;rw [clo,List.flatMap_def]
 rw [fmC (l:=CL) (f:=fun g=>(Tryz.prog.funcs[g]?).bind fun fn=>if fn.body.isNone then entryReads.lookup fn.name else none) fun g hg=>by rw [look g hg],
  List.map_congr_left (l:=CL) (f:=fun g=>((Tryz.prog.funcs[g]?).bind (·.body)).elim [] Code.globalsNamed) fun g hg=>by rw [look g hg]]
theorem j12:(Rows.meaningExactRow.named==Tryz.prog.varsNamed 3)=true:=by
 rw [vaN]
 kernel_rfl
theorem unC:CL.any (fun g=>(fns.get g).any fun fn=>match fn.body with | some c=>c.unfollowed | none=>entryCalls fn)=true:=by kernel_rfl
theorem unf:Tryz.prog.unfollowed 3=true:=by
 unfold Program.unfollowed;rw [clo,← unC,Bool.eq_iff_iff,List.any_eq_true,List.any_eq_true];exact ⟨fun ⟨g,h,e⟩=>⟨g,h,by rwa [← look g h]⟩,fun ⟨g,h,e⟩=>⟨g,h,by rwa [look g h]⟩⟩
theorem j10:(Rows.meaningExactRow.unfollowed==Tryz.prog.unfollowed 3)=true:=by
 rw [unf]
 kernel_rfl
theorem j11:(Rows.meaningExactRow.recurses==Tryz.prog.recurses 3)=true:=by
 unfold Program.recurses;rw [unf,Bool.true_or]
 kernel_rfl
theorem goC:CL.any (fun g=>(fns.get g).any Func.goes)=false:=by kernel_rfl
theorem goA:Tryz.prog.funcs.any Func.goes=false:=by kernel_rfl
theorem nmE:Tryz.prog.funcNamed Rows.meaningExactRow.func=some 3:=by kernel_rfl
theorem go3:Tryz.prog.goes 3=false:=by
 unfold Program.goes;rw [clo,goA,Bool.and_false,Bool.or_false,← goC,Bool.eq_iff_iff,List.any_eq_true,List.any_eq_true];exact ⟨fun ⟨g,h,e⟩=>⟨g,h,by rwa [← look g h]⟩,fun ⟨g,h,e⟩=>⟨g,h,by rwa [look g h]⟩⟩
theorem goes_of {P:Program} {c:OpenClaim} {f:FuncId} (h1:P.funcNamed c.func=some f) (h2:c.start= .entering) (h3:P.goes f=false):false=c.goesBy P:=by
 unfold OpenClaim.goesBy Program.goesAt Program.goesFrom;rw [h1,h2];simp [h3]
theorem cg:false=Rows.meaningExactRow.goesBy Tryz.prog:=goes_of nmE rfl go3
end Go.Proofs.YtkeiahlgcgabjaaGreatDoor
