/- The closed facts of the row of MeaningEmpty about what the law can call. -/
import Derived.Test.YtgnjilecndiffaaGreatDoorP35
import Derived.Test.YtgnjilecndiffaaGreatDoorCards
import Derived.ProofKit
import Derived.JoinedOf
set_option maxRecDepth 100000
namespace Go.Proofs.YtgnjilecndiffaaGreatDoor
open Go Go.Sx.E1
noncomputable def leadF (f:Nat):Option (List Nat):=(fns.get f).map Tryz.prog.leadsTo
noncomputable def clF:Nat→List Nat→Nat→List Nat→Option (List Nat)
 | 0,_,_,_=>none
 | _+1,[],_,seen=>some seen.reverse
 | n+1,f::todo,m,seen=>match Nat.beq ((m>>>f)%2) 1 with
  | true=>clF n todo m seen
  | false=>match leadF f with
   | some l=>clF n (l++todo) (m ||| (1<<<f)) (f::seen)
   | none=>none
theorem clF_ok:∀(n:Nat) (todo:List Nat) (m:Nat) (seen L:List Nat),clF n todo m seen=some L→(∀i,m.testBit i=seen.contains i)→∀N,n≤N→Tryz.prog.closureVia N todo seen=L
 | 0,_,_,_,_,h,_,_,_=>by simp [clF] at h
 | n+1,[],m,seen,L,h,hm,N,hN=>by
  simp [clF] at h;obtain ⟨N,rfl⟩:∃k,N=k+1:=⟨N - 1,by omega⟩
  simp [Program.closureVia,h]
 | n+1,f::todo,m,seen,L,h,hm,N,hN=>by
  obtain ⟨N,rfl⟩:∃k,N=k+1:=⟨N - 1,by omega⟩
  have ht:Nat.beq ((m>>>f)%2) 1=seen.contains f:=by
   rw [← hm f,Nat.testBit_eq_decide_div_mod_eq,Nat.shiftRight_eq_div_pow];cases hd:Nat.beq (m /2^f%2) 1 with
   | true=>simp [Nat.eq_of_beq_eq_true hd]
   | false=>simp [Nat.ne_of_beq_eq_false hd]
  simp only [clF,ht] at h;simp only [Program.closureVia];cases hc:seen.contains f with
  | true=>
   rw [hc] at h;simp only [if_true];exact clF_ok n todo m seen L h hm N (by omega)
  | false=>
   rw [hc] at h;simp only [Bool.false_eq_true,if_false];unfold leadF at h;cases hg:fns.get f with
   | none=>simp [hg] at h
   | some fn=>
    simp only [hg,Option.map_some] at h;rw [(funcOk f fn hg).1];refine clF_ok n _ _ _ L h (fun i=> ?_) N (by omega);rw [Nat.testBit_or,hm i,Nat.one_shiftLeft,Nat.testBit_two_pow,List.contains_cons]
    by_cases e:f=i<;>simp [e,Bool.or_comm]
    intro e2;exact absurd e2.symm e
def CL:List Nat:=[3,4,12,51,120,121,122,260,61,123,49,261,378,19,70,71,52,124,262,379,263,487,125,53,126,127,128,264,129,13,54,130,131,55,56,132,133,134,135,57,136,265,276,383,385,271,386,394,387,393,266,380,268,384,381,382,391,388,58,137,267,59,138,60,62,50,15,14,9,6,28,77,146,203,147,277,205,311,312,313,440,314,441,526,220,250,29,223,278,217,148,149,279,150,258,373,485,472,200,309,436,520,576,521,522,523,577,374,292,417,419,418,507,566,567,454,595,596,568,569,597,598,613,614,151,280,152,281,298,424,426,513,514,351,511,427,428,515,510,570,516,509,297,423,429,425,397,489,551,512,411,501,563,571,599,615,421,396,490,552,600,399,153,282,154,155,283,78,156,157,158,284,398,400,491,553,492,493,554,588,494,401,495,555,589,590,159,285,402,160,286,404,403,405,407,496,406,409,498,557,497,556,470,591,408,161,287,232,350,410,499,558,592,611,612,500,559,593,560,561,594,562,165,231,348,349,466,467,235,468,469,471,538,581,290,413,503,505,414,504,162,288,412,502,415,416,506,564,565,163,289,354,164,166,291,79,167,168,293,375,420,169,294,170,295,422,508,171,172,296,173,259,377,486,376,80,174,175,176,177,299,178,179,81,180,181,182,300,332,430,431,517,183,184,185,186,301,82,83,201,310,437,524,438,525,439,202,187,188,189,31,85,204,302,432,190,191,303,433,434,192,304,435,518,519,572,601,573,574,575,193,305,194,306,195,307,196,308,197,198,199,84,30,40,8,7,32,33,34,35,36,37,38,39,86,206,315,316,317,319,320,318,207,321,442,527,208,209,322,358,443,323,324,210,325,364,211,326,256,372,212,213,327,214,329,453,328,444,450,533,445,528,446,529,530,447,531,532,578,448,449,451,452,215,331,330,455,216,41,42,10,43,48,87,218,219,221,333,456,534,536,580,535,579,602,44,45,46,88,89,222,334,90,224,335,225,336,337,338,458,457,339,341,342,461,344,465,460,537,340,459,343,462,463,464,345,47,91,227,346,226,92,228,347,93,229,94,230,95,234,353,233,352,473,96,97,98,236,237,99,100,238,355,359,482,548,549,540,543,584,587,582,478,544,542,583,585,603,616,618,604,605,606,607,608,609,545,474,476,541,357,481,356,477,479,480,546,586,610,617,547,539,475,361,362,483,550,363,101,239,102,240,360,103,241,104,105,106,242,243,365,244,107,246,366,253,370,254,371,245,108,109,247,110,111,112,113,249,248,251,367,368,369,484,114,252,115,116,255,257,117,118,119,16,63,66,64,139,269,389,390,392,270,65,67,17,18,68,69,140,272,145,275,5,20,21,22,23,72,24,26,74,144,75,76,25,73,141,142,143,273,395,488,274,27,11]
theorem clK:clF 2098 [3] 0 []=some CL:=by kernel_rfl
theorem fuelK:Nat.ble 2098 (1+(Tryz.prog.funcs.toList.map fun g=>(Tryz.prog.leadsTo g).length+1).sum)=true:=by kernel_rfl
theorem clo:Tryz.prog.closure 3=CL:=by
 have h:=fuelK;unfold Program.closure
 revert h
 generalize (1+(Tryz.prog.funcs.toList.map fun g=>(Tryz.prog.leadsTo g).length+1).sum)=S;intro h;exact clF_ok _ _ _ _ _ clK (fun i=>by simp) S (Nat.le_of_ble_eq_true h)
theorem allGet:CL.all (fun g=>(fns.get g).isSome)=true:=by kernel_rfl
theorem look (g:Nat) (h:g∈CL):Tryz.prog.funcs[g]? =fns.get g:=by
 have:=List.all_eq_true.1 allGet g h;cases hg:fns.get g with
 | none=>simp [hg] at this
 | some fn=>exact (funcOk g fn hg).1
theorem fmC {α β:Type} {f g:α→Option β}:∀{l:List α},(∀x∈l,f x=g x)→l.filterMap f=l.filterMap g
 | [],_=>rfl
 | x::l,h=>by rw [List.filterMap_cons,List.filterMap_cons,h x (by simp),fmC fun y hy=>h y (by simp [hy])]
theorem inP:Tryz.prog.inPlace 3=CL.filterMap fun g=>(fns.get g).bind fun fn=>if fn.ours || fn.body.isNone || fn.name== "runtime.NumGoroutine" then some fn.name else none:=by
 unfold Program.inPlace;rw [clo];exact fmC fun g hg=>by rw [look g hg]
theorem j9:(Rows.meaningEmptyRow.inPlace==Tryz.prog.inPlace 3)=true:=by
 rw [inP]
 kernel_rfl
theorem vaN:Tryz.prog.varsNamed 3=((((CL.map fun g=>((fns.get g).bind (·.body)).elim [] Code.globalsNamed).flatten).eraseDups).filterMap (fun g=>(Tryz.prog.globals[g]?).map (·.name))++
 CL.filterMap fun g=>(fns.get g).bind fun fn=>if fn.body.isNone then entryReads.lookup fn.name else none).eraseDups:=by
 unfold Program.varsNamed;rw [clo,List.flatMap_def]
 rw [fmC (l:=CL) (f:=fun g=>(Tryz.prog.funcs[g]?).bind fun fn=>if fn.body.isNone then entryReads.lookup fn.name else none) fun g hg=>by rw [look g hg],
  List.map_congr_left (l:=CL) (f:=fun g=>((Tryz.prog.funcs[g]?).bind (·.body)).elim [] Code.globalsNamed) fun g hg=>by rw [look g hg]]
theorem j12:(Rows.meaningEmptyRow.named==Tryz.prog.varsNamed 3)=true:=by
 rw [vaN]
 kernel_rfl
theorem unC:CL.any (fun g=>(fns.get g).any fun fn=>match fn.body with | some c=>c.unfollowed | none=>entryCalls fn)=true:=by kernel_rfl
theorem unf:Tryz.prog.unfollowed 3=true:=by
 unfold Program.unfollowed;rw [clo,← unC,Bool.eq_iff_iff,List.any_eq_true,List.any_eq_true];exact ⟨fun ⟨g,h,e⟩=>⟨g,h,by rwa [← look g h]⟩,fun ⟨g,h,e⟩=>⟨g,h,by rwa [look g h]⟩⟩
theorem j10:(Rows.meaningEmptyRow.unfollowed==Tryz.prog.unfollowed 3)=true:=by
 rw [unf]
 kernel_rfl
theorem j11:(Rows.meaningEmptyRow.recurses==Tryz.prog.recurses 3)=true:=by
 unfold Program.recurses;rw [unf,Bool.true_or]
 kernel_rfl
theorem goC:CL.any (fun g=>(fns.get g).any Func.goes)=false:=by kernel_rfl
theorem goA:Tryz.prog.funcs.any Func.goes=false:=by kernel_rfl
theorem nmE:Tryz.prog.funcNamed Rows.meaningEmptyRow.func=some 3:=by kernel_rfl
theorem go3:Tryz.prog.goes 3=false:=by
 unfold Program.goes;rw [clo,goA,Bool.and_false,Bool.or_false,← goC,Bool.eq_iff_iff,List.any_eq_true,List.any_eq_true];exact ⟨fun ⟨g,h,e⟩=>⟨g,h,by rwa [← look g h]⟩,fun ⟨g,h,e⟩=>⟨g,h,by rwa [look g h]⟩⟩
theorem goes_of {P:Program} {c:OpenClaim} {f:FuncId} (h1:P.funcNamed c.func=some f) (h2:c.start= .entering) (h3:P.goes f=false):false=c.goesBy P:=by
 unfold OpenClaim.goesBy Program.goesAt Program.goesFrom;rw [h1,h2];simp [h3]
theorem cg:false=Rows.meaningEmptyRow.goesBy Tryz.prog:=goes_of nmE rfl go3
end Go.Proofs.YtgnjilecndiffaaGreatDoor
