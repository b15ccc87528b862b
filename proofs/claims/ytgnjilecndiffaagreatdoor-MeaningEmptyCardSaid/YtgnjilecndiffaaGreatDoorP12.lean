/- A part of the proof of MeaningEmpty. -/
import Derived.KernelRfl
import Derived.Test.YtgnjilecndiffaaGreatDoorProg
import Derived.Test.YtgnjilecndiffaaGreatDoorP11
set_option linter.all false
set_option maxRecDepth 1000000
set_option maxHeartbeats 0
namespace Go.Sx.E1
open Go.Proofs
section
variable {α:Type}
def n1 (i:Nat) (a:α):Tree α:= .nd .lf i a .lf
def n3 (i:Nat) (a0 a1 a2:α):Tree α:= .nd (n1 i a0) (i+1) a1 (n1 (i+2) a2)
def n7 (i:Nat) (a0 a1 a2 a3 a4 a5 a6:α):Tree α:= .nd (n3 i a0 a1 a2) (i+3) a3 (n3 (i+4) a4 a5 a6)
def n15 (i:Nat) (a0 a1 a2 a3 a4 a5 a6 a7 a8 a9 a10 a11 a12 a13 a14:α):Tree α:= .nd (n7 i a0 a1 a2 a3 a4 a5 a6) (i+7) a7 (n7 (i+8) a8 a9 a10 a11 a12 a13 a14)
def n31 (i:Nat) (a0 a1 a2 a3 a4 a5 a6 a7 a8 a9 a10 a11 a12 a13 a14 a15 a16 a17 a18 a19 a20 a21 a22 a23 a24 a25 a26 a27 a28 a29 a30:α):Tree α:= .nd (n15 i a0 a1 a2 a3 a4 a5 a6 a7 a8 a9 a10 a11 a12 a13 a14) (i+15) a15 (n15 (i+16) a16 a17 a18 a19 a20 a21 a22 a23 a24 a25 a26 a27 a28 a29 a30)
def Tree.toL:Tree α→List (Nat×α)
 | .lf=>[]
 | .nd l k v r=>toL l++(k,v)::toL r
def numb:Nat→List α→List (Nat×α)
 | _,[]=>[]
 | k,x::l=>(k,x)::numb (k+1) l
theorem numb_mem:∀{l:List α} {k i:Nat} {x:α},(i,x)∈numb k l→k≤i∧l[i - k]? =some x
 | [],_,_,_,h=>by simp [numb] at h
 | y::l,k,i,x,h=>by
  simp only [numb,List.mem_cons,Prod.mk.injEq] at h
  rcases h with ⟨rfl,rfl⟩ | h
  ·simp
  ·obtain ⟨h1,h2⟩:=numb_mem h;refine ⟨by omega,?_⟩;rw [show i - k=(i - (k+1))+1 by omega]
   simpa using h2
theorem all_toL {p:Nat→α→Prop}:∀{t:Tree α},(∀i x,(i,x)∈Tree.toL t→p i x)→t.All p
 | .lf,_=>trivial
 | .nd l k v r,h=>⟨all_toL fun i x hx=>h i x (by simp [Tree.toL,hx]),h k v (by simp [Tree.toL]),all_toL fun i x hx=>h i x (by simp [Tree.toL,hx])⟩
theorem all_arr {t:Tree α} {l:Array α} (h:Tree.toL t=numb 0 l.toList):t.All fun i x=>l[i]? =some x:=
 all_toL fun i x hx=>by rw [← Array.getElem?_toList];exact (numb_mem (h ▸ hx)).2
end
section
open Tryz
noncomputable def tys:Tree TypeInfo:=(.nd (.nd (.nd (.nd (n31 0 t0 t1 t2 t3 t4 t5 t6 t7 t8 t9 t10 t11 t12 t13 t14 t15 t16 t17 t18 t19 t20 t21 t22 t23 t24 t25 t26 t27 t28 t29 t30) 31 t31 (n31 32 t32 t33 t34 t35 t36 t37 t38 t39 t40 t41 t42 t43 t44 t45 t46 t47 t48 t49 t50 t51 t52 t53 t54 t55 t56 t57 t58 t59 t60 t61 t62)) 63 t63 (.nd (n31 64 t64 t65 t66 t67 t68 t69 t70 t71 t72 t73 t74 t75 t76 t77 t78 t79 t80 t81 t82 t83 t84 t85 t86 t87 t88 t89 t90 t91 t92 t93 t94) 95 t95 (n31 96 t96 t97 t98 t99 t100 t101 t102 t103 t104 t105 t106 t107 t108 t109 t110 t111 t112 t113 t114 t115 t116 t117 t118 t119 t120 t121 t122 t123 t124 t125 t126))) 127 t127 (.nd (.nd (n31 128 t128 t129 t130 t131 t132 t133 t134 t135 t136 t137 t138 t139 t140 t141 t142 t143 t144 t145 t146 t147 t148 t149 t150 t151 t152 t153 t154 t155 t156 t157 t158) 159 t159 (n31 160 t160 t161 t162 t163 t164 t165 t166 t167 t168 t169 t170 t171 t172 t173 t174 t175 t176 t177 t178 t179 t180 t181 t182 t183 t184 t185 t186 t187 t188 t189 t190)) 191 t191 (.nd (n31 192 t192 t193 t194 t195 t196 t197 t198 t199 t200 t201 t202 t203 t204 t205 t206 t207 t208 t209 t210 t211 t212 t213 t214 t215 t216 t217 t218 t219 t220 t221 t222) 223 t223 (n31 224 t224 t225 t226 t227 t228 t229 t230 t231 t232 t233 t234 t235 t236 t237 t238 t239 t240 t241 t242 t243 t244 t245 t246 t247 t248 t249 t250 t251 t252 t253 t254)))) 255 t255 (.nd (.nd (.nd (n31 256 t256 t257 t258 t259 t260 t261 t262 t263 t264 t265 t266 t267 t268 t269 t270 t271 t272 t273 t274 t275 t276 t277 t278 t279 t280 t281 t282 t283 t284 t285 t286) 287 t287 (n31 288 t288 t289 t290 t291 t292 t293 t294 t295 t296 t297 t298 t299 t300 t301 t302 t303 t304 t305 t306 t307 t308 t309 t310 t311 t312 t313 t314 t315 t316 t317 t318)) 319 t319 (.nd (n31 320 t320 t321 t322 t323 t324 t325 t326 t327 t328 t329 t330 t331 t332 t333 t334 t335 t336 t337 t338 t339 t340 t341 t342 t343 t344 t345 t346 t347 t348 t349 t350) 351 t351 (n31 352 t352 t353 t354 t355 t356 t357 t358 t359 t360 t361 t362 t363 t364 t365 t366 t367 t368 t369 t370 t371 t372 t373 t374 t375 t376 t377 t378 t379 t380 t381 t382))) 383 t383 (.nd (.nd (n31 384 t384 t385 t386 t387 t388 t389 t390 t391 t392 t393 t394 t395 t396 t397 t398 t399 t400 t401 t402 t403 t404 t405 t406 t407 t408 t409 t410 t411 t412 t413 t414) 415 t415 (n31 416 t416 t417 t418 t419 t420 t421 t422 t423 t424 t425 t426 t427 t428 t429 t430 t431 t432 t433 t434 t435 t436 t437 t438 t439 t440 t441 t442 t443 t444 t445 t446)) 447 t447 (.nd (n31 448 t448 t449 t450 t451 t452 t453 t454 t455 t456 t457 t458 t459 t460 t461 t462 t463 t464 t465 t466 t467 t468 t469 t470 t471 t472 t473 t474 t475 t476 t477 t478) 479 t479 (.nd (n31 480 t480 t481 t482 t483 t484 t485 t486 t487 t488 t489 t490 t491 t492 t493 t494 t495 t496 t497 t498 t499 t500 t501 t502 t503 t504 t505 t506 t507 t508 t509 t510) 511 t511 (.nd (n15 512 t512 t513 t514 t515 t516 t517 t518 t519 t520 t521 t522 t523 t524 t525 t526) 527 t527 (.nd (n3 528 t528 t529 t530) 531 t531 .lf)))))))
noncomputable def fns:Tree Func:=(.nd (.nd (.nd (.nd (.nd (n31 0 f0 f1 f2 f3 f4 f5 f6 f7 f8 f9 f10 f11 f12 f13 f14 f15 f16 f17 f18 f19 f20 f21 f22 f23 f24 f25 f26 f27 f28 f29 f30) 31 f31 (n31 32 f32 f33 f34 f35 f36 f37 f38 f39 f40 f41 f42 f43 f44 f45 f46 f47 f48 f49 f50 f51 f52 f53 f54 f55 f56 f57 f58 f59 f60 f61 f62)) 63 f63 (n31 64 f64 f65 f66 f67 f68 f69 f70 f71 f72 f73 f74 f75 f76 f77 f78 f79 f80 f81 f82 f83 f84 f85 f86 f87 f88 f89 f90 f91 f92 f93 f94)) 95 f95 (.nd (n31 96 f96 f97 f98 f99 f100 f101 f102 f103 f104 f105 f106 f107 f108 f109 f110 f111 f112 f113 f114 f115 f116 f117 f118 f119 f120 f121 f122 f123 f124 f125 f126) 127 f127 (n31 128 f128 f129 f130 f131 f132 f133 f134 f135 f136 f137 f138 f139 f140 f141 f142 f143 f144 f145 f146 f147 f148 f149 f150 f151 f152 f153 f154 f155 f156 f157 f158))) 159 f159 (.nd (.nd (.nd (n31 160 f160 f161 f162 f163 f164 f165 f166 f167 f168 f169 f170 f171 f172 f173 f174 f175 f176 f177 f178 f179 f180 f181 f182 f183 f184 f185 f186 f187 f188 f189 f190) 191 f191 (n31 192 f192 f193 f194 f195 f196 f197 f198 f199 f200 f201 f202 f203 f204 f205 f206 f207 f208 f209 f210 f211 f212 f213 f214 f215 f216 f217 f218 f219 f220 f221 f222)) 223 f223 (n31 224 f224 f225 f226 f227 f228 f229 f230 f231 f232 f233 f234 f235 f236 f237 f238 f239 f240 f241 f242 f243 f244 f245 f246 f247 f248 f249 f250 f251 f252 f253 f254)) 255 f255 (.nd (n31 256 f256 f257 f258 f259 f260 f261 f262 f263 f264 f265 f266 f267 f268 f269 f270 f271 f272 f273 f274 f275 f276 f277 f278 f279 f280 f281 f282 f283 f284 f285 f286) 287 f287 (n31 288 f288 f289 f290 f291 f292 f293 f294 f295 f296 f297 f298 f299 f300 f301 f302 f303 f304 f305 f306 f307 f308 f309 f310 f311 f312 f313 f314 f315 f316 f317 f318)))) 319 f319 (.nd (.nd (.nd (.nd (n31 320 f320 f321 f322 f323 f324 f325 f326 f327 f328 f329 f330 f331 f332 f333 f334 f335 f336 f337 f338 f339 f340 f341 f342 f343 f344 f345 f346 f347 f348 f349 f350) 351 f351 (n31 352 f352 f353 f354 f355 f356 f357 f358 f359 f360 f361 f362 f363 f364 f365 f366 f367 f368 f369 f370 f371 f372 f373 f374 f375 f376 f377 f378 f379 f380 f381 f382)) 383 f383 (n31 384 f384 f385 f386 f387 f388 f389 f390 f391 f392 f393 f394 f395 f396 f397 f398 f399 f400 f401 f402 f403 f404 f405 f406 f407 f408 f409 f410 f411 f412 f413 f414)) 415 f415 (.nd (n31 416 f416 f417 f418 f419 f420 f421 f422 f423 f424 f425 f426 f427 f428 f429 f430 f431 f432 f433 f434 f435 f436 f437 f438 f439 f440 f441 f442 f443 f444 f445 f446) 447 f447 (n31 448 f448 f449 f450 f451 f452 f453 f454 f455 f456 f457 f458 f459 f460 f461 f462 f463 f464 f465 f466 f467 f468 f469 f470 f471 f472 f473 f474 f475 f476 f477 f478))) 479 f479 (.nd (.nd (.nd (n31 480 f480 f481 f482 f483 f484 f485 f486 f487 f488 f489 f490 f491 f492 f493 f494 f495 f496 f497 f498 f499 f500 f501 f502 f503 f504 f505 f506 f507 f508 f509 f510) 511 f511 (n31 512 f512 f513 f514 f515 f516 f517 f518 f519 f520 f521 f522 f523 f524 f525 f526 f527 f528 f529 f530 f531 f532 f533 f534 f535 f536 f537 f538 f539 f540 f541 f542)) 543 f543 (n31 544 f544 f545 f546 f547 f548 f549 f550 f551 f552 f553 f554 f555 f556 f557 f558 f559 f560 f561 f562 f563 f564 f565 f566 f567 f568 f569 f570 f571 f572 f573 f574)) 575 f575 (.nd (n31 576 f576 f577 f578 f579 f580 f581 f582 f583 f584 f585 f586 f587 f588 f589 f590 f591 f592 f593 f594 f595 f596 f597 f598 f599 f600 f601 f602 f603 f604 f605 f606) 607 f607 (.nd (n31 608 f608 f609 f610 f611 f612 f613 f614 f615 f616 f617 f618 f619 f620 f621 f622 f623 f624 f625 f626 f627 f628 f629 f630 f631 f632 f633 f634 f635 f636 f637 f638) 639 f639 (.nd (n7 640 f640 f641 f642 f643 f644 f645 f646) 647 f647 (.nd (n3 648 f648 f649 f650) 651 f651 (.nd (n1 652 f652) 653 f653 .lf))))))))
end
theorem tysOk:tys.All fun i d=>Tryz.prog.types[i]? =some d:=all_arr (by kernel_rfl)
theorem fnsOk:fns.All fun i fn=>Tryz.prog.funcs[i]? =some fn:=all_arr (by kernel_rfl)
theorem ti {i:Nat} {d:TypeInfo} (h:tys.get i=some d):Tryz.prog.info? i=some d:=by
 have h:=tysOk.get h;have hl:i<Tryz.prog.types.size:=(Array.getElem?_eq_some_iff.1 h).1;simp only [Tables.info?,hl,if_true];exact h
noncomputable def TT:Tab where
 info t:=tys.get t
 und t:=match tys.get t with
  | some i=>match i.desc with
   | .named _ u=>match tys.get u with
    | some j=>some j.desc
    | none=>none
   | d=>some d
  | none=>none
 trk t:=match Nat.beq t 319 with
  | true=>true
  | false=>Nat.beq t 351
theorem tok:TOk Tryz.prog TT where
 info t i h:=ti h
 und t d h:=by
  simp only [TT] at h;unfold Program.underlying;split at h
  ·rename_i i hi;rw [ti hi];split at h
   ·rename_i nm u hd;split at h
    ·rename_i j hj;simp at h;subst h;obtain ⟨desc,a1,a2,a3,a4,a5,a6,a7,a8,a9⟩:=i;simp only at hd;subst hd;simp [ti hj]
    ·simp at h
   ·rename_i hne;simp at h;subst h;obtain ⟨desc,a1,a2,a3,a4,a5,a6,a7,a8,a9⟩:=i;simp only at hne ⊢
    cases desc<;>simp_all
  ·simp at h
theorem wfB:tys.allB (fun t _=>match TT.und t with
 | some (.struct fields)=>fields.toList.all fun f=>(szOf TT f.type).isSome
 | _=>true)=true:=by kernel_rfl
theorem wf:WFP TT:=by
 intro t fields h f hf;have ht:∃i,tys.get t=some i:=by
  simp only [TT] at h;split at h
  ·rename_i i hi;exact ⟨i,hi⟩
  ·simp at h
 obtain ⟨i,hi⟩:=ht;have:=Tree.allB_get wfB hi;rw [h] at this;simp only [List.all_eq_true] at this;exact this f (Array.mem_toList_iff.2 hf)
theorem mix:Tryz.prog.follows .mixedOrders=true:=by kernel_rfl
theorem namesB:fns.allB (fun _ fn=> !(fn.name== "runtime.NumGoroutine"))=true:=by kernel_rfl
theorem funcOk:∀f fn,fns.get f=some fn→Tryz.prog.funcs[f]? =some fn∧fn.name≠ "runtime.NumGoroutine" :=by
 intro f fn h;refine ⟨fnsOk.get h,fun e=> ?_⟩;have:=Tree.allB_get namesB h;simp [e] at this
end Go.Sx.E1
namespace Go.Sx.E1
open Go.Proofs
def vi (n:Int):Value:= .int .i64 n
def vs (l:List Nat):Value:= .string ⟨(l.map UInt8.ofNat).toArray⟩
def vn:Value:= .slice none 0 0
def vf (f:Nat):Value:= .func (.func f) #[] #[]
def i (n:Int):LV:= .p (.vl (.int .i64 n))
def s (l:List Nat):LV:= .p (.vl (vs l))
def b (x:Bool):LV:= .p (.vl (.bool x))
def nl:LV:= .p (.vl vn)
def o (x:LV):RV:= .v (.one x)
def a (l:List LV):RV:= .v (.agg l)
noncomputable def ents:Tree (List Ent):=(.nd (.nd (.nd (.nd (.nd .lf 4
 [⟨90,[],o (b true)⟩] .lf) 14
 [⟨13,[o (s [99,111,110,99,97,116]),o (s []),o (.p (.sl 2 [(.vl (vi 2)),(.vl (vi 1)),(.vl (vi 1)),(.vl (vi 8)),(.vl (vs [97])),(.vl (vs [97])),(.vl (vi 1)),(.vl (vi 0)),(.vl (vi 0)),(.vl (vi 0)),(.vl (vi 1)),(.vl (vi 0)),(.vl (vi 0)),(.vl (vi 1)),(.vl (vi 0)),(.vl vn),(.vl vn),(.vl (.bool false)),(.vl (vi 2)),(.vl (vi 2)),(.vl (vi 2)),(.vl (vi 10)),(.vl (vs [98,49])),(.vl (vs [98,49])),(.vl (vi 1)),(.vl (vi 0)),(.vl (vi 0)),(.vl (vi 0)),(.vl (vi 1)),(.vl (vi 0)),(.vl (vi 0)),(.vl (vi 1)),(.vl (vi 0)),(.vl vn),(.vl vn),(.vl (.bool false))]))],o (s [116,101,120,116,40,51,32,51,32,49,48,32,51,58,97,98,49,32,51,58,97,98,49,41])⟩,
 ⟨18,[o (s [108,101,110,103,116,104]),o (s []),o (.p (.sl 1 [(.vl (vi 2)),(.vl (vi 2)),(.vl (vi 5)),(.vl (vi 110)),(.vl (vs [])),(.vl (vs [])),(.vl (vi 1)),(.vl (vi 0)),(.vl (vi 0)),(.vl (vi 0)),(.vl (vi 1)),(.vl (vi 0)),(.vl (vi 0)),(.vl (vi 1)),(.vl (vi 0)),(.vl vn),(.vl vn),(.vl (.bool false))]))],o (s [110,117,109,98,101,114,40,50,46,46,53,41])⟩,
 ⟨73,[o (s [97,100,100]),o (s []),o (.p (.sl 2 [(.vl (vi 4)),(.vl (vi 1)),(.vl (vi 0)),(.vl (vi 0)),(.vl (vs [])),(.vl (vs [])),(.vl (vi 1)),(.vl (vi 0)),(.vl (vi 2)),(.vl (vi 0)),(.vl (vi 1)),(.vl (vi 0)),(.vl (vi 0)),(.vl (vi 1)),(.vl (vi 0)),(.vl vn),(.vl vn),(.vl (.bool false)),(.vl (vi 4)),(.vl (vi 1)),(.vl (vi 0)),(.vl (vi 0)),(.vl (vs [])),(.vl (vs [])),(.vl (vi 10)),(.vl (vi 0)),(.vl (vi 20)),(.vl (vi 0)),(.vl (vi 1)),(.vl (vi 0)),(.vl (vi 0)),(.vl (vi 1)),(.vl (vi 0)),(.vl vn),(.vl vn),(.vl (.bool false))]))],o (s [110,117,109,98,101,114,40,49,49,46,46,50,50,41])⟩,
 ⟨75,[o (s [108,101,115,115]),o (s []),o (.p (.sl 2 [(.vl (vi 4)),(.vl (vi 1)),(.vl (vi 0)),(.vl (vi 0)),(.vl (vs [])),(.vl (vs [])),(.vl (vi 1)),(.vl (vi 0)),(.vl (vi 2)),(.vl (vi 0)),(.vl (vi 1)),(.vl (vi 0)),(.vl (vi 0)),(.vl (vi 1)),(.vl (vi 0)),(.vl vn),(.vl vn),(.vl (.bool false)),(.vl (vi 4)),(.vl (vi 1)),(.vl (vi 0)),(.vl (vi 0)),(.vl (vs [])),(.vl (vs [])),(.vl (vi 5)),(.vl (vi 0)),(.vl (vi 9)),(.vl (vi 0)),(.vl (vi 1)),(.vl (vi 0)),(.vl (vi 0)),(.vl (vi 1)),(.vl (vi 0)),(.vl vn),(.vl vn),(.vl (.bool false))]))],o (s [98,111,111,108,40,50,41])⟩,
 ⟨77,[o (s [108,101,115,115]),o (s []),o (.p (.sl 2 [(.vl (vi 4)),(.vl (vi 1)),(.vl (vi 0)),(.vl (vi 0)),(.vl (vs [])),(.vl (vs [])),(.vl (vi 1)),(.vl (vi 0)),(.vl (vi 5)),(.vl (vi 0)),(.vl (vi 1)),(.vl (vi 0)),(.vl (vi 0)),(.vl (vi 1)),(.vl (vi 0)),(.vl vn),(.vl vn),(.vl (.bool false)),(.vl (vi 4)),(.vl (vi 1)),(.vl (vi 0)),(.vl (vi 0)),(.vl (vs [])),(.vl (vs [])),(.vl (vi 5)),(.vl (vi 0)),(.vl (vi 9)),(.vl (vi 0)),(.vl (vi 1)),(.vl (vi 0)),(.vl (vi 0)),(.vl (vi 1)),(.vl (vi 0)),(.vl vn),(.vl vn),(.vl (.bool false))]))],o (s [98,111,111,108,40,51,41])⟩,
 ⟨87,[o (s [112,97,114,115,101]),o (s []),o (.p (.sl 1 [(.vl (vi 2)),(.vl (vi 0)),(.vl (vi 200)),(.vl (vi 110)),(.vl (vs [])),(.vl (vs [])),(.vl (vi 1)),(.vl (vi 0)),(.vl (vi 0)),(.vl (vi 0)),(.vl (vi 1)),(.vl (vi 0)),(.vl (vi 0)),(.vl (vi 1)),(.vl (vi 0)),(.vl vn),(.vl vn),(.vl (.bool false))]))],o (s [110,117,109,98,101,114,40,45,49,48,48,48,48,48,48,48,48,48,48,48,48,48,48,48,46,46,49,48,48,48,48,48,48,48,48,48,48,48,48,48,48,48,41,32,101,114,114,111,114])⟩,
 ⟨89,[o (s [110,111,116]),o (s []),o (.p (.sl 1 [(.vl (vi 4)),(.vl (vi 1)),(.vl (vi 0)),(.vl (vi 0)),(.vl (vs [])),(.vl (vs [])),(.vl (vi 1)),(.vl (vi 0)),(.vl (vi 1)),(.vl (vi 0)),(.vl (vi 1)),(.vl (vi 0)),(.vl (vi 0)),(.vl (vi 1)),(.vl (vi 0)),(.vl vn),(.vl vn),(.vl (.bool false))]))],o (s [101,114,114,111,114])⟩] .lf) 15
 [⟨6,[o (s [97])],a [i 2,i 1,i 1,i 8,s [97],s [97],i 1,i 0,i 0,i 0,i 1,i 0,i 0,i 1,i 0,nl,nl,b false]⟩,
 ⟨8,[o (s [98,49])],a [i 2,i 2,i 2,i 10,s [98,49],s [98,49],i 1,i 0,i 0,i 0,i 1,i 0,i 0,i 1,i 0,nl,nl,b false]⟩,
 ⟨14,[o (s [97,98,49])],a [i 2,i 3,i 3,i 10,s [97,98,49],s [97,98,49],i 1,i 0,i 0,i 0,i 1,i 0,i 0,i 1,i 0,nl,nl,b false]⟩] (.nd (.nd .lf 16
 [⟨12,[a [i 2,i 3,i 3,i 10,s [97,98,49],s [97,98,49],i 1,i 0,i 0,i 0,i 1,i 0,i 0,i 1,i 0,nl,nl,b false]],o (s [116,101,120,116,40,51,32,51,32,49,48,32,51,58,97,98,49,32,51,58,97,98,49,41])⟩,
 ⟨72,[a [i 4,i 1,i 0,i 0,s [],s [],i 11,i 0,i 22,i 0,i 1,i 0,i 0,i 1,i 0,nl,nl,b false]],o (s [110,117,109,98,101,114,40,49,49,46,46,50,50,41])⟩] .lf) 17
 [⟨21,[o (i 10),o (i 20)],a [i 4,i 1,i 0,i 0,s [],s [],i 10,i 0,i 20,i 0,i 1,i 0,i 0,i 1,i 0,nl,nl,b false]⟩,
 ⟨74,[o (i 5),o (i 9)],a [i 4,i 1,i 0,i 0,s [],s [],i 5,i 0,i 9,i 0,i 1,i 0,i 0,i 1,i 0,nl,nl,b false]⟩,
 ⟨76,[o (i 1),o (i 5)],a [i 4,i 1,i 0,i 0,s [],s [],i 1,i 0,i 5,i 0,i 1,i 0,i 0,i 1,i 0,nl,nl,b false]⟩] .lf)) 48
 [⟨71,[a [i 4,i 0,i 0,i 0,s [],s [],i 11,i 0,i 22,i 0,i 0,i 0,i 0,i 0,i 0,nl,nl,b false]],a [i 4,i 1,i 0,i 0,s [],s [],i 11,i 0,i 22,i 0,i 1,i 0,i 0,i 1,i 0,nl,nl,b false]⟩] (.nd (.nd (.nd .lf 54
 [⟨4,[a [i 2,i 5,i 110,s [],s []]],o (b false)⟩,
 ⟨10,[a [i 3,i 3,i 10,s [97,98,49],s [97,98,49]]],o (b false)⟩] .lf) 57
 [⟨2,[a [i 0,i 0,i 0,i 0]],o (b false)⟩,
 ⟨11,[a [i 1,i 0,i 0,i 0]],o (b true)⟩] .lf) 64
 [⟨88,[a [i 1,i 0,i 2,i 0]],o (s [49,46,46,50])⟩] (.nd (.nd .lf 69
 [⟨81,[],a [i (-1000000000000000),i 0,i 1000000000000000,i 0]⟩] .lf) 130
 [⟨0,[a [i 0,i 0,i 0,s [],s []],o (i 0)],.tup [.one (s []),.one (b true)]⟩,
 ⟨3,[a [i 2,i 5,i 110,s [],s []],o (i 2)],.tup [.one (s [32,32]),.one (b true)]⟩,
 ⟨5,[a [i 1,i 1,i 8,s [97],s [97]],o (i 1)],.tup [.one (s [97]),.one (b true)]⟩,
 ⟨7,[a [i 2,i 2,i 10,s [98,49],s [98,49]],o (i 2)],.tup [.one (s [98,49]),.one (b true)]⟩,
 ⟨9,[a [i 3,i 3,i 10,s [97,98,49],s [97,98,49]],o (i 3)],.tup [.one (s [97,98,49]),.one (b true)]⟩,
 ⟨82,[a [i 0,i 200,i 110,s [],s []],o (i 0)],.tup [.one (s []),.one (b true)]⟩] .lf))) 136
 [⟨16,[a [i 2,i 0],a [i 2,i 0]],o (i 0)⟩,
 ⟨19,[a [i 1,i 0],a [i 2,i 0]],o (i (-1))⟩,
 ⟨20,[a [i 1,i 0],a [i 1,i 0]],o (i 0)⟩,
 ⟨80,[a [i (-1000000000000000),i 0],a [i 1000000000000000,i 0]],o (i (-1))⟩] (.nd (.nd (.nd (.nd .lf 238
 [⟨70,[a [i 1,i 0,i 2,i 0],a [i 10,i 0,i 20,i 0]],.tup [.agg [i 11,i 0,i 22,i 0],.one (b true)]⟩] .lf) 270
 [⟨86,[o (s [3,141,126,164,198,128,0])],o (s [49,48,48,48,48,48,48,48,48,48,48,48,48,48,48,48])⟩] .lf) 276
 [⟨78,[o (i (-1000000000000000))],o (s [3,141,126,164,198,128,0])⟩] (.nd (.nd .lf 383
 [⟨1,[o (i 1)],o (s [1])⟩,
 ⟨15,[o (i 2)],o (s [2])⟩,
 ⟨17,[o (i 10)],o (s [10])⟩,
 ⟨83,[o (i 10000)],o (s [39,16])⟩,
 ⟨84,[o (i 1000)],o (s [3,232])⟩,
 ⟨85,[o (i 100)],o (s [100])⟩] .lf) 384
 [⟨79,[o (s [3,141,126,164,198,128,0]),o (s [1])],o (s [3,141,126,164,198,128,0])⟩] .lf)) 477
 [⟨26,[o (s [1]),o (s [1])],o (s [1])⟩,
 ⟨27,[o (s [10]),o (s [1])],o (s [10])⟩,
 ⟨33,[o (s [20]),o (s [1])],o (s [20])⟩,
 ⟨37,[o (s [21]),o (s [1])],o (s [21])⟩,
 ⟨38,[o (s [11]),o (s [1])],o (s [11])⟩,
 ⟨42,[o (s [2]),o (s [1])],o (s [2])⟩,
 ⟨46,[o (s [12]),o (s [1])],o (s [12])⟩,
 ⟨54,[o (s [22]),o (s [1])],o (s [22])⟩,
 ⟨59,[o (s [59,154,202,0]),o (s [1])],o (s [59,154,202,0])⟩,
 ⟨66,[o (s [11]),o (s [15,66,64])],o (s [167,216,192])⟩,
 ⟨68,[o (s [22]),o (s [15,66,64])],o (s [1,79,177,128])⟩] (.nd (.nd (.nd .lf 479
 [⟨28,[o (s [1]),o (s [10])],o (s [11])⟩,
 ⟨34,[o (s [1]),o (s [20])],o (s [21])⟩,
 ⟨43,[o (s [2]),o (s [10])],o (s [12])⟩,
 ⟨51,[o (s [2]),o (s [20])],o (s [22])⟩,
 ⟨57,[o (s [59,154,201,255]),o (s [1])],o (s [59,154,202,0])⟩,
 ⟨60,[o (s [11]),o (s [59,154,202,0])],o (s [59,154,202,11])⟩] .lf) 480
 [⟨39,[o (s [21]),o (s [11])],.tup [.one (s [10]),.one (b true)]⟩,
 ⟨47,[o (s [12]),o (s [11])],.tup [.one (s [1]),.one (b true)]⟩,
 ⟨48,[o (s [21]),o (s [12])],.tup [.one (s [9]),.one (b true)]⟩,
 ⟨55,[o (s [22]),o (s [11])],.tup [.one (s [11]),.one (b true)]⟩,
 ⟨56,[o (s [22]),o (s [21])],.tup [.one (s [1]),.one (b true)]⟩,
 ⟨63,[o (s [59,154,202,0]),o (s [22])],.tup [.one (s [59,154,201,234]),.one (b true)]⟩] .lf) 544
 [⟨22,[o (s [1]),o (s [1])],o (s [1])⟩,
 ⟨24,[o (s [10]),o (s [1])],o (s [1])⟩,
 ⟨29,[o (s [11]),o (s [1])],o (s [1])⟩,
 ⟨31,[o (s [20]),o (s [1])],o (s [1])⟩,
 ⟨35,[o (s [21]),o (s [1])],o (s [1])⟩,
 ⟨40,[o (s [2]),o (s [1])],o (s [1])⟩,
 ⟨44,[o (s [12]),o (s [1])],o (s [1])⟩,
 ⟨49,[o (s [9]),o (s [1])],o (s [1])⟩,
 ⟨52,[o (s [22]),o (s [1])],o (s [1])⟩,
 ⟨58,[o (s [59,154,202,0]),o (s [1])],o (s [1])⟩,
 ⟨61,[o (s [59,154,202,11]),o (s [1])],o (s [1])⟩,
 ⟨64,[o (s [59,154,201,234]),o (s [1])],o (s [1])⟩] (.nd .lf 545
 [⟨23,[o (s [1]),o (s [1])],.tup [.one (s [1]),.one (s []),.one (b true)]⟩,
 ⟨25,[o (s [10]),o (s [1])],.tup [.one (s [10]),.one (s []),.one (b true)]⟩,
 ⟨30,[o (s [11]),o (s [1])],.tup [.one (s [11]),.one (s []),.one (b true)]⟩,
 ⟨32,[o (s [20]),o (s [1])],.tup [.one (s [20]),.one (s []),.one (b true)]⟩,
 ⟨36,[o (s [21]),o (s [1])],.tup [.one (s [21]),.one (s []),.one (b true)]⟩,
 ⟨41,[o (s [2]),o (s [1])],.tup [.one (s [2]),.one (s []),.one (b true)]⟩,
 ⟨45,[o (s [12]),o (s [1])],.tup [.one (s [12]),.one (s []),.one (b true)]⟩,
 ⟨50,[o (s [9]),o (s [1])],.tup [.one (s [9]),.one (s []),.one (b true)]⟩,
 ⟨53,[o (s [22]),o (s [1])],.tup [.one (s [22]),.one (s []),.one (b true)]⟩,
 ⟨62,[o (s [59,154,202,11]),o (s [1])],.tup [.one (s [59,154,202,11]),.one (s []),.one (b true)]⟩,
 ⟨65,[o (s [59,154,201,234]),o (s [1])],.tup [.one (s [59,154,201,234]),.one (s []),.one (b true)]⟩,
 ⟨67,[o (s [167,216,192]),o (s [1])],.tup [.one (s [167,216,192]),.one (s []),.one (b true)]⟩,
 ⟨69,[o (s [1,79,177,128]),o (s [1])],.tup [.one (s [1,79,177,128]),.one (s []),.one (b true)]⟩] .lf))))
noncomputable def ownT:Tree Unit:=(.nd (.nd (.nd (.nd .lf 542 () .lf) 543 () (.nd .lf 547 () .lf)) 550 () (.nd (.nd .lf 583 () .lf) 584 () .lf)) 585 () (.nd (.nd (.nd .lf 603 () .lf) 604 () (.nd .lf 606 () .lf)) 607 () (.nd (.nd .lf 608 () .lf) 609 () .lf)))
noncomputable def ownF (f:FuncId):Bool:=match Nat.beq f 568 with
 | true=>true
 | false=>match ownT.get f with
 | some _=>true
 | none=>false
def i64s (l:List Int):List Value:=l.map fun n=> .int .i64 n
class MaxL where
 m:Int
def GG [MaxL]:Globs:=fun g=>match g with
 | 0=>some (i64s [1,10,100,1000,10000,100000,1000000])
 | 4=>some (i64s [1,10,100,1000,10000,100000,1000000])
 | 1=>some [.int .i64 MaxL.m]
 | 6=>some (i64s [31,28,31,30,31,30,31,31,30,31,30,31])
 | 11=>some ([1,10,100,1000,10000,100000,1000000,10000000,100000000,1000000000,10000000000,100000000000,1000000000000,10000000000000,100000000000000,1000000000000000,10000000000000000,100000000000000000,1000000000000000000,10000000000000000000].map fun n=> .int .u64 n)
 | _=>none
def strR:RV→Option ByteArray
 | .v (.one (.p (.vl (.string s))))=>some s
 | _=>none
def prim (f:FuncId) (args:List RV):Option RV:=match Nat.beq f 610 with
 | true=>match args with
  | [x,y]=>match strR x,strR y with
   | some x,some y=>some (atR (goInt (Extern.BytealgCompare.cmp x y)))
   | _,_=>none
  | _=>none
 | false=>none
noncomputable def CC [MaxL] (bound:Nat):Conf:={P:=Tryz.prog,T:=TT,G:=GG,func:=fun f=>fns.get f,own:=ownF,val:=tabVal ents bound prim}
end Go.Sx.E1
namespace Go.Sx.E1
open Go.Proofs
variable [MaxL]
theorem cmp617 (a b:ByteArray) (w:World):(callFunc 617 #[.string a,.string b]).run Tryz.prog w= .ok (.value (goInt (Extern.BytealgCompare.cmp a b))) w:=by
 rfl
theorem compareC (x y:ByteArray):ValC Tryz.prog GG 610 [atR (.string x),atR (.string y)] (·=atR (goInt (Extern.BytealgCompare.cmp x y))):=by
 refine .inl ⟨⟨Tryz.f610,Tryz.func610,rfl,(funcOk 610 _ (by kernel_rfl)).2⟩,fun A S w vs hs hvs c cs=> ?_⟩;obtain ⟨v1,vs1,rfl,h1,hvs1⟩:=hvs.uncons;obtain ⟨v2,vs2,rfl,h2,hvs2⟩:=hvs1.uncons;obtain rfl:=hvs2.nil_inv;cases h1;cases h2
 let r:=goInt (Extern.BytealgCompare.cmp x y)
 let fb:Frame:={fn:=610,tmps:=#[],todo:=[],defers:=[],mode:= .run,kind:= .normal,roundOf:=none}
 let t0:Array Value:=#[.string x,.string y,undef,undef,undef,undef,undef,undef]
 refine ⟨atR r,[],r,A,S,w,⟨atR r,[],rfl,rfl⟩,?_,EncP.vl _ rfl,hs,Ext.refl⟩;have henter:Frame.enter Tryz.prog 610 #[.string x,.string y] .normal=Fr fb t0 [.code (Tryz.f610.body.getD .skip)]:=by
  simp [Frame.enter,Fr,Tryz.func610,fb,t0];rfl
 have hexec:∀(t:Array Value) (ps:String) (af:Array Edge),evT t (.tmp 5)= .string x→evT t (.tmp 6)= .string y→(execOp (evT t) {dst:=some 7,op:= .call {callee:= .value (.func 617),args:=#[.tmp 5,.tmp 6],argTypes:=#[9,9]},type:=3,pos:=ps,after:=af,guard:=none}).run Tryz.prog w= .ok (.value r) w:=by
  intro t ps af e5 e6;show (Sem.run Tryz.prog (do let d ← resolve (evT t) {callee:= .value (.func 617),args:=#[.tmp 5,.tmp 6],argTypes:=#[9,9]} 3;invoke d.target d.args) w)=_;have ha:(#[Operand.tmp 5,Operand.tmp 6]:Array Operand).map (evT t)=#[.string x,.string y]:=by simp [e5,e6]
  have hd:(resolve (evT t) {callee:= .value (.func 617),args:=#[.tmp 5,.tmp 6],argTypes:=#[9,9]} 3).run Tryz.prog w= .ok {target:= .fn (.func 617) #[],args:=#[.string x,.string y]} w:=by
   simp [resolve,Deferred.ofValue,evT,ha]
  simp only [Sem.run_bind,hd,Result.andThen_ok,invoke];exact cmp617 x y w
 let t1:Array Value:=#[.string x,.string y,undef,undef,.int .i64 0,undef,undef,undef]
 let t2:Array Value:=#[.string x,.string y,undef,undef,.int .i64 0,.string x,undef,undef]
 let t3:Array Value:=#[.string x,.string y,undef,undef,.int .i64 0,.string x,.string y,undef]
 let t4:Array Value:=#[.string x,.string y,undef,undef,.int .i64 0,.string x,.string y,r]
 let t5:Array Value:=#[.string x,.string y,undef,undef,r,.string x,.string y,r]
 show Steps Tryz.prog (lone (Frame.enter Tryz.prog 610 #[.string x,.string y] .normal) (c::cs) w) _;rw [henter];refine .head fr_seq ?_;refine .head fr_region ?_;refine .head (fr_opValue (v:= .int .i64 0) (w':=w) rfl rfl rfl rfl) ?_;refine .head fr_regionEnd ?_;refine .head fr_seq ?_;refine .head fr_region ?_;refine .head (fr_opValue (v:= .string x) (w':=w) rfl rfl rfl rfl) ?_;refine .head (fr_opValue (v:= .string y) (w':=w) rfl rfl rfl rfl) ?_;refine .head (fr_opValue (v:=r) (w':=w) rfl rfl rfl (hexec _ _ _ rfl rfl)) ?_;refine .head (fr_opValue (v:=r) (w':=w) rfl rfl rfl rfl) ?_;refine .head fr_regionEnd ?_;refine .head (fr_ret rfl) ?_;refine Sx.Steps.one' (step_leave_returned ⟨rfl,rfl,rfl,Tryz.f610,Tryz.func610,?_⟩)
 kernel_rfl
theorem primOk:∀f args r,prim f args=some r→ValC Tryz.prog GG f args (·=r):=by
 intro f args r h;unfold prim at h;split at h
 ·rename_i hf;have:=Nat.eq_of_beq_eq_true hf;subst this;split at h
  ·split at h
   ·rename_i x y a b hx hy;simp at h;subst h;unfold strR at hx hy;split at hx
    ·simp at hx;subst hx;split at hy
     ·simp at hy;subst hy;exact compareC _ _
     ·simp at hy
    ·simp at hx
   ·simp at h
  ·simp at h
 ·simp at h
end Go.Sx.E1
namespace Go.Sx.E1
open Go.Proofs
instance:TOk Tryz.prog TT:=tok
theorem nm {f:Nat} {fn:Func} (h:fns.get f=some fn):fn.name≠ "runtime.NumGoroutine" :=(funcOk f fn h).2
def u:RV:= .tup []
def right04 (N S:Int):Bool:=decide (S≥0) && (decide (S≤6) && (decide (N≥-1000000000000000) && (decide (N≤1000000000000000) && (S==0 || N.tmod 10 !=0))))
end Go.Sx.E1
namespace Go.Sx.E1
open Go.Proofs
variable [MaxL]
theorem kv {f:FuncId} {args:List RV} {r:RV} (h:valOf (callN (CC 0) 3000 60) f args=some r):ValC Tryz.prog GG f args (·=r):=
 ValC.of_run (C:=CC 0) (Conf.Base.ok (prim:=prim) ⟨tok,wf,mix,funcOk,primOk,by intro _ _ _ _ _ h;cases h⟩ EntOk.zero rfl) h
end Go.Sx.E1
namespace Go.Sx.E1
open Go.Proofs
def TextOk (s:ByteArray):Prop:=(s.size:Int)≤200∧∀j:Int,0≤j→j<s.size→32≤byteAt s j∧byteAt s j≤126
def RightC (k:Int) (s:ByteArray) (dn ds n:Int):Prop:=
 (k=0∧s=⟨#[]⟩∧dn=0∧ds=0∧0≤n∧n≤99)∨(k=1∧TextOk s∧dn=0∧ds=0∧n=0)∨(k=2∧s=⟨#[]⟩∧right04 dn ds=true∧n=0)∨
 (k=3∧s=⟨#[]⟩∧dn=0∧ds=0∧0≤n∧n≤3652058)∨(k=4∧s=⟨#[]⟩∧dn=0∧ds=0∧0≤n∧n≤1)
def nlP:PV:= .vl (.slice none 0 0)
def sv (s:ByteArray):LV:= .p (.vl (.string s))
structure Cel where
 k:Int
 s:ByteArray
 dn:Int
 ds:Int
 n:Int
 ok:RightC k s dn ds n
instance:Inhabited Cel:=⟨⟨0,⟨#[]⟩,0,0,0,.inl ⟨rfl,rfl,rfl,rfl,by decide,by decide⟩⟩⟩
def encC (c:Cel):List PV:=[.vl (.int .i64 c.k),.vl (.string c.s),.vl (.int .i64 c.dn),.vl (.int .i64 c.ds),.vl (.int .i64 c.n),.vl (.slice none 0 0),.vl (.slice none 0 0)]
theorem Cel.ne5 (c:Cel) (h:c.k=5):False:=by
 have:=c.ok;unfold RightC at this;omega
structure Row (w:Nat) where
 x:PV
 R:List Cel
 h:IsS encC R x
 hw:R.length=w
def Row.mk0 (w:Nat):Row w:=⟨.sl (List.replicate w default).length ((List.replicate w default).flatMap encC),List.replicate w default,.sl,by simp⟩
instance {w:Nat}:Inhabited (Row w):=⟨Row.mk0 w⟩
def encRow {w:Nat} (r:Row w):List PV:=[r.x]
structure Dp where
 x:PV
 F:List ByteArray
 t:ByteArray
 h:IsS encS F x
 hw:F.length≤100
instance:Inhabited Dp:=⟨⟨nlP,[],⟨#[]⟩,.nil rfl,by decide⟩⟩
def encD (d:Dp):List PV:=[d.x,.vl (.string d.t)]
end Go.Sx.E1
namespace Go.Sx.E1
open Go.Proofs
theorem bt2 (b:Bool):b=false∨b=true:=by cases b<;>simp
noncomputable abbrev Bd (fn:Func):Code:=fn.body.getD .skip
theorem Bd_ok {fn:Func} (h:fn.body.isSome=true):fn.body=some (Bd fn):=by
 unfold Bd;cases h2:fn.body with
 | none=>rw [h2] at h;cases h
 | some c=>rfl
variable [MaxL]
section
variable {n:Nat} {fn:FuncId} {Q:St→Prop} {z:Z}
abbrev X (n:Nat) (fn:FuncId) (z:Z) (Q:St→Prop):Prop:=FX Tryz.prog TT GG n fn z Q
theorem yO (m:Nat) (F:List Ob→Option (RV×List Ob)) {r:RV} {hp:List Ob} (h2:F (hsZ Tryz.prog TT GG m z)=some (r,hp)) (hf:X n fn (nxZ Tryz.prog TT GG m z r hp) Q) (h1:opZ Tryz.prog TT GG m z=F (hsZ Tryz.prog TT GG m z):=by kernel_rfl):X n fn z Q:=FX.op wf m F h1 h2 hf
theorem yL (m:Nat) {α:Type} {enc:α→List PV} {L:List α} {x:PV} (hl:IsS enc L x) (hf:X n fn (nxZ Tryz.prog TT GG m z (o (i L.length)) (hsZ Tryz.prog TT GG m z)) Q) (h:lenZ Tryz.prog TT GG m z=some x:=by kernel_rfl):X n fn z Q:=FX.len wf m hl h hf
theorem yI (m:Nat) (k:Int) {α:Type} {enc:α→List PV} {L:List α} {x:PV} {s:Nat} [Wid enc s] (hl:IsS enc L x)
  (hf:X n fn (nxZ Tryz.prog TT GG m z (o (.pref (L.flatMap enc) (k.toNat*s))) (hsZ Tryz.prog TT GG m z)) Q) (h0:0≤k:=by omega) (h1:k<L.length:=by omega) (h:idxZ Tryz.prog TT GG m z=some (x,k,s):=by kernel_rfl):X n fn z Q:=FX.idx wf m k hl h0 h1 h hf
theorem yG (m:Nat) {α:Type} (enc:α→List PV) (L:List α) (k:Int) {s:Nat} [Wid enc s] [Inhabited α]
  (hf:X n fn (nxZ Tryz.prog TT GG m z (o (.p (hd (enc (L.getD k.toNat default))))) (hsZ Tryz.prog TT GG m z)) Q) (h0:0≤k:=by omega) (h1:k<L.length:=by omega) (h:ldZ Tryz.prog TT GG m z=some (L.flatMap enc,k.toNat*s,0):=by kernel_rfl) (hs1:Nat.ble 1 s=true:=by kernel_rfl):X n fn z Q:=FX.ld wf m enc L k h0 h1 h hs1 hf
theorem yG1 (m:Nat) {α:Type} (enc:α→List PV) (L:List α) (k:Int) (off:Nat) {s:Nat} [Wid enc s] [Inhabited α]
  (hf:X n fn (nxZ Tryz.prog TT GG m z (o (.p (hd ((enc (L.getD k.toNat default)).drop off)))) (hsZ Tryz.prog TT GG m z)) Q) (h0:0≤k:=by omega) (h1:k<L.length:=by omega) (h:ldZ Tryz.prog TT GG m z=some (L.flatMap enc,k.toNat*s+off,0):=by kernel_rfl) (hs1:Nat.ble (off+1) s=true:=by kernel_rfl):X n fn z Q:=FX.ld1 wf m enc L k off h0 h1 h hs1 hf
theorem yGN (m:Nat) {α:Type} (enc:α→List PV) (L:List α) (k:Int) (q:Nat) {s:Nat} [Wid enc s] [Inhabited α]
  (hf:X n fn (nxZ Tryz.prog TT GG m z (.v (.agg (pc ((enc (L.getD k.toNat default)).take q)))) (hsZ Tryz.prog TT GG m z)) Q) (h0:0≤k:=by omega) (h1:k<L.length:=by omega) (h:ldZ Tryz.prog TT GG m z=some (L.flatMap enc,k.toNat*s,q+1):=by kernel_rfl) (hs1:Nat.ble q s=true:=by kernel_rfl):X n fn z Q:=FX.ldN wf m enc L k q h0 h1 h hs1 hf
theorem yY (m:Nat) (s:ByteArray) (k:Int) (hf:X n fn (nxZ Tryz.prog TT GG m z (o (.p (.vl (.int .u8 (byteAt s k))))) (hsZ Tryz.prog TT GG m z)) Q) (h0:0≤k:=by omega) (h1:k<s.size:=by omega) (h:byZ Tryz.prog TT GG m z=some (s,k):=by kernel_rfl):X n fn z Q:=FX.byte wf m s k h0 h1 h hf
theorem yA (m:Nat) {α:Type} (enc:α→List PV) (L:List α) (a:α) (y:Nat) {s:Nat} [Wid enc s]
  (hf:X n fn (nxZ Tryz.prog TT GG m z (o (.lsl (hsZ Tryz.prog TT GG m z).length 0 (L++[a]).length s)) ((hsZ Tryz.prog TT GG m z).set (appB Tryz.prog TT GG m z) .gone++[.cells (pc ((L++[a]).flatMap enc)) false])) Q) (hr:(L.length+1)*y≤17592186044416:=by omega) (hr2:L.length+1≤17592186044416:=by omega) (h:(appZ Tryz.prog TT GG m z).map (·.1)=some (pc (L.flatMap enc),L.length,s,pc (enc a),y):=by kernel_rfl):X n fn z Q:=FX.app wf m enc L a y hr hr2 h hf
theorem yE (m c:Nat) {α:Type} {x y:α} (e:x=y) (f:α→RV) (hf:X n fn (setZ c (f y) (advZ Tryz.prog TT GG m z)) Q) (h:(stZ (advZ Tryz.prog TT GG m z)).regs[c]? =some (f x):=by kernel_rfl):X n fn z Q:=FX.reg wf m c e f h hf
abbrev ob (x:Bool):RV:=o (b x)
abbrev oi (x:Int):RV:=o (i x)
abbrev onb (x:Bool):RV:=o (b (!x))
theorem yp (m c:Nat) (p:Prop) [Decidable p] (hf:X n fn (setZ c (o (b true)) (advZ Tryz.prog TT GG m z)) Q) (e:p:=by omega) (h:(stZ (advZ Tryz.prog TT GG m z)).regs[c]? =some (o (b (decide p))):=by kernel_rfl):X n fn z Q:=FX.reg wf m c (decide_eq_true e) (fun v=>o (b v)) h hf
theorem yn (m c:Nat) (p:Prop) [Decidable p] (hf:X n fn (setZ c (o (b false)) (advZ Tryz.prog TT GG m z)) Q) (e:¬p:=by omega) (h:(stZ (advZ Tryz.prog TT GG m z)).regs[c]? =some (o (b (decide p))):=by kernel_rfl):X n fn z Q:=FX.reg wf m c (decide_eq_false e) (fun v=>o (b v)) h hf
theorem ye (m c:Nat) (x y:Int) (hf:X n fn (setZ c (o (b true)) (advZ Tryz.prog TT GG m z)) Q) (e:x=y:=by omega) (h:(stZ (advZ Tryz.prog TT GG m z)).regs[c]? =some (o (b (x==y))):=by kernel_rfl):X n fn z Q:=FX.reg wf m c (beq_iff_eq.2 e:(x==y)=true) (fun v=>o (b v)) h hf
theorem yu (m c:Nat) (x y:Int) (hf:X n fn (setZ c (o (b false)) (advZ Tryz.prog TT GG m z)) Q) (e:¬x=y:=by omega) (h:(stZ (advZ Tryz.prog TT GG m z)).regs[c]? =some (o (b (x==y))):=by kernel_rfl):X n fn z Q:=FX.reg wf m c (beq_eq_false_iff_ne.2 e:(x==y)=false) (fun v=>o (b v)) h hf
noncomputable def celZ (b j:Nat) (z:Z):Option LV:=match (stZ z).hp[b]? with
 | some (.cells cs _)=>cs[j]?
 | _=>none
def setY (j:Nat) (v:LV):Ob→Ob
 | .cells cs fz=> .cells (cs.set j v) fz
 | o=>o
noncomputable def setC (b j:Nat) (v:LV) (z:Z):Z:=setO b (setY j v ((stZ z).hp.getD b .gone)) z
theorem yQ (m b j:Nat) {α:Type} {x y:α} (e:x=y) (f:α→LV) (hf:X n fn (setC b j (f y) (advZ Tryz.prog TT GG m z)) Q) (h:celZ b j (advZ Tryz.prog TT GG m z)=some (f x):=by kernel_rfl):X n fn z Q:=by
 subst e;unfold celZ at h;split at h
 ·rename_i cs fz hb;refine FX.obj wf m b rfl (fun _:Unit=> .cells cs fz) (x:=()) hb ?_;have:setY j (f x) ((stZ (advZ Tryz.prog TT GG m z)).hp.getD b .gone)= .cells cs fz:=by simp only [List.getD_eq_getElem?_getD,hb,Option.getD_some,setY,set_self h]
  rwa [setC,this] at hf
 ·cases h
theorem yO2 (m b:Nat) {α:Type} {x y:α} (e:x=y) (f:α→Ob) (hf:X n fn (setO b (f y) (advZ Tryz.prog TT GG m z)) Q) (h:(stZ (advZ Tryz.prog TT GG m z)).hp[b]? =some (f x):=by kernel_rfl):X n fn z Q:=FX.obj wf m b e f h hf
theorem yw (k:Int) (h0: -9223372036854775808≤k:=by omega) (h1:k<9223372036854775808:=by omega):IntKind.wrap .i64 k=k:=wrap_id h0 h1
theorem yJ (m c:Nat) (k:Int) (hf:X n fn (setZ c (o (i k)) (advZ Tryz.prog TT GG m z)) Q) (h0: -9223372036854775808≤k:=by omega) (h1:k<9223372036854775808:=by omega) (h:(stZ (advZ Tryz.prog TT GG m z)).regs[c]? =some (o (i (IntKind.wrap .i64 k))):=by kernel_rfl):X n fn z Q:=FX.reg wf m c (wrap_id h0 h1) (fun k=>o (i k)) h hf
theorem yB (m c:Nat) (p:Prop) [Decidable p] (h1:p→X n fn (setZ c (o (b true)) (advZ Tryz.prog TT GG m z)) Q) (h2:¬p→X n fn (setZ c (o (b false)) (advZ Tryz.prog TT GG m z)) Q) (h:(stZ (advZ Tryz.prog TT GG m z)).regs[c]? =some (o (b (decide p))):=by kernel_rfl):X n fn z Q:=FX.br wf m c p h h1 h2
theorem yBe (m c:Nat) (x y:Int) (h1:x=y→X n fn (setZ c (o (b true)) (advZ Tryz.prog TT GG m z)) Q) (h2:¬x=y→X n fn (setZ c (o (b false)) (advZ Tryz.prog TT GG m z)) Q) (h:(stZ (advZ Tryz.prog TT GG m z)).regs[c]? =some (o (b (x==y))):=by kernel_rfl):X n fn z Q:=by
 by_cases hp:x=y
 ·exact ye m c x y (h1 hp) hp h
 ·exact yu m c x y (h2 hp) hp h
theorem yBn (m c:Nat) (x y:Int) (h1:x≠y→X n fn (setZ c (o (b true)) (advZ Tryz.prog TT GG m z)) Q) (h2:¬x≠y→X n fn (setZ c (o (b false)) (advZ Tryz.prog TT GG m z)) Q) (h:(stZ (advZ Tryz.prog TT GG m z)).regs[c]? =some (o (b (x !=y))):=by kernel_rfl):X n fn z Q:=by
 by_cases hp:x≠y
 ·exact FX.reg wf m c (bne_iff_ne.2 hp:(x !=y)=true) (fun v=>o (b v)) h (h1 hp)
 ·exact FX.reg wf m c (bne_eq_false_iff_eq.2 (Decidable.not_not.1 hp):(x !=y)=false) (fun v=>o (b v)) h (h2 hp)
theorem yBb (m c:Nat) (x:Bool) (h1:x=false→X n fn (setZ c (o (b false)) (advZ Tryz.prog TT GG m z)) Q) (h2:x=true→X n fn (setZ c (o (b true)) (advZ Tryz.prog TT GG m z)) Q) (h:(stZ (advZ Tryz.prog TT GG m z)).regs[c]? =some (o (b x)):=by kernel_rfl):X n fn z Q:=by
 cases hp:x
 ·exact FX.reg wf m c hp (fun v=>o (b v)) h (h1 hp)
 ·exact FX.reg wf m c hp (fun v=>o (b v)) h (h2 hp)
theorem yC (m:Nat) {g:FuncId} {ags:List RV} {F:RV→Prop} (hv:ValC Tryz.prog GG g ags F) (hf:∀r,F r→X n fn (callNx Tryz.prog TT GG m z r []) Q) (h:callZ Tryz.prog TT GG m z=some (g,ags,[]):=by kernel_rfl):X n fn z Q:=FX.call wf m hv h hf
theorem yV (m:Nat) {g:FuncId} {ags:List RV} {R:RV} (hv:ValC Tryz.prog GG g ags (fun r=>r=R)) (hf:X n fn (callNx Tryz.prog TT GG m z R []) Q) (h:callZ Tryz.prog TT GG m z=some (g,ags,[]):=by kernel_rfl):X n fn z Q:=FX.call wf m hv h (by rintro _ rfl;exact hf)
theorem yT (m:Nat) (ts:List Nat) {g:FuncId} {ags:List RV} {F:RV→Prop} (hv:ValC Tryz.prog GG g ags F) (hf:∀r,F r→X n fn (callNx Tryz.prog TT GG m z r ts) Q) (h:callZ Tryz.prog TT GG m z=some (g,ags,ts):=by kernel_rfl):X n fn z Q:=FX.callT wf m ts hv h hf
theorem yR (m b:Nat) {g:FuncId} {ags:List RV} {cs:List LV} {F:RV→List LV→Prop} (hv:RefC Tryz.prog GG g ags cs F) (hf:∀r cs',F r cs'→X n fn (callRN Tryz.prog TT GG m b z r cs') Q) (h:callRZ Tryz.prog TT GG m b z=some (g,ags,cs):=by kernel_rfl):X n fn z Q:=FX.callR wf m b hv h hf
theorem yW (m:Nat) {g:FuncId} {ags:List RV} {s:Nat} {Q0:Prop} {F:Nat→List LV→Prop} (hv:LocC Tryz.prog GG g ags s Q0 F) (h0:Q0→X n fn (callL0 Tryz.prog TT GG m z) Q) (h1:∀k cs,F k cs→X n fn (callL1 Tryz.prog TT GG m s z k cs) Q) (h:callLZ Tryz.prog TT GG m z=some (g,ags):=by kernel_rfl):X n fn z Q:=FX.callL wf m hv h h0 h1
theorem yD (m:Nat) (Ms ws:List (List Nat)) (τ:List Nat) (hf:X n fn (drawN Tryz.prog TT GG m Ms ws τ z) Q) (h:drawZ Tryz.prog TT GG m Ms ws τ z=true:=by kernel_rfl):X n fn z Q:=FX.draw wf mix m Ms ws τ h hf
theorem yK (m:Nat) (keep:List Nat) {N:Nat} {p:List (Nat×RV)×List Ob} {td:List Item} (hf:∀J,X n fn (.s td (stOf N p J)) Q) (hh:renH n keep (hpZ Tryz.prog TT GG m z)=some p.2:=by kernel_rfl) (hc:∀J,cutZ Tryz.prog TT GG m n keep N p.1 J z=some (td,regsOf N p.1 J):=by intro _;kernel_rfl):X n fn z Q:=FX.cut wf m keep hf hc hh
noncomputable abbrev pT (fn:Func) (p:List Nat):List Item:=posT (Bd fn) p []
theorem yP (m:Nat) (keep:List Nat) (N:Nat) (td:List Item) {α:Type} (I:α→Prop) (μ:α→Nat) (s:α→List (Nat×RV)×List Ob) (x0:α) (hI:I x0)
  (h:∀x,I x→(∀x',I x'→μ x'<μ x→∀J,X n fn (.s td (stOf N (s x') J)) Q)→∀J,X n fn (.s td (stOf N (s x) J)) Q) (hh:renH n keep (hpZ Tryz.prog TT GG m z)=some (s x0).2:=by kernel_rfl) (hc:∀J,cutZ Tryz.prog TT GG m n keep N (s x0).1 J z=some (td,regsOf N (s x0).1 J):=by intro _;kernel_rfl):X n fn z Q:=FX.loop wf m keep N td I μ s x0 hI hc hh h
theorem yN {N:Nat} {td:List Item} {α:Type} (I:α→Prop) (μ:α→Nat) (s:α→List (Nat×RV)×List Ob) (h:∀x,I x→(∀x',I x'→μ x'<μ x→∀J,X n fn (.s td (stOf N (s x') J)) Q)→∀J,X n fn (.s td (stOf N (s x) J)) Q):∀x,I x→∀J,X n fn (.s td (stOf N (s x) J)) Q:=FX.ind I μ s h
theorem yU (m:Nat) (keep:List Nat) (N:Nat) (td:List Item) (L:List (Nat×RV)) (hp:List Ob) (hf:∀J,Fin Tryz.prog GG n fn td ⟨regsOf N L J,hp⟩ Q) (hh:renH n keep (hpZ Tryz.prog TT GG m z)=some hp:=by kernel_rfl) (hc:∀J,cutZ Tryz.prog TT GG m n keep N L J z=some (td,regsOf N L J):=by intro _;kernel_rfl):X n fn z Q:=FX.out wf m keep N td L hp hc hh hf
theorem yX {td:List Item} {st:St} (h:X n fn (.s td st) Q):Fin Tryz.prog GG n fn td st Q:=FX.inn h
theorem yM (m d:Nat) {r r':RV} {ts:List Nat} (hz:fzR (hpZ Tryz.prog TT GG m z) r=some (r',ts)) (hf:X n fn (fzN Tryz.prog TT GG m d r' ts z) Q) (hs:fzReg Tryz.prog TT GG m d z=some r:=by kernel_rfl):X n fn z Q:=FX.fz wf m d hz hs hf
theorem yZ (m b j:Nat) {x:LV} {y:PV} {ts:List Nat} (hf:X n fn (fzON Tryz.prog TT GG m b j y ts z) Q) (hz:fzL (hpZ Tryz.prog TT GG m z) 12 x=some (y,ts):=by kernel_rfl) (hs:fzCel Tryz.prog TT GG m b j ts z=some x:=by kernel_rfl):X n fn z Q:=FX.fzO wf m b j hz hs hf
abbrev fR (f:Func) (Q':RV→Prop) (st:St):Prop:=∃r,resultsR TT GG f st=some r∧∃r' ts,fzR st.hp r=some (r',ts)∧Q' r'
theorem yF (m:Nat) {f:Func} (r:RV) {Q':RV→Prop} (hq:Q' r) (h:endZ Tryz.prog TT GG m f z=some r:=by kernel_rfl):X n fn z (fR f Q'):=FX.fin wf m r h hq
theorem yFF (m:Nat) {f:Func} (r:RV) {r':RV} {ts:List Nat} {Q':RV→Prop} (hz:fzR (hpZ Tryz.prog TT GG m z) r=some (r',ts)) (hq:Q' r') (h:resZ Tryz.prog TT GG m f z=some r:=by kernel_rfl):X n fn z (fR f Q'):=FX.finF wf m r h hz hq
theorem yFR (m:Nat) {f:Func} (r:RV) (cs:List LV) {r':RV} {ts:List Nat} {Q':RV→List LV→Prop} (hq:Q' r' cs) (hz:fzR (hpZ Tryz.prog TT GG m z) r=some (r',ts):=by kernel_rfl) (h:resZ Tryz.prog TT GG m f z=some r:=by kernel_rfl) (h0:ts.contains 0=false:=by kernel_rfl) (hc:(hpZ Tryz.prog TT GG m z)[0]? =some (.cells cs false):=by kernel_rfl) (hp:cs.all persL=true:=by kernel_rfl):
  X n fn z fun st=>∃r,resultsR TT GG f st=some r∧∃r' ts cs',fzR st.hp r=some (r',ts)∧0∉ts∧st.hp[0]? =some (.cells cs' false)∧cs'.all persL=true∧Q' r' cs':=FX.finR wf m r cs h hz h0 hc hp hq
theorem yFN (m:Nat) {f:Func} {s:Nat} {Q0:Prop} {Q':Nat→List LV→Prop} (hq:Q0) (h:resZ Tryz.prog TT GG m f z=some (o nl):=by kernel_rfl):
  X n fn z fun st=>∃r,resultsR TT GG f st=some r∧((r= .v (.one (.p (.vl (.slice none 0 0))))∧Q0)∨∃n cs j,r= .v (.one (.lsl j 0 n s))∧st.hp[j]? =some (.cells cs false)∧cs.all persL=true∧Q' n cs):=FX.finN wf m h hq
theorem yFL (m:Nat) {f:Func} {s:Nat} {Q0:Prop} {Q':Nat→List LV→Prop} (k j:Nat) (cs:List LV) (hp:cs.all persL=true) (hq:Q' k cs) (h:resZ Tryz.prog TT GG m f z=some (o (.lsl j 0 k s)):=by kernel_rfl) (hc:(hpZ Tryz.prog TT GG m z)[j]? =some (.cells cs false):=by kernel_rfl):
  X n fn z fun st=>∃r,resultsR TT GG f st=some r∧((r= .v (.one (.p (.vl (.slice none 0 0))))∧Q0)∨∃n cs j,r= .v (.one (.lsl j 0 n s))∧st.hp[j]? =some (.cells cs false)∧cs.all persL=true∧Q' n cs):=FX.finL wf m k j cs h hc hp hq
theorem yFA (m:Nat) {f:Func} (r:RV) (hp:List Ob) {Q':RV→List Ob→Prop} (hq:Q' r hp) (h:resZ Tryz.prog TT GG m f z=some r:=by kernel_rfl) (hh:hpZ Tryz.prog TT GG m z=hp:=by kernel_rfl):X n fn z fun st=>∃r,resultsR TT GG f st=some r∧Q' r st.hp:=FX.finA wf m r hp h hh hq
end
theorem vX {f:Nat} {fn:Func} {args:List RV} {Q:RV→Prop} (h:X 0 f (.s [.code (Bd fn)] ⟨regs0 fn args,[]⟩) (fR fn Q)) (h1:fns.get f=some fn:=by kernel_rfl) (h2:fn.body.isSome=true:=by kernel_rfl):ValC Tryz.prog GG f args Q:=
 ValC.of_fin (T:=TT) (funcOk f fn h1).1 (Bd_ok h2) (funcOk f fn h1).2 (FX.inn h)
theorem vL {f:Nat} {fn:Func} {args:List RV} {s:Nat} {Q0:Prop} {Q:Nat→List LV→Prop} (h:X 0 f (.s [.code (Bd fn)] ⟨regs0 fn args,[]⟩) fun st=>∃r,resultsR TT GG fn st=some r∧((r= .v (.one (.p (.vl (.slice none 0 0))))∧Q0)∨∃n cs j,r= .v (.one (.lsl j 0 n s))∧st.hp[j]? =some (.cells cs false)∧cs.all persL=true∧Q n cs)) (h1:fns.get f=some fn:=by kernel_rfl) (h2:fn.body.isSome=true:=by kernel_rfl):LocC Tryz.prog GG f args s Q0 Q:=
 LocC.of_fin (T:=TT) (funcOk f fn h1).1 (Bd_ok h2) (funcOk f fn h1).2 (FX.inn h)
theorem vR {f:Nat} {fn:Func} {args:List RV} {cs:List LV} {Q:RV→List LV→Prop} (h:X 1 f (.s [.code (Bd fn)] ⟨regs0 fn args,[.cells cs false]⟩) fun st=>∃r,resultsR TT GG fn st=some r∧∃r' ts cs',fzR st.hp r=some (r',ts)∧0∉ts∧st.hp[0]? =some (.cells cs' false)∧cs'.all persL=true∧Q r' cs') (h1:fns.get f=some fn:=by kernel_rfl) (h2:fn.body.isSome=true:=by kernel_rfl):RefC Tryz.prog GG f args cs Q:=
 RefC.of_fin (T:=TT) (funcOk f fn h1).1 (Bd_ok h2) (funcOk f fn h1).2 (FX.inn h)
instance:Wid encS 1:=⟨fun _=>rfl⟩
instance:Wid encI 1:=⟨fun _=>rfl⟩
instance:Wid encB 1:=⟨fun _=>rfl⟩
instance:Wid encD 2:=⟨fun _=>rfl⟩
instance:Wid encC 7:=⟨fun _=>rfl⟩
instance {w:Nat}:Wid (encRow (w:=w)) 1:=⟨fun _=>rfl⟩
end Go.Sx.E1
