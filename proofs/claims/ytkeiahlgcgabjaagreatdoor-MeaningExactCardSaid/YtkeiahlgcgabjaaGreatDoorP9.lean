/- Part of MeaningExact. -/
import Derived.Test.YtkeiahlgcgabjaaGreatDoorProg
import Derived.Test.YtkeiahlgcgabjaaGreatDoorP8
set_option linter.all false
set_option maxRecDepth 1000000
set_option maxHeartbeats 0
namespace Go.Sx.E1
open Go.Proofs Go.Proofs.Tryz
section
variable {α:Type}
def n1(i:Nat)(a:α):Tree α:= .nd .lf i a .lf
def n3(i:Nat)(a b c:α):Tree α:= .nd (n1 i a) (i+1) b (n1 (i+2) c)
def n7(i:Nat)(a b c d e f g:α):Tree α:= .nd (n3 i a b c) (i+3) d (n3 (i+4) e f g)
def sU(i:Nat)(a b c d e f g h j k l m n o p:α):Tree α:= .nd (n7 i a b c d e f g) (i+7) h (n7 (i+8) j k l m n o p)
def cN(i:Nat)(a b c d e f g h j k l m n o p q r s t u v w x y z A B C D E F:α):Tree α:= .nd (sU i a b c d e f g h j k l m n o p) (i+15) q (sU (i+16) r s t u v w x y z A B C D E F)
def Tree.lQ:Tree α->List (Nat×α)
 | .lf=>[]
 | .nd l k v r=>lQ l++(k,v)::lQ r
def po:Nat->List α->List (Nat×α)
 |_,[]=>[]
 |k,x::l=>(k,x)::po (k+1) l
def zQ:∀{l:List α}{k i:Nat}{x:α},(i,x)∈po k l->k<=i/\l[i - k]? =some x
 | [],_,_,_,h=>by simp[po]at h
 |y::l,k,i,x,h=>by
  simp only[po,V0,q0]at h
  rcases h with⟨rfl,rfl⟩|h
  ·simp
  obtain⟨j,m⟩:=zQ h;refine⟨w_,?_⟩;rw[show i - k=(i - (k+1))+1 by omega]
  simpa using m
def uO{p:Nat->α->Prop}:∀{t:Tree α},(∀i x,(i,x)∈Tree.lQ t->p i x)->t.iy p
 | .lf,_=>trivial
 | .nd l k v r,h=>⟨uO fun i x M=>h i x (by simp[Tree.lQ,M]),h k v (by simp[Tree.lQ]),uO fun i x M=>h i x (by simp[Tree.lQ,M])⟩
def AP{t:Tree α}{l:Array α}(h:Tree.lQ t=po 0 l.toList):t.iy fun i x=>l[i]? =some x:=
 uO fun i x M=>by rw[<- acy];exact(zQ (h ▸ M)).2
end
section
open Tryz
noncomputable def lR:Tree TypeInfo:=(.nd (.nd (.nd (.nd (cN 0 t0 t1 t2 t3 t4 t5 t6 t7 t8 t9 t10 t11 t12 t13 t14 t15 t16 t17 t18 t19 t20 t21 t22 t23 t24 t25 t26 t27 t28 t29 t30) 31 t31 (cN 32 t32 t33 t34 t35 t36 t37 t38 t39 t40 t41 t42 t43 t44 t45 t46 t47 t48 t49 t50 t51 t52 t53 t54 t55 t56 t57 t58 t59 t60 t61 t62)) 63 t63 (.nd (cN 64 t64 t65 t66 t67 t68 t69 t70 t71 t72 t73 t74 t75 t76 t77 t78 t79 t80 t81 t82 t83 t84 t85 t86 t87 t88 t89 t90 t91 t92 t93 t94) 95 t95 (cN 96 t96 t97 t98 t99 t100 t101 t102 t103 t104 t105 t106 t107 t108 t109 t110 t111 t112 t113 t114 t115 t116 t117 t118 t119 t120 t121 t122 t123 t124 t125 t126))) 127 t127 (.nd (.nd (cN 128 t128 t129 t130 t131 t132 t133 t134 t135 t136 t137 t138 t139 t140 t141 t142 t143 t144 t145 t146 t147 t148 t149 t150 t151 t152 t153 t154 t155 t156 t157 t158) 159 t159 (cN 160 t160 t161 t162 t163 t164 t165 t166 t167 t168 t169 t170 t171 t172 t173 t174 t175 t176 t177 t178 t179 t180 t181 t182 t183 t184 t185 t186 t187 t188 t189 t190)) 191 t191 (.nd (cN 192 t192 t193 t194 t195 t196 t197 t198 t199 t200 t201 t202 t203 t204 t205 t206 t207 t208 t209 t210 t211 t212 t213 t214 t215 t216 t217 t218 t219 t220 t221 t222) 223 t223 (cN 224 t224 t225 t226 t227 t228 t229 t230 t231 t232 t233 t234 t235 t236 t237 t238 t239 t240 t241 t242 t243 t244 t245 t246 t247 t248 t249 t250 t251 t252 t253 t254)))) 255 t255 (.nd (.nd (.nd (cN 256 t256 t257 t258 t259 t260 t261 t262 t263 t264 t265 t266 t267 t268 t269 t270 t271 t272 t273 t274 t275 t276 t277 t278 t279 t280 t281 t282 t283 t284 t285 t286) 287 t287 (cN 288 t288 t289 t290 t291 t292 t293 t294 t295 t296 t297 t298 t299 t300 t301 t302 t303 t304 t305 t306 t307 t308 t309 t310 t311 t312 t313 t314 t315 t316 t317 t318)) 319 t319 (.nd (cN 320 t320 t321 t322 t323 t324 t325 t326 t327 t328 t329 t330 t331 t332 t333 t334 t335 t336 t337 t338 t339 t340 t341 t342 t343 t344 t345 t346 t347 t348 t349 t350) 351 t351 (cN 352 t352 t353 t354 t355 t356 t357 t358 t359 t360 t361 t362 t363 t364 t365 t366 t367 t368 t369 t370 t371 t372 t373 t374 t375 t376 t377 t378 t379 t380 t381 t382))) 383 t383 (.nd (.nd (cN 384 t384 t385 t386 t387 t388 t389 t390 t391 t392 t393 t394 t395 t396 t397 t398 t399 t400 t401 t402 t403 t404 t405 t406 t407 t408 t409 t410 t411 t412 t413 t414) 415 t415 (cN 416 t416 t417 t418 t419 t420 t421 t422 t423 t424 t425 t426 t427 t428 t429 t430 t431 t432 t433 t434 t435 t436 t437 t438 t439 t440 t441 t442 t443 t444 t445 t446)) 447 t447 (.nd (cN 448 t448 t449 t450 t451 t452 t453 t454 t455 t456 t457 t458 t459 t460 t461 t462 t463 t464 t465 t466 t467 t468 t469 t470 t471 t472 t473 t474 t475 t476 t477 t478) 479 t479 (.nd (cN 480 t480 t481 t482 t483 t484 t485 t486 t487 t488 t489 t490 t491 t492 t493 t494 t495 t496 t497 t498 t499 t500 t501 t502 t503 t504 t505 t506 t507 t508 t509 t510) 511 t511 (.nd (sU 512 t512 t513 t514 t515 t516 t517 t518 t519 t520 t521 t522 t523 t524 t525 t526) 527 t527 (.nd (n3 528 t528 t529 t530) 531 t531 .lf)))))))
noncomputable def fns:Tree Func:=(.nd (.nd (.nd (.nd (.nd (cN 0 f0 f1 f2 f3 f4 f5 f6 f7 f8 f9 f10 f11 f12 f13 f14 f15 f16 f17 f18 f19 f20 f21 f22 f23 f24 f25 f26 f27 f28 f29 f30) 31 f31 (cN 32 f32 f33 f34 f35 f36 f37 f38 f39 f40 f41 f42 f43 f44 f45 f46 f47 f48 f49 f50 f51 f52 f53 f54 f55 f56 f57 f58 f59 f60 f61 f62)) 63 f63 (cN 64 f64 f65 f66 f67 f68 f69 f70 f71 f72 f73 f74 f75 f76 f77 f78 f79 f80 f81 f82 f83 f84 f85 f86 f87 f88 f89 f90 f91 f92 f93 f94)) 95 f95 (.nd (cN 96 f96 f97 f98 f99 f100 f101 f102 f103 f104 f105 f106 f107 f108 f109 f110 f111 f112 f113 f114 f115 f116 f117 f118 f119 f120 f121 f122 f123 f124 f125 f126) 127 f127 (cN 128 f128 f129 f130 f131 f132 f133 f134 f135 f136 f137 f138 f139 f140 f141 f142 f143 f144 f145 f146 f147 f148 f149 f150 f151 f152 f153 f154 f155 f156 f157 f158))) 159 f159 (.nd (.nd (.nd (cN 160 f160 f161 f162 f163 f164 f165 f166 f167 f168 f169 f170 f171 f172 f173 f174 f175 f176 f177 f178 f179 f180 f181 f182 f183 f184 f185 f186 f187 f188 f189 f190) 191 f191 (cN 192 f192 f193 f194 f195 f196 f197 f198 f199 f200 f201 f202 f203 f204 f205 f206 f207 f208 f209 f210 f211 f212 f213 f214 f215 f216 f217 f218 f219 f220 f221 f222)) 223 f223 (cN 224 f224 f225 f226 f227 f228 f229 f230 f231 f232 f233 f234 f235 f236 f237 f238 f239 f240 f241 f242 f243 f244 f245 f246 f247 f248 f249 f250 f251 f252 f253 f254)) 255 f255 (.nd (cN 256 f256 f257 f258 f259 f260 f261 f262 f263 f264 f265 f266 f267 f268 f269 f270 f271 f272 f273 f274 f275 f276 f277 f278 f279 f280 f281 f282 f283 f284 f285 f286) 287 f287 (cN 288 f288 f289 f290 f291 f292 f293 f294 f295 f296 f297 f298 f299 f300 f301 f302 f303 f304 f305 f306 f307 f308 f309 f310 f311 f312 f313 f314 f315 f316 f317 f318)))) 319 f319 (.nd (.nd (.nd (.nd (cN 320 f320 f321 f322 f323 f324 f325 f326 f327 f328 f329 f330 f331 f332 f333 f334 f335 f336 f337 f338 f339 f340 f341 f342 f343 f344 f345 f346 f347 f348 f349 f350) 351 f351 (cN 352 f352 f353 f354 f355 f356 f357 f358 f359 f360 f361 f362 f363 f364 f365 f366 f367 f368 f369 f370 f371 f372 f373 f374 f375 f376 f377 f378 f379 f380 f381 f382)) 383 f383 (cN 384 f384 f385 f386 f387 f388 f389 f390 f391 f392 f393 f394 f395 f396 f397 f398 f399 f400 f401 f402 f403 f404 f405 f406 f407 f408 f409 f410 f411 f412 f413 f414)) 415 f415 (.nd (cN 416 f416 f417 f418 f419 f420 f421 f422 f423 f424 f425 f426 f427 f428 f429 f430 f431 f432 f433 f434 f435 f436 f437 f438 f439 f440 f441 f442 f443 f444 f445 f446) 447 f447 (cN 448 f448 f449 f450 f451 f452 f453 f454 f455 f456 f457 f458 f459 f460 f461 f462 f463 f464 f465 f466 f467 f468 f469 f470 f471 f472 f473 f474 f475 f476 f477 f478))) 479 f479 (.nd (.nd (.nd (cN 480 f480 f481 f482 f483 f484 f485 f486 f487 f488 f489 f490 f491 f492 f493 f494 f495 f496 f497 f498 f499 f500 f501 f502 f503 f504 f505 f506 f507 f508 f509 f510) 511 f511 (cN 512 f512 f513 f514 f515 f516 f517 f518 f519 f520 f521 f522 f523 f524 f525 f526 f527 f528 f529 f530 f531 f532 f533 f534 f535 f536 f537 f538 f539 f540 f541 f542)) 543 f543 (cN 544 f544 f545 f546 f547 f548 f549 f550 f551 f552 f553 f554 f555 f556 f557 f558 f559 f560 f561 f562 f563 f564 f565 f566 f567 f568 f569 f570 f571 f572 f573 f574)) 575 f575 (.nd (cN 576 f576 f577 f578 f579 f580 f581 f582 f583 f584 f585 f586 f587 f588 f589 f590 f591 f592 f593 f594 f595 f596 f597 f598 f599 f600 f601 f602 f603 f604 f605 f606) 607 f607 (.nd (cN 608 f608 f609 f610 f611 f612 f613 f614 f615 f616 f617 f618 f619 f620 f621 f622 f623 f624 f625 f626 f627 f628 f629 f630 f631 f632 f633 f634 f635 f636 f637 f638) 639 f639 (sU 640 f640 f641 f642 f643 f644 f645 f646 f647 f648 f649 f650 f651 f652 f653 f654))))))
end
def Qa:lR.iy fun i d=>prog.types[i]? =some d:=AP k_
def Qb:fns.iy fun i fn=>prog.funcs[i]? =some fn:=AP k_
def ti{i:Nat}{d:TypeInfo}(h:lR.get i=some d):prog.info? i=some d:=by have h:=Qa.get h;have hl:i<prog.types.size:=(aaT.1 h).1;simp only[Tables.info?,hl,if_true];exact h
noncomputable def TT:aq where
 info t:=lR.get t
 au t:=match lR.get t with
  |some i=>match i.desc with
   | .named _ u=>match lR.get u with
    |some j=>some j.desc
    |none=>none
   |d=>some d
  |none=>none
 kz t:=match Nat.beq t 349 with
  |true=>true
  |false=>Nat.beq t 400
theorem tok:aG prog TT where
 info t i h:=ti h
 au t d h:=by
  simp only[TT]at h;unfold Program.underlying;split at h
  ·rename_i i hi;rw[ti hi];split at h
   ·rename_i nm u hd;split at h
    ·rename_i j s;simp at h;subst h;obtain⟨C,a,b,c,e,f,g,k,l,m⟩:=i;simp only at hd;subst hd;simp[ti s]
    simp at h
   rename_i G;simp at h;subst h;obtain⟨C,a,b,c,e,f,g,k,l,m⟩:=i;simp only at G |-
   cases C<;>simp_all
  simp at h
def UB:lR.lE (fun t _=>match TT.au t with
 |some (.struct fields)=>fields.toList.all fun f=>(a6 TT f.type).isSome
 |_=>true)=true:=by kernel_rfl
def wf:bf TT:=by(intro t C h f T;have D:∃i,lR.get t=some i:=by simp only[TT]at h;split at h;{rename_i i y;exact⟨i,y⟩};simp at h);obtain⟨i,y⟩:=D;have:=Tree.oa UB y;rw[h]at this;simp only[LA]at this;exact this f (acz.2 T)
def mix:prog.follows .mixedOrders=true:=by kernel_rfl
def Km:fns.lE (fun _ fn=> !(fn.name== "runtime.NumGoroutine"))=true:=by kernel_rfl
def funcOk:∀f fn,fns.get f=some fn->prog.funcs[f]? =some fn/\fn.name≠ "runtime.NumGoroutine" :=by intro f fn h;refine⟨Qb.get h,fun e=> ?_⟩;have:=Tree.oa Km h;simp[e]at this
def vi(n:Int):Value:= .int .i64 n
def vs(l:ak):Value:= .string ⟨(l.map UInt8.ofNat).toArray⟩
def vn:Value:= .slice none 0 0
def vf(f:Nat):Value:= .func (.func f) #[] #[]
def i(n:Int):LV:= .p (.vl (.int .i64 n))
def s(l:ak):LV:= .p (.vl (vs l))
def b(x:Bool):LV:= .p (.vl (.bool x))
def nl:LV:= .p (.vl vn)
def o(x:LV):RV:= .v (.one x)
def a(l:lW):RV:= .v (.agg l)
noncomputable def aM:Tree (List iz):=(.nd (.nd (.nd (.nd (.nd .lf 4
 [⟨90,[],o (b true)⟩] .lf) 13
 [⟨13,[o (s [99,111,110,99,97,116]),o (s []),o (.p (.sl 2 [(.vl (vi 2)),(.vl (vi 1)),(.vl (vi 1)),(.vl (vi 8)),(.vl (vs [97])),(.vl (vs [97])),(.vl (vi 1)),(.vl (vi 0)),(.vl (vi 0)),(.vl (vi 0)),(.vl (vi 1)),(.vl (vi 0)),(.vl (vi 0)),(.vl (vi 1)),(.vl (vi 0)),(.vl vn),(.vl vn),(.vl (.bool false)),(.vl (vi 2)),(.vl (vi 2)),(.vl (vi 2)),(.vl (vi 10)),(.vl (vs [98,49])),(.vl (vs [98,49])),(.vl (vi 1)),(.vl (vi 0)),(.vl (vi 0)),(.vl (vi 0)),(.vl (vi 1)),(.vl (vi 0)),(.vl (vi 0)),(.vl (vi 1)),(.vl (vi 0)),(.vl vn),(.vl vn),(.vl (.bool false))]))],o (s [116,101,120,116,40,51,32,51,32,49,48,32,51,58,97,98,49,32,51,58,97,98,49,41])⟩,
  ⟨18,[o (s [108,101,110,103,116,104]),o (s []),o (.p (.sl 1 [(.vl (vi 2)),(.vl (vi 2)),(.vl (vi 5)),(.vl (vi 110)),(.vl (vs [])),(.vl (vs [])),(.vl (vi 1)),(.vl (vi 0)),(.vl (vi 0)),(.vl (vi 0)),(.vl (vi 1)),(.vl (vi 0)),(.vl (vi 0)),(.vl (vi 1)),(.vl (vi 0)),(.vl vn),(.vl vn),(.vl (.bool false))]))],o (s [110,117,109,98,101,114,40,50,46,46,53,41])⟩,
  ⟨73,[o (s [97,100,100]),o (s []),o (.p (.sl 2 [(.vl (vi 4)),(.vl (vi 1)),(.vl (vi 0)),(.vl (vi 0)),(.vl (vs [])),(.vl (vs [])),(.vl (vi 1)),(.vl (vi 0)),(.vl (vi 2)),(.vl (vi 0)),(.vl (vi 1)),(.vl (vi 0)),(.vl (vi 0)),(.vl (vi 1)),(.vl (vi 0)),(.vl vn),(.vl vn),(.vl (.bool false)),(.vl (vi 4)),(.vl (vi 1)),(.vl (vi 0)),(.vl (vi 0)),(.vl (vs [])),(.vl (vs [])),(.vl (vi 10)),(.vl (vi 0)),(.vl (vi 20)),(.vl (vi 0)),(.vl (vi 1)),(.vl (vi 0)),(.vl (vi 0)),(.vl (vi 1)),(.vl (vi 0)),(.vl vn),(.vl vn),(.vl (.bool false))]))],o (s [110,117,109,98,101,114,40,49,49,46,46,50,50,41])⟩,
  ⟨75,[o (s [108,101,115,115]),o (s []),o (.p (.sl 2 [(.vl (vi 4)),(.vl (vi 1)),(.vl (vi 0)),(.vl (vi 0)),(.vl (vs [])),(.vl (vs [])),(.vl (vi 1)),(.vl (vi 0)),(.vl (vi 2)),(.vl (vi 0)),(.vl (vi 1)),(.vl (vi 0)),(.vl (vi 0)),(.vl (vi 1)),(.vl (vi 0)),(.vl vn),(.vl vn),(.vl (.bool false)),(.vl (vi 4)),(.vl (vi 1)),(.vl (vi 0)),(.vl (vi 0)),(.vl (vs [])),(.vl (vs [])),(.vl (vi 5)),(.vl (vi 0)),(.vl (vi 9)),(.vl (vi 0)),(.vl (vi 1)),(.vl (vi 0)),(.vl (vi 0)),(.vl (vi 1)),(.vl (vi 0)),(.vl vn),(.vl vn),(.vl (.bool false))]))],o (s [98,111,111,108,40,50,41])⟩,
  ⟨77,[o (s [108,101,115,115]),o (s []),o (.p (.sl 2 [(.vl (vi 4)),(.vl (vi 1)),(.vl (vi 0)),(.vl (vi 0)),(.vl (vs [])),(.vl (vs [])),(.vl (vi 1)),(.vl (vi 0)),(.vl (vi 5)),(.vl (vi 0)),(.vl (vi 1)),(.vl (vi 0)),(.vl (vi 0)),(.vl (vi 1)),(.vl (vi 0)),(.vl vn),(.vl vn),(.vl (.bool false)),(.vl (vi 4)),(.vl (vi 1)),(.vl (vi 0)),(.vl (vi 0)),(.vl (vs [])),(.vl (vs [])),(.vl (vi 5)),(.vl (vi 0)),(.vl (vi 9)),(.vl (vi 0)),(.vl (vi 1)),(.vl (vi 0)),(.vl (vi 0)),(.vl (vi 1)),(.vl (vi 0)),(.vl vn),(.vl vn),(.vl (.bool false))]))],o (s [98,111,111,108,40,51,41])⟩,
  ⟨87,[o (s [112,97,114,115,101]),o (s []),o (.p (.sl 1 [(.vl (vi 2)),(.vl (vi 0)),(.vl (vi 200)),(.vl (vi 110)),(.vl (vs [])),(.vl (vs [])),(.vl (vi 1)),(.vl (vi 0)),(.vl (vi 0)),(.vl (vi 0)),(.vl (vi 1)),(.vl (vi 0)),(.vl (vi 0)),(.vl (vi 1)),(.vl (vi 0)),(.vl vn),(.vl vn),(.vl (.bool false))]))],o (s [110,117,109,98,101,114,40,45,49,48,48,48,48,48,48,48,48,48,48,48,48,48,48,48,46,46,49,48,48,48,48,48,48,48,48,48,48,48,48,48,48,48,41,32,101,114,114,111,114])⟩,
  ⟨89,[o (s [110,111,116]),o (s []),o (.p (.sl 1 [(.vl (vi 4)),(.vl (vi 1)),(.vl (vi 0)),(.vl (vi 0)),(.vl (vs [])),(.vl (vs [])),(.vl (vi 1)),(.vl (vi 0)),(.vl (vi 1)),(.vl (vi 0)),(.vl (vi 1)),(.vl (vi 0)),(.vl (vi 0)),(.vl (vi 1)),(.vl (vi 0)),(.vl vn),(.vl vn),(.vl (.bool false))]))],o (s [101,114,114,111,114])⟩] .lf) 14
 [⟨6,[o (s [97])],a [i 2,i 1,i 1,i 8,s [97],s [97],i 1,i 0,i 0,i 0,i 1,i 0,i 0,i 1,i 0,nl,nl,b false]⟩,
  ⟨8,[o (s [98,49])],a [i 2,i 2,i 2,i 10,s [98,49],s [98,49],i 1,i 0,i 0,i 0,i 1,i 0,i 0,i 1,i 0,nl,nl,b false]⟩,
  ⟨14,[o (s [97,98,49])],a [i 2,i 3,i 3,i 10,s [97,98,49],s [97,98,49],i 1,i 0,i 0,i 0,i 1,i 0,i 0,i 1,i 0,nl,nl,b false]⟩] (.nd (.nd .lf 15
 [⟨12,[a [i 2,i 3,i 3,i 10,s [97,98,49],s [97,98,49],i 1,i 0,i 0,i 0,i 1,i 0,i 0,i 1,i 0,nl,nl,b false]],o (s [116,101,120,116,40,51,32,51,32,49,48,32,51,58,97,98,49,32,51,58,97,98,49,41])⟩,
  ⟨72,[a [i 4,i 1,i 0,i 0,s [],s [],i 11,i 0,i 22,i 0,i 1,i 0,i 0,i 1,i 0,nl,nl,b false]],o (s [110,117,109,98,101,114,40,49,49,46,46,50,50,41])⟩] .lf) 16
 [⟨21,[o (i 10),o (i 20)],a [i 4,i 1,i 0,i 0,s [],s [],i 10,i 0,i 20,i 0,i 1,i 0,i 0,i 1,i 0,nl,nl,b false]⟩,
  ⟨74,[o (i 5),o (i 9)],a [i 4,i 1,i 0,i 0,s [],s [],i 5,i 0,i 9,i 0,i 1,i 0,i 0,i 1,i 0,nl,nl,b false]⟩,
  ⟨76,[o (i 1),o (i 5)],a [i 4,i 1,i 0,i 0,s [],s [],i 1,i 0,i 5,i 0,i 1,i 0,i 0,i 1,i 0,nl,nl,b false]⟩] .lf)) 43
 [⟨71,[a [i 4,i 0,i 0,i 0,s [],s [],i 11,i 0,i 22,i 0,i 0,i 0,i 0,i 0,i 0,nl,nl,b false]],a [i 4,i 1,i 0,i 0,s [],s [],i 11,i 0,i 22,i 0,i 1,i 0,i 0,i 1,i 0,nl,nl,b false]⟩] (.nd (.nd (.nd .lf 53
 [⟨4,[a [i 2,i 5,i 110,s [],s []]],o (b false)⟩,
  ⟨10,[a [i 3,i 3,i 10,s [97,98,49],s [97,98,49]]],o (b false)⟩] .lf) 56
 [⟨2,[a [i 0,i 0,i 0,i 0]],o (b false)⟩,
  ⟨11,[a [i 1,i 0,i 0,i 0]],o (b true)⟩] .lf) 63
 [⟨88,[a [i 1,i 0,i 2,i 0]],o (s [49,46,46,50])⟩] (.nd (.nd .lf 68
 [⟨81,[],a [i (-1000000000000000),i 0,i 1000000000000000,i 0]⟩] .lf) 144
 [⟨0,[a [i 0,i 0,i 0,s [],s []],o (i 0)],.ab [.one (s []),.one (b true)]⟩,
  ⟨3,[a [i 2,i 5,i 110,s [],s []],o (i 2)],.ab [.one (s [32,32]),.one (b true)]⟩,
  ⟨5,[a [i 1,i 1,i 8,s [97],s [97]],o (i 1)],.ab [.one (s [97]),.one (b true)]⟩,
  ⟨7,[a [i 2,i 2,i 10,s [98,49],s [98,49]],o (i 2)],.ab [.one (s [98,49]),.one (b true)]⟩,
  ⟨9,[a [i 3,i 3,i 10,s [97,98,49],s [97,98,49]],o (i 3)],.ab [.one (s [97,98,49]),.one (b true)]⟩,
  ⟨82,[a [i 0,i 200,i 110,s [],s []],o (i 0)],.ab [.one (s []),.one (b true)]⟩] .lf))) 150
 [⟨16,[a [i 2,i 0],a [i 2,i 0]],o (i 0)⟩,
  ⟨19,[a [i 1,i 0],a [i 2,i 0]],o (i (-1))⟩,
  ⟨20,[a [i 1,i 0],a [i 1,i 0]],o (i 0)⟩,
  ⟨80,[a [i (-1000000000000000),i 0],a [i 1000000000000000,i 0]],o (i (-1))⟩] (.nd (.nd (.nd (.nd .lf 212
 [⟨70,[a [i 1,i 0,i 2,i 0],a [i 10,i 0,i 20,i 0]],.ab [.agg [i 11,i 0,i 22,i 0],.one (b true)]⟩] .lf) 246
 [⟨86,[o (s [3,141,126,164,198,128,0])],o (s [49,48,48,48,48,48,48,48,48,48,48,48,48,48,48,48])⟩] .lf) 252
 [⟨78,[o (i (-1000000000000000))],o (s [3,141,126,164,198,128,0])⟩] (.nd (.nd .lf 377
 [⟨1,[o (i 1)],o (s [1])⟩,
  ⟨15,[o (i 2)],o (s [2])⟩,
  ⟨17,[o (i 10)],o (s [10])⟩,
  ⟨83,[o (i 10000)],o (s [39,16])⟩,
  ⟨84,[o (i 1000)],o (s [3,232])⟩,
  ⟨85,[o (i 100)],o (s [100])⟩] .lf) 378
 [⟨79,[o (s [3,141,126,164,198,128,0]),o (s [1])],o (s [3,141,126,164,198,128,0])⟩] .lf)) 448
 [⟨26,[o (s [1]),o (s [1])],o (s [1])⟩,
  ⟨27,[o (s [10]),o (s [1])],o (s [10])⟩,
  ⟨33,[o (s [20]),o (s [1])],o (s [20])⟩,
  ⟨37,[o (s [21]),o (s [1])],o (s [21])⟩,
  ⟨38,[o (s [11]),o (s [1])],o (s [11])⟩,
  ⟨42,[o (s [2]),o (s [1])],o (s [2])⟩,
  ⟨46,[o (s [12]),o (s [1])],o (s [12])⟩,
  ⟨54,[o (s [22]),o (s [1])],o (s [22])⟩,
  ⟨59,[o (s [59,154,202,0]),o (s [1])],o (s [59,154,202,0])⟩,
  ⟨66,[o (s [11]),o (s [15,66,64])],o (s [167,216,192])⟩,
  ⟨68,[o (s [22]),o (s [15,66,64])],o (s [1,79,177,128])⟩] (.nd (.nd (.nd .lf 450
 [⟨28,[o (s [1]),o (s [10])],o (s [11])⟩,
  ⟨34,[o (s [1]),o (s [20])],o (s [21])⟩,
  ⟨43,[o (s [2]),o (s [10])],o (s [12])⟩,
  ⟨51,[o (s [2]),o (s [20])],o (s [22])⟩,
  ⟨57,[o (s [59,154,201,255]),o (s [1])],o (s [59,154,202,0])⟩,
  ⟨60,[o (s [11]),o (s [59,154,202,0])],o (s [59,154,202,11])⟩] .lf) 451
 [⟨39,[o (s [21]),o (s [11])],.ab [.one (s [10]),.one (b true)]⟩,
  ⟨47,[o (s [12]),o (s [11])],.ab [.one (s [1]),.one (b true)]⟩,
  ⟨48,[o (s [21]),o (s [12])],.ab [.one (s [9]),.one (b true)]⟩,
  ⟨55,[o (s [22]),o (s [11])],.ab [.one (s [11]),.one (b true)]⟩,
  ⟨56,[o (s [22]),o (s [21])],.ab [.one (s [1]),.one (b true)]⟩,
  ⟨63,[o (s [59,154,202,0]),o (s [22])],.ab [.one (s [59,154,201,234]),.one (b true)]⟩] .lf) 519
 [⟨22,[o (s [1]),o (s [1])],o (s [1])⟩,
  ⟨24,[o (s [10]),o (s [1])],o (s [1])⟩,
  ⟨29,[o (s [11]),o (s [1])],o (s [1])⟩,
  ⟨31,[o (s [20]),o (s [1])],o (s [1])⟩,
  ⟨35,[o (s [21]),o (s [1])],o (s [1])⟩,
  ⟨40,[o (s [2]),o (s [1])],o (s [1])⟩,
  ⟨44,[o (s [12]),o (s [1])],o (s [1])⟩,
  ⟨49,[o (s [9]),o (s [1])],o (s [1])⟩,
  ⟨52,[o (s [22]),o (s [1])],o (s [1])⟩,
  ⟨58,[o (s [59,154,202,0]),o (s [1])],o (s [1])⟩,
  ⟨61,[o (s [59,154,202,11]),o (s [1])],o (s [1])⟩,
  ⟨64,[o (s [59,154,201,234]),o (s [1])],o (s [1])⟩] (.nd .lf 520
 [⟨23,[o (s [1]),o (s [1])],.ab [.one (s [1]),.one (s []),.one (b true)]⟩,
  ⟨25,[o (s [10]),o (s [1])],.ab [.one (s [10]),.one (s []),.one (b true)]⟩,
  ⟨30,[o (s [11]),o (s [1])],.ab [.one (s [11]),.one (s []),.one (b true)]⟩,
  ⟨32,[o (s [20]),o (s [1])],.ab [.one (s [20]),.one (s []),.one (b true)]⟩,
  ⟨36,[o (s [21]),o (s [1])],.ab [.one (s [21]),.one (s []),.one (b true)]⟩,
  ⟨41,[o (s [2]),o (s [1])],.ab [.one (s [2]),.one (s []),.one (b true)]⟩,
  ⟨45,[o (s [12]),o (s [1])],.ab [.one (s [12]),.one (s []),.one (b true)]⟩,
  ⟨50,[o (s [9]),o (s [1])],.ab [.one (s [9]),.one (s []),.one (b true)]⟩,
  ⟨53,[o (s [22]),o (s [1])],.ab [.one (s [22]),.one (s []),.one (b true)]⟩,
  ⟨62,[o (s [59,154,202,11]),o (s [1])],.ab [.one (s [59,154,202,11]),.one (s []),.one (b true)]⟩,
  ⟨65,[o (s [59,154,201,234]),o (s [1])],.ab [.one (s [59,154,201,234]),.one (s []),.one (b true)]⟩,
  ⟨67,[o (s [167,216,192]),o (s [1])],.ab [.one (s [167,216,192]),.one (s []),.one (b true)]⟩,
  ⟨69,[o (s [1,79,177,128]),o (s [1])],.ab [.one (s [1,79,177,128]),.one (s []),.one (b true)]⟩] .lf))))
noncomputable def Sk:Tree Unit:=(.nd (.nd (.nd (.nd .lf 517 () .lf) 518 () (.nd .lf 522 () .lf)) 526 () (.nd (.nd .lf 563 () .lf) 564 () .lf)) 565 () (.nd (.nd (.nd .lf 593 () .lf) 594 () (.nd .lf 596 () .lf)) 597 () (.nd (.nd .lf 598 () .lf) 599 () .lf)))
noncomputable def sG(f:FuncId):Bool:=match Nat.beq f 571 with
 |true=>true
 |false=>match Sk.get f with
 |some _=>true
 |none=>false
def nc(l:eF):List Value:=l.map fun n=> .int .i64 n
class af where
 m:Int
def GG[af]:az:=fun g=>match g with
 | 1=>some (nc [1,10,100,1000,10000,100000,1000000])
 | 4=>some (nc [1,10,100,1000,10000,100000,1000000])
 | 0=>some [.int .i64 af.m]
 | 6=>some (nc [31,28,31,30,31,30,31,31,30,31,30,31])
 | 9=>some ([1,10,100,1000,10000,100000,1000000,10000000,100000000,1000000000,10000000000,100000000000,1000000000000,10000000000000,100000000000000,1000000000000000,10000000000000000,100000000000000000,1000000000000000000,10000000000000000000].map fun n=> .int .u64 n)
 |_=>none
def jq:RV->Option ByteArray
 | .v (.one (.p (.vl (.string s))))=>some s
 |_=>none
def prim(f:FuncId)(args:eG):Option RV:=match Nat.beq f 600 with
 |true=>match args with
  | [x,y]=>match jq x,jq y with
   |some x,some y=>some (atR (goInt (Extern.BytealgCompare.cmp x y)))
   |_,_=>none
  |_=>none
 |false=>none
noncomputable def CC[af](g:Nat):bO:={P:=prog,T:=TT,G:=GG,func:=fun f=>fns.get f,own:=sG,val:=k9 aM g prim}
abbrev I_(n:Int):PV:= .vl (.int .i64 n)
abbrev S_(s:ByteArray):PV:= .vl (.string s)
abbrev e_:LV:= .p (.vl (vs []))
abbrev No(e:Bool):RV:=a [i 0,i 1,i 0,i 0,e_,e_,i 1,i 0,i 0,i 0,i 1,i 0,i 0,i 1,i 0,nl,nl,b e]
abbrev C_(l:lW):Ob:= .cells l false
abbrev G_{α:Type}[Inhabited α](l:List α)(k:Int):α:=l.getD k.toNat default
abbrev BA:=ByteArray
abbrev B_(l:ak):BA:=ByteArray.mk (l.map UInt8.ofNat).toArray
abbrev eR(a b:Int):Int:=IntKind.i64.wrap (↑(BitVec.ofInt IntKind.i64.bits a &&& BitVec.ofInt IntKind.i64.bits b).toNat:Int)
abbrev dJ(a b:Int):Int:=IntKind.i64.wrap (↑(BitVec.ofInt IntKind.i64.bits a ||| BitVec.ofInt IntKind.i64.bits b).toNat:Int)
abbrev VC[af](f:FuncId)(j:eG)(Q:RV->Prop):Prop:=aR prog GG f j Q
abbrev VQ[af](f:FuncId)(j:eG)(R:RV):Prop:=aR prog GG f j (fun r=>r=R)
variable [af]
def Kn(a b:ByteArray)(w:World):(callFunc 613 #[.string a,.string b]).run prog w= .ok (.value (goInt (Extern.BytealgCompare.cmp a b))) w:=by rfl
def HK{x y:ByteArray}:aR prog GG 600 [atR (.string x),atR (.string y)] (·=atR (goInt (Extern.BytealgCompare.cmp x y))):=by refine .inl ⟨⟨f600,Tryz.func600,rfl,(funcOk 600 _ k_).2⟩,fun A S w vs B u c cs=> ?_⟩;obtain⟨z,D,rfl,h,C⟩:=u.dc;obtain⟨E,F,rfl,i,G⟩:=C.dc;obtain rfl:=G.dR;cases h;cases i;let r:=goInt (Extern.BytealgCompare.cmp x y);let I:Frame:={fn:=600,tmps:=#[],todo:=[],defers:=[],mode:= .run,kind:= .normal,roundOf:=none};let t0:Array Value:=#[.string x,.string y,undef,undef,undef,undef,undef,undef];(refine⟨atR r,[],r,A,S,w,⟨atR r,[],rfl,rfl⟩,?_,bG.vl _ rfl,B,Ext.refl⟩;have H:Frame.enter prog 600 #[.string x,.string y] .normal=Fr I t0 [.code (f600.body.getD .skip)]:=by simp[Frame.enter,Fr,Tryz.func600,I,t0];rfl);(have a:∀(t:Array Value)(J:String)(K:Array Edge),bx t (.tmp 5)= .string x->bx t (.tmp 6)= .string y->(execOp (bx t) {dst:=some 7,op:= .call {callee:= .value (.func 613),args:=#[.tmp 5,.tmp 6],argTypes:=#[9,9]},type:=3,pos:=J,after:=K,guard:=none}).run prog w= .ok (.value r) w:=by(intro t J K e f;show(Sem.run prog (do let d <- resolve (bx t) {callee:= .value (.func 613),args:=#[.tmp 5,.tmp 6],argTypes:=#[9,9]} 3;invoke d.target d.args) w)=_;have s:(#[Operand.tmp 5,Operand.tmp 6]:Array Operand).map (bx t)=#[.string x,.string y]:=by simp[e,f]);(have hd:(resolve (bx t) {callee:= .value (.func 613),args:=#[.tmp 5,.tmp 6],argTypes:=#[9,9]} 3).run prog w= .ok {target:= .fn (.func 613) #[],args:=#[.string x,.string y]} w:=by simp[resolve,Deferred.ofValue,bx,s]);simp only[Sem.run_bind,hd,Result.andThen_ok,invoke];exact Kn x y w);let t1:Array Value:=#[.string x,.string y,undef,undef,.int .i64 0,undef,undef,undef];let t2:Array Value:=#[.string x,.string y,undef,undef,.int .i64 0,.string x,undef,undef];let t3:Array Value:=#[.string x,.string y,undef,undef,.int .i64 0,.string x,.string y,undef];let t4:Array Value:=#[.string x,.string y,undef,undef,.int .i64 0,.string x,.string y,r];let t5:Array Value:=#[.string x,.string y,undef,undef,r,.string x,.string y,r];show Steps prog (lone (Frame.enter prog 600 #[.string x,.string y] .normal) (c::cs) w) _;rw[H];refine .head jW ?_;refine .head nR ?_;refine .head (iN (v:= .int .i64 0) (w':=w) rfl rfl rfl rfl) ?_;refine .head iJ ?_;refine .head jW ?_;refine .head nR ?_;refine .head (iN (v:= .string x) (w':=w) rfl rfl rfl rfl) ?_;refine .head (iN (v:= .string y) (w':=w) rfl rfl rfl rfl) ?_;refine .head (iN (v:=r) (w':=w) rfl rfl rfl (a _ _ _ rfl rfl)) ?_;refine .head (iN (v:=r) (w':=w) rfl rfl rfl rfl) ?_;refine .head iJ ?_;refine .head (rB rfl) ?_;refine Sx.Steps.cG (aie ⟨rfl,rfl,rfl,f600,Tryz.func600,?_⟩);kernel_rfl
def oJ:∀f args r,prim f args=some r->aR prog GG f args (·=r):=by intro f args r h;unfold prim at h;split at h;{rename_i T;have:=Wv T;subst this;split at h;{split at h;{rename_i x y a b hx hy;simp at h;subst h;unfold jq at hx hy;split at hx;{simp at hx;subst hx;split at hy;{simp at hy;subst hy;exact HK};simp at hy};simp at hx};simp at h};simp at h};simp at h
end Go.Sx.E1
namespace Go.Sx.E1
open Go.Proofs Go.Proofs.Tryz
instance:aG prog TT:=tok
def nm{f:Nat}{fn:Func}(h:fns.get f=some fn):fn.name≠ "runtime.NumGoroutine" :=(funcOk f fn h).2
def u:RV:= .ab []
def aP(N S:Int):Bool:=decide (S>=0) && (decide (S<=6) && (decide (N>=-1000000000000000) && (decide (N<=1000000000000000) && (S==0 || N.tmod 10 !=0))))
variable [af]
def kv{f:FuncId}{args:eG}{r:RV}(h:h_ (d8 (CC 0) 3000 60) f args=some r):aR prog GG f args (·=r):=
 aR.g6 (C:=CC 0) (bO.gK.ok (prim:=prim) ⟨tok,wf,mix,funcOk,oJ,by intro _ _ _ _ _ h;cases h⟩ cJ.zero rfl) h
end Go.Sx.E1
namespace Go.Sx.E1
open Go.Proofs Go.Proofs.Tryz
def b8(s:ByteArray):Prop:=(s.size:Int)<=200/\∀j:Int,0<=j->j<s.size->32<=an s j/\an s j<=126
def dH(k:Int)(s:ByteArray)(V A n:Int):Prop:=
 (k=0/\s=⟨#[]⟩/\V=0/\A=0/\0<=n/\n<=99)\/(k=1/\b8 s/\V=0/\A=0/\n=0)\/(k=2/\s=⟨#[]⟩/\aP V A=true/\n=0)\/
  (k=3/\s=⟨#[]⟩/\V=0/\A=0/\0<=n/\n<=3652058)\/(k=4/\s=⟨#[]⟩/\V=0/\A=0/\0<=n/\n<=1)
def aH:PV:= .vl (.slice none 0 0)
def sv(s:ByteArray):LV:= .p (.vl (.string s))
structure ce where
 k:Int
 s:ByteArray
 dn:Int
 ds:Int
 n:Int
 ok:dH k s dn ds n
instance:Inhabited ce:=⟨⟨0,⟨#[]⟩,0,0,0,.inl ⟨rfl,rfl,rfl,rfl,d_,d_⟩⟩⟩
def bw(c:ce):List PV:=[.vl (.int .i64 c.k),.vl (.string c.s),.vl (.int .i64 c.dn),.vl (.int .i64 c.ds),.vl (.int .i64 c.n),.vl (.slice none 0 0),.vl (.slice none 0 0)]
def ce.wU(c:ce)(h:c.k=5):False:=by have:=c.ok;unfold dH at this;omega
structure Row(w:Nat) where
 x:PV
 R:List ce
 h:aa bw R x
 hw:R.length=w
def Row.lS(w:Nat):Row w:=⟨.sl (List.replicate w default).length ((List.replicate w default).flatMap bw),List.replicate w default,.sl,s_⟩
instance {w:Nat}:Inhabited (Row w):=⟨Row.lS w⟩
def aW{w:Nat}(r:Row w):List PV:=[r.x]
structure Dp where
 x:PV
 F:List ByteArray
 t:ByteArray
 h:aa ae F x
 hw:F.length<=100
instance:Inhabited Dp:=⟨⟨aH,[],⟨#[]⟩,.nil rfl,d_⟩⟩
def ai(d:Dp):List PV:=[d.x,.vl (.string d.t)]
abbrev z_(n:Nat):List (ak):=List.replicate n []
def df(b:Bool):b=false\/b=true:=by cases b<;>simp
noncomputable abbrev Bd(fn:Func):Code:=fn.body.getD .skip
def kc{fn:Func}(h:fn.body.isSome=true):fn.body=some (Bd fn):=by unfold Bd;cases h2:fn.body with| none=>rw[h2]at h;cases h|some c=>rfl
variable [af]
section
variable {n:Nat} {fn:FuncId} {Q:St->Prop} {z:Z}
abbrev X(n:Nat)(fn:FuncId)(z:Z)(Q:St->Prop):Prop:=FX prog TT GG n fn z Q
def yO(m:Nat)(F:ag->Option (RV×ag)){r:RV}{hp:ag}(h:F (b4 prog TT GG m z)=some (r,hp))(T:X n fn (dD prog TT GG m z r hp) Q)(h1:nr prog TT GG m z=F (b4 prog TT GG m z):=by kernel_rfl):X n fn z Q:=FX.op wf m F h1 h T
def yL(m:Nat){α:Type}{enc:α->rK}{L:List α}{x:PV}(y:aa enc L x)(T:X n fn (dD prog TT GG m z (o (i L.length)) (b4 prog TT GG m z)) Q)(h:pi prog TT GG m z=some x:=by kernel_rfl):X n fn z Q:=FX.len wf m y h T
def yI(m:Nat)(k:Int){α:Type}{enc:α->rK}{L:List α}{x:PV}{s:Nat}[cZ enc s](y:aa enc L x)
  (T:X n fn (dD prog TT GG m z (o (.aX (L.flatMap enc) (k.toNat*s))) (b4 prog TT GG m z)) Q) (h0:0<=k:=by omega) (h1:k<L.length:=by omega) (h:pj prog TT GG m z=some (x,k,s):=by kernel_rfl):X n fn z Q:=FX.idx wf m k y h0 h1 h T
def yG(m:Nat){α:Type}(enc:α->rK)(L:List α)(k:Int){s:Nat}[cZ enc s][Inhabited α]
  (T:X n fn (dD prog TT GG m z (o (.p (hd (enc (L.getD k.toNat default))))) (b4 prog TT GG m z)) Q) (i:0<=k:=by omega) (j:k<L.length:=by omega) (h:gS prog TT GG m z=some (L.flatMap enc,k.toNat*s,0):=by kernel_rfl) (A:Nat.ble 1 s=true:=by kernel_rfl):X n fn z Q:=FX.ld wf m enc L k i j h A T
def iB(m:Nat){α:Type}(enc:α->rK)(L:List α)(k:Int)(d:Nat){s:Nat}[cZ enc s][Inhabited α]
  (T:X n fn (dD prog TT GG m z (o (.p (hd ((enc (L.getD k.toNat default)).drop d)))) (b4 prog TT GG m z)) Q) (i:0<=k:=by omega) (j:k<L.length:=by omega) (h:gS prog TT GG m z=some (L.flatMap enc,k.toNat*s+d,0):=by kernel_rfl) (A:Nat.ble (d+1) s=true:=by kernel_rfl):X n fn z Q:=FX.Uy wf m enc L k d i j h A T
def cO(m:Nat){α:Type}(enc:α->rK)(L:List α)(k:Int)(q:Nat){s:Nat}[cZ enc s][Inhabited α]
  (T:X n fn (dD prog TT GG m z (.v (.agg (pc ((enc (L.getD k.toNat default)).take q)))) (b4 prog TT GG m z)) Q) (i:0<=k:=by omega) (j:k<L.length:=by omega) (h:gS prog TT GG m z=some (L.flatMap enc,k.toNat*s,q+1):=by kernel_rfl) (A:Nat.ble q s=true:=by kernel_rfl):X n fn z Q:=FX.Uz wf m enc L k q i j h A T
def yY(m:Nat)(s:ByteArray)(k:Int)(T:X n fn (dD prog TT GG m z (o (.p (.vl (.int .u8 (an s k))))) (b4 prog TT GG m z)) Q)(h0:0<=k:=by omega)(h1:k<s.size:=by omega)(h:pM prog TT GG m z=some (s,k):=by kernel_rfl):X n fn z Q:=FX.byte wf m s k h0 h1 h T
def yA(m:Nat){α:Type}(enc:α->rK)(L:List α)(a:α)(y:Nat){s:Nat}[cZ enc s]
  (T:X n fn (dD prog TT GG m z (o (.ad (b4 prog TT GG m z).length 0 (L++[a]).length s)) ((b4 prog TT GG m z).set (pk prog TT GG m z) .gone++[.cells (pc ((L++[a]).flatMap enc)) false])) Q) (C:(L.length+1)*y<=17592186044416:=by omega) (D:L.length+1<=17592186044416:=by omega) (h:(lG prog TT GG m z).map (·.1)=some (pc (L.flatMap enc),L.length,s,pc (enc a),y):=by kernel_rfl):X n fn z Q:=FX.app wf m enc L a y C D h T
def yE(m c:Nat){α:Type}{x y:α}(e:x=y)(f:α->RV)(T:X n fn (cX c (f y) (aE prog TT GG m z)) Q)(h:(cY (aE prog TT GG m z)).regs[c]? =some (f x):=by kernel_rfl):X n fn z Q:=FX.gT wf m c e f h T
abbrev ob(x:Bool):RV:=o (b x)
abbrev oi(x:Int):RV:=o (i x)
abbrev bJ(x:Bool):RV:=o (b (!x))
def yp(m c:Nat)(p:Prop)[Decidable p](T:X n fn (cX c (o (b true)) (aE prog TT GG m z)) Q)(e:p:=by omega)(h:(cY (aE prog TT GG m z)).regs[c]? =some (o (b (decide p))):=by kernel_rfl):X n fn z Q:=FX.gT wf m c (Ye e) (fun v=>o (b v)) h T
def yn(m c:Nat)(p:Prop)[Decidable p](T:X n fn (cX c (o (b false)) (aE prog TT GG m z)) Q)(e:¬p:=by omega)(h:(cY (aE prog TT GG m z)).regs[c]? =some (o (b (decide p))):=by kernel_rfl):X n fn z Q:=FX.gT wf m c (XQ e) (fun v=>o (b v)) h T
def ye(m c:Nat)(x y:Int)(T:X n fn (cX c (o (b true)) (aE prog TT GG m z)) Q)(e:x=y:=by omega)(h:(cY (aE prog TT GG m z)).regs[c]? =some (o (b (x==y))):=by kernel_rfl):X n fn z Q:=FX.gT wf m c (Vw.2 e:(x==y)=true) (fun v=>o (b v)) h T
def yu(m c:Nat)(x y:Int)(T:X n fn (cX c (o (b false)) (aE prog TT GG m z)) Q)(e:¬x=y:=by omega)(h:(cY (aE prog TT GG m z)).regs[c]? =some (o (b (x==y))):=by kernel_rfl):X n fn z Q:=FX.gT wf m c (Xs.2 e:(x==y)=false) (fun v=>o (b v)) h T
noncomputable def wu(b j:Nat)(z:Z):Option LV:=match (cY z).hp[b]? with
 |some (.cells cs _)=>cs[j]?
 |_=>none
def wv(j:Nat)(v:LV):Ob->Ob
 | .cells cs fz=> .cells (cs.set j v) fz
 |o=>o
noncomputable def ww(b j:Nat)(v:LV)(z:Z):Z:=nb b (wv j v ((cY z).hp.getD b .gone)) z
def yQ(m b j:Nat){α:Type}{x y:α}(e:x=y)(f:α->LV)(T:X n fn (ww b j (f y) (aE prog TT GG m z)) Q)(h:wu b j (aE prog TT GG m z)=some (f x):=by kernel_rfl):X n fn z Q:=by subst e;unfold wu at h;split at h;{(rename_i cs fz hb;refine FX.obj wf m b rfl (fun _:Unit=> .cells cs fz) (x:=()) hb ?_;have:wv j (f x) ((cY (aE prog TT GG m z)).hp.getD b .gone)= .cells cs fz:=by simp only[VS,hb,aaQ,wv,uq h]);rwa [ww,this]at T};cases h
def fF(m b:Nat){α:Type}{x y:α}(e:x=y)(f:α->Ob)(T:X n fn (nb b (f y) (aE prog TT GG m z)) Q)(h:(cY (aE prog TT GG m z)).hp[b]? =some (f x):=by kernel_rfl):X n fn z Q:=FX.obj wf m b e f h T
def yw(k:Int)(h: -9223372036854775808<=k:=by omega)(i:k<9223372036854775808:=by omega):IntKind.wrap .i64 k=k:=g3 h i
def yJ(m c:Nat)(k:Int)(T:X n fn (cX c (o (i k)) (aE prog TT GG m z)) Q)(j: -9223372036854775808<=k:=by omega)(l:k<9223372036854775808:=by omega)(h:(cY (aE prog TT GG m z)).regs[c]? =some (o (i (IntKind.wrap .i64 k))):=by kernel_rfl):X n fn z Q:=FX.gT wf m c (g3 j l) (fun k=>o (i k)) h T
def yB(m c:Nat)(p:Prop)[Decidable p](i:p->X n fn (cX c (o (b true)) (aE prog TT GG m z)) Q)(j:¬p->X n fn (cX c (o (b false)) (aE prog TT GG m z)) Q)(h:(cY (aE prog TT GG m z)).regs[c]? =some (o (b (decide p))):=by kernel_rfl):X n fn z Q:=FX.br wf m c p h i j
def c9(m c:Nat)(x y:Int)(i:x=y->X n fn (cX c (o (b true)) (aE prog TT GG m z)) Q)(j:¬x=y->X n fn (cX c (o (b false)) (aE prog TT GG m z)) Q)(h:(cY (aE prog TT GG m z)).regs[c]? =some (o (b (x==y))):=by kernel_rfl):X n fn z Q:=by by_cases hp:x=y;{exact ye m c x y (i hp) hp h};exact yu m c x y (j hp) hp h
def eh(m c:Nat)(x y:Int)(i:x≠y->X n fn (cX c (o (b true)) (aE prog TT GG m z)) Q)(j:¬x≠y->X n fn (cX c (o (b false)) (aE prog TT GG m z)) Q)(h:(cY (aE prog TT GG m z)).regs[c]? =some (o (b (x !=y))):=by kernel_rfl):X n fn z Q:=by by_cases hp:x≠y;{exact FX.gT wf m c (eI hp) (fun v=>o (b v)) h (i hp)};exact FX.gT wf m c (b' hp) (fun v=>o (b v)) h (j hp)
def fb(m c:Nat)(x:Bool)(i:x=false->X n fn (cX c (o (b false)) (aE prog TT GG m z)) Q)(j:x=true->X n fn (cX c (o (b true)) (aE prog TT GG m z)) Q)(h:(cY (aE prog TT GG m z)).regs[c]? =some (o (b x)):=by kernel_rfl):X n fn z Q:=by cases hp:x;{exact FX.gT wf m c hp (fun v=>o (b v)) h (i hp)};exact FX.gT wf m c hp (fun v=>o (b v)) h (j hp)
def yC(m:Nat){g:FuncId}{l:eG}{F:RV->Prop}(P:aR prog GG g l F)(T:∀r,F r->X n fn (i_ prog TT GG m z r []) Q)(h:jh prog TT GG m z=some (g,l,[]):=by kernel_rfl):X n fn z Q:=FX.call wf m P h T
def yV(m:Nat){g:FuncId}{l:eG}{R:RV}(P:aR prog GG g l (fun r=>r=R))(T:X n fn (i_ prog TT GG m z R []) Q)(h:jh prog TT GG m z=some (g,l,[]):=by kernel_rfl):X n fn z Q:=FX.call wf m P h (by rintro _ rfl;exact T)
def yT(m:Nat)(Z:ak){g:FuncId}{l:eG}{F:RV->Prop}(P:aR prog GG g l F)(T:∀r,F r->X n fn (i_ prog TT GG m z r Z) Q)(h:jh prog TT GG m z=some (g,l,Z):=by kernel_rfl):X n fn z Q:=FX.P' wf m Z P h T
def yR(m b:Nat){g:FuncId}{l:eG}{cs:lW}{F:RV->lW->Prop}(P:cx prog GG g l cs F)(T:∀r c,F r c->X n fn (oF prog TT GG m b z r c) Q)(h:oE prog TT GG m b z=some (g,l,cs):=by kernel_rfl):X n fn z Q:=FX.oV wf m b P h T
def yW(m:Nat){g:FuncId}{l:eG}{s:Nat}{R:Prop}{F:Nat->lW->Prop}(P:d7 prog GG g l s R F)(i:R->X n fn (oG prog TT GG m z) Q)(j:∀k cs,F k cs->X n fn (oH prog TT GG m s z k cs) Q)(h:mv prog TT GG m z=some (g,l):=by kernel_rfl):X n fn z Q:=FX.oX wf m P h i j
def yD(m:Nat)(b y:List (ak))(τ:ak)(T:X n fn (o0 prog TT GG m b y τ z) Q)(h:oZ prog TT GG m b y τ z=true:=by kernel_rfl):X n fn z Q:=FX.draw wf mix m b y τ h T
def yK(m:Nat)(K:ak){N:Nat}{p:List (Nat×RV)×ag}{a:pA}(T:∀J,X n fn (.s a (b9 N p J)) Q)(hh:gL n K (b7 prog TT GG m z)=some p.2:=by kernel_rfl)(c:∀J,ho prog TT GG m n K N p.1 J z=some (a,bd N p.1 J):=by intro _;kernel_rfl):X n fn z Q:=FX.cut wf m K T c hh
def m_{P:Prop}(h:P:=by(try intro _);repeat first| exact fm|refine mo (gf (by kernel_rfl)) ?_|refine mo (HL (by kernel_rfl)) ?_|refine mo (HM (by kernel_rfl)) ?_|refine mo (HN (by kernel_rfl)) ?_|refine mo (HO (by kernel_rfl)) ?_|refine mo (by kernel_rfl) ?_):P:=h
noncomputable abbrev pT(fn:Func)(p:ak):pA:=kn (Bd fn) p []
def yP(m:Nat)(K:ak)(N:Nat)(a:pA){α:Type}(I:α->Prop)(μ:α->Nat)(s:α->List (Nat×RV)×ag)(y:α)(G:I y)
  (h:∀x,I x->(∀k,I k->μ k<μ x->∀J,X n fn (.s a (b9 N (s k) J)) Q)->∀J,X n fn (.s a (b9 N (s x) J)) Q) (hh:gL n K (b7 prog TT GG m z)=some (s y).2:=by kernel_rfl) (c:∀J,ho prog TT GG m n K N (s y).1 J z=some (a,bd N (s y).1 J):=by intro _;kernel_rfl):X n fn z Q:=FX.loop wf m K N a I μ s y G c hh h
def yN{N:Nat}{a:pA}{α:Type}(I:α->Prop)(μ:α->Nat)(s:α->List (Nat×RV)×ag)(h:∀x,I x->(∀k,I k->μ k<μ x->∀J,X n fn (.s a (b9 N (s k) J)) Q)->∀J,X n fn (.s a (b9 N (s x) J)) Q):∀x,I x->∀J,X n fn (.s a (b9 N (s x) J)) Q:=FX.ind I μ s h
def yU(m:Nat)(K:ak)(N:Nat)(a:pA)(L:List (Nat×RV))(hp:ag)(T:∀J,Fin prog GG n fn a ⟨bd N L J,hp⟩ Q)(hh:gL n K (b7 prog TT GG m z)=some hp:=by kernel_rfl)(c:∀J,ho prog TT GG m n K N L J z=some (a,bd N L J):=by intro _;kernel_rfl):X n fn z Q:=FX.out wf m K N a L hp c hh T
def yX{a:pA}{st:St}(h:X n fn (.s a st) Q):Fin prog GG n fn a st Q:=FX.fa h
def yM(m d:Nat){r r':RV}{ts:ak}(hz:bg (b7 prog TT GG m z) r=some (r',ts))(T:X n fn (pN prog TT GG m d r' ts z) Q)(A:o1 prog TT GG m d z=some r:=by kernel_rfl):X n fn z Q:=FX.fz wf m d hz A T
def yZ(m b j:Nat){x:LV}{y:PV}{ts:ak}(T:X n fn (pm prog TT GG m b j y ts z) Q)(hz:b2 (b7 prog TT GG m z) 12 x=some (y,ts):=by kernel_rfl)(A:o2 prog TT GG m b j ts z=some x:=by kernel_rfl):X n fn z Q:=FX.UA wf m b j hz A T
abbrev fR(f:Func)(T:RV->Prop)(st:St):Prop:=∃r,bQ TT GG f st=some r/\∃y ts,bg st.hp r=some (y,ts)/\T y
def yF(m:Nat){f:Func}(r:RV){T:RV->Prop}(M:T r)(h:jp prog TT GG fn m f z=some r:=by kernel_rfl):X n fn z (fR f T):=FX.fin wf m r h M
def jt(m:Nat){f:Func}(r:RV){r':RV}{ts:ak}{T:RV->Prop}(hz:bg (b7 prog TT GG m z) r=some (r',ts))(M:T r')(h:ee prog TT GG fn m f z=some r:=by kernel_rfl):X n fn z (fR f T):=FX.Sf wf m r h hz M
def db(m:Nat){f:Func}(r:RV)(cs:lW){r':RV}{ts:ak}{Q':RV->lW->Prop}(M:Q' r' cs)(hz:bg (b7 prog TT GG m z) r=some (r',ts):=by kernel_rfl)(h:ee prog TT GG fn m f z=some r:=by kernel_rfl)(i:ts.contains 0=false:=by kernel_rfl)(c:(b7 prog TT GG m z)[0]? =some (.cells cs false):=by kernel_rfl)(hp:cs.all cj=true:=by kernel_rfl):
  X n fn z fun st=>∃r,bQ TT GG f st=some r/\∃r' ts b,bg st.hp r=some (r',ts)/\0∉ts/\st.hp[0]? =some (.cells b false)/\b.all cj=true/\Q' r' b:=FX.Sg wf m r cs h hz i c hp M
def UC(m:Nat){f:Func}{s:Nat}{Q:Prop}{T:Nat->lW->Prop}(M:Q)(h:ee prog TT GG fn m f z=some (o nl):=by kernel_rfl):
  X n fn z fun st=>∃r,bQ TT GG f st=some r/\((r= .v (.one (.p (.vl (.slice none 0 0))))/\Q)\/∃n cs j,r= .v (.one (.ad j 0 n s))/\st.hp[j]? =some (.cells cs false)/\cs.all cj=true/\T n cs):=FX.Sh wf m h M
def UD(m:Nat){f:Func}{s:Nat}{Q:Prop}{T:Nat->lW->Prop}(k j:Nat)(cs:lW)(hp:cs.all cj=true)(M:T k cs)(h:ee prog TT GG fn m f z=some (o (.ad j 0 k s)):=by kernel_rfl)(c:(b7 prog TT GG m z)[j]? =some (.cells cs false):=by kernel_rfl):
  X n fn z fun st=>∃r,bQ TT GG f st=some r/\((r= .v (.one (.p (.vl (.slice none 0 0))))/\Q)\/∃n cs j,r= .v (.one (.ad j 0 n s))/\st.hp[j]? =some (.cells cs false)/\cs.all cj=true/\T n cs):=FX.Si wf m k j cs h c hp M
def kB(m:Nat){f:Func}(r:RV)(hp:ag){Q':RV->ag->Prop}(M:Q' r hp)(h:ee prog TT GG fn m f z=some r:=by kernel_rfl)(o:b7 prog TT GG m z=hp:=by kernel_rfl):X n fn z fun st=>∃r,bQ TT GG f st=some r/\Q' r st.hp:=FX.Sj wf m r hp h o M
end
def sV{f:Nat}{fn:Func}(h:fns.get f=some fn):cK f=false:=by(have h2:=(funcOk f fn h).1;have h3:prog.funcs.size=655:=by kernel_rfl);(have h4:f<prog.funcs.size:=by rw[aaT]at h2;exact h2.1);rw[h3]at h4;unfold cK;cases i:Nat.ble 1000000 f;{rfl};exact absurd (W0 h4 (Wu d_ (aaK i))) (Nat.lt_irrefl f)
def vX{f:Nat}(fn:Func){args:eG}{Q:RV->Prop}(h:X 0 f (.s [.code (Bd fn)] ⟨dm fn args,[]⟩) (fR fn Q))(i:fns.get f=some fn:=by kernel_rfl)(j:fn.body.isSome=true:=by kernel_rfl):aR prog GG f args Q:=
 aR.ex (T:=TT) (funcOk f fn i).1 (kc j) (funcOk f fn i).2 (FX.fa h) (sV i)
def vL{f:Nat}(fn:Func){args:eG}{s:Nat}{R:Prop}{Q:Nat->lW->Prop}(h:X 0 f (.s [.code (Bd fn)] ⟨dm fn args,[]⟩) fun st=>∃r,bQ TT GG fn st=some r/\((r= .v (.one (.p (.vl (.slice none 0 0))))/\R)\/∃n cs j,r= .v (.one (.ad j 0 n s))/\st.hp[j]? =some (.cells cs false)/\cs.all cj=true/\Q n cs))(i:fns.get f=some fn:=by kernel_rfl)(k:fn.body.isSome=true:=by kernel_rfl):d7 prog GG f args s R Q:=
 d7.ex (T:=TT) (funcOk f fn i).1 (kc k) (funcOk f fn i).2 (FX.fa h) (sV i)
def vR{f:Nat}(fn:Func){args:eG}{cs:lW}{Q:RV->lW->Prop}(h:X 1 f (.s [.code (Bd fn)] ⟨dm fn args,[.cells cs false]⟩) fun st=>∃r,bQ TT GG fn st=some r/\∃y Z b,bg st.hp r=some (y,Z)/\0∉Z/\st.hp[0]? =some (.cells b false)/\b.all cj=true/\Q y b)(i:fns.get f=some fn:=by kernel_rfl)(j:fn.body.isSome=true:=by kernel_rfl):cx prog GG f args cs Q:=
 cx.ex (T:=TT) (funcOk f fn i).1 (kc j) (funcOk f fn i).2 (FX.fa h) (sV i)
def vC{f:Nat}(fn:Func){args:eG}{L:ag}{Q:RV->ag->Prop}(h:X L.length f (.s [.code (Bd fn)] ⟨dm fn args,L⟩) fun st=>∃r,bQ TT GG fn st=some r/\Q r st.hp)(i:fns.get f=some fn:=by kernel_rfl)(j:fn.body.isSome=true:=by kernel_rfl):am prog GG (.fn f) args L Q:=
 am.ex (T:=TT) (funcOk f fn i).1 (kc j) (funcOk f fn i).2 (FX.fa h) (sV i)
instance:cZ ae 1:=⟨fun _=>rfl⟩
instance:cZ aj 1:=⟨fun _=>rfl⟩
instance:cZ aY 1:=⟨fun _=>rfl⟩
instance:cZ ai 2:=⟨fun _=>rfl⟩
instance:cZ bw 7:=⟨fun _=>rfl⟩
instance {w:Nat}:cZ (aW (w:=w)) 1:=⟨fun _=>rfl⟩
end Go.Sx.E1
namespace Go.Sx.E1
open Go.Proofs Go.Proofs.Tryz
variable [af]
section
variable {n:Nat} {fn:FuncId} {β:Type} {Φ:β->St->Prop} {ζ:(Nat->RV)->Z} {Q:β->Prop}
def EX(n:Nat)(fn:FuncId)(Φ:β->St->Prop)(ζ:(Nat->RV)->Z)(Q:β->Prop):Prop:=∃b,Q b/\∀J,X n fn (ζ J) (Φ b)
def aA(f:FuncId)(args:eG)(Q:RV->Prop):Prop:=∃r,Q r/\aR prog GG f args (fun x=>x=r)
def aA.of{f:FuncId}{args:eG}{r:RV}{Q:RV->Prop}(h:aR prog GG f args (fun x=>x=r))(M:Q r):aA f args Q:=⟨r,M,h⟩
def ip(f:FuncId)(args:eG)(cs:lW)(Q:RV->lW->Prop):Prop:=∃r b,Q r b/\cx prog GG f args cs (fun x A=>x=r/\A=b)
def EX.mono{f:(Nat->RV)->Z}(T:EX n fn Φ f Q)(h:∀J (K:St->Prop),X n fn (f J) K->X n fn (ζ J) K):EX n fn Φ ζ Q:=T.imp fun b p=>⟨p.1,fun J=>h J _ (p.2 J)⟩
def qO(m:Nat)(F:ag->Option (RV×ag)){r:RV}{hp:(Nat->RV)->ag}(h:∀J,F (b4 prog TT GG m (ζ J))=some (r,hp J))(T:EX n fn Φ (fun J=>dD prog TT GG m (ζ J) r (hp J)) Q)(i:∀J,nr prog TT GG m (ζ J)=F (b4 prog TT GG m (ζ J)):=by intro _;kernel_rfl):EX n fn Φ ζ Q:=T.mono fun J K p=>yO m F (h J) p (i J)
def qL(m:Nat){α:Type}{enc:α->rK}{L:List α}{x:PV}(y:aa enc L x)(T:EX n fn Φ (fun J=>dD prog TT GG m (ζ J) (o (i L.length)) (b4 prog TT GG m (ζ J))) Q)(h:∀J,pi prog TT GG m (ζ J)=some x:=by intro _;kernel_rfl):EX n fn Φ ζ Q:=T.mono fun J K p=>yL m y p (h J)
def qI(m:Nat)(k:Int){α:Type}{enc:α->rK}{L:List α}{x:PV}{s:Nat}[cZ enc s](y:aa enc L x)
  (T:EX n fn Φ (fun J=>dD prog TT GG m (ζ J) (o (.aX (L.flatMap enc) (k.toNat*s))) (b4 prog TT GG m (ζ J))) Q) (i:0<=k:=by omega) (h1:k<L.length:=by omega) (h:∀J,pj prog TT GG m (ζ J)=some (x,k,s):=by intro _;kernel_rfl):EX n fn Φ ζ Q:=T.mono fun J K p=>yI m k y p i h1 (h J)
def qG(m:Nat){α:Type}(enc:α->rK)(L:List α)(k:Int){s:Nat}[cZ enc s][Inhabited α]
  (T:EX n fn Φ (fun J=>dD prog TT GG m (ζ J) (o (.p (hd (enc (L.getD k.toNat default))))) (b4 prog TT GG m (ζ J))) Q) (i:0<=k:=by omega) (j:k<L.length:=by omega) (h:∀J,gS prog TT GG m (ζ J)=some (L.flatMap enc,k.toNat*s,0):=by intro _;kernel_rfl) (A:Nat.ble 1 s=true:=by kernel_rfl):EX n fn Φ ζ Q:=T.mono fun J K p=>yG m enc L k p i j (h J) A
def ju(m:Nat){α:Type}(enc:α->rK)(L:List α)(k:Int)(q:Nat){s:Nat}[cZ enc s][Inhabited α]
  (T:EX n fn Φ (fun J=>dD prog TT GG m (ζ J) (.v (.agg (pc ((enc (L.getD k.toNat default)).take q)))) (b4 prog TT GG m (ζ J))) Q) (i:0<=k:=by omega) (j:k<L.length:=by omega) (h:∀J,gS prog TT GG m (ζ J)=some (L.flatMap enc,k.toNat*s,q+1):=by intro _;kernel_rfl) (A:Nat.ble q s=true:=by kernel_rfl):EX n fn Φ ζ Q:=T.mono fun J K p=>cO m enc L k q p i j (h J) A
def qY(m:Nat)(s:ByteArray)(k:Int)(T:EX n fn Φ (fun J=>dD prog TT GG m (ζ J) (o (.p (.vl (.int .u8 (an s k))))) (b4 prog TT GG m (ζ J))) Q)(i:0<=k:=by omega)(j:k<s.size:=by omega)(h:∀J,pM prog TT GG m (ζ J)=some (s,k):=by intro _;kernel_rfl):EX n fn Φ ζ Q:=T.mono fun J K p=>yY m s k p i j (h J)
def qA(m:Nat){α:Type}(enc:α->rK)(L:List α)(a:α)(y:Nat){s:Nat}[cZ enc s]
  (T:EX n fn Φ (fun J=>dD prog TT GG m (ζ J) (o (.ad (b4 prog TT GG m (ζ J)).length 0 (L++[a]).length s)) ((b4 prog TT GG m (ζ J)).set (pk prog TT GG m (ζ J)) .gone++[.cells (pc ((L++[a]).flatMap enc)) false])) Q) (C:(L.length+1)*y<=17592186044416:=by omega) (D:L.length+1<=17592186044416:=by omega) (h:∀J,(lG prog TT GG m (ζ J)).map (·.1)=some (pc (L.flatMap enc),L.length,s,pc (enc a),y):=by intro _;kernel_rfl):EX n fn Φ ζ Q:=T.mono fun J K p=>yA m enc L a y p C D (h J)
def qE(m c:Nat){α:Type}{x y:α}(e:x=y)(f:α->RV)(T:EX n fn Φ (fun J=>cX c (f y) (aE prog TT GG m (ζ J))) Q)(h:∀J,(cY (aE prog TT GG m (ζ J))).regs[c]? =some (f x):=by intro _;kernel_rfl):EX n fn Φ ζ Q:=T.mono fun J K p=>yE m c e f p (h J)
def qp(m c:Nat)(p:Prop)[Decidable p](T:EX n fn Φ (fun J=>cX c (o (b true)) (aE prog TT GG m (ζ J))) Q)(e:p:=by omega)(h:∀J,(cY (aE prog TT GG m (ζ J))).regs[c]? =some (o (b (decide p))):=by intro _;kernel_rfl):EX n fn Φ ζ Q:=T.mono fun J K q=>yp m c p q e (h J)
def qn(m c:Nat)(p:Prop)[Decidable p](T:EX n fn Φ (fun J=>cX c (o (b false)) (aE prog TT GG m (ζ J))) Q)(e:¬p:=by omega)(h:∀J,(cY (aE prog TT GG m (ζ J))).regs[c]? =some (o (b (decide p))):=by intro _;kernel_rfl):EX n fn Φ ζ Q:=T.mono fun J K q=>yn m c p q e (h J)
def qe(m c:Nat)(x y:Int)(T:EX n fn Φ (fun J=>cX c (o (b true)) (aE prog TT GG m (ζ J))) Q)(e:x=y:=by omega)(h:∀J,(cY (aE prog TT GG m (ζ J))).regs[c]? =some (o (b (x==y))):=by intro _;kernel_rfl):EX n fn Φ ζ Q:=T.mono fun J K q=>ye m c x y q e (h J)
def qu(m c:Nat)(x y:Int)(T:EX n fn Φ (fun J=>cX c (o (b false)) (aE prog TT GG m (ζ J))) Q)(e:¬x=y:=by omega)(h:∀J,(cY (aE prog TT GG m (ζ J))).regs[c]? =some (o (b (x==y))):=by intro _;kernel_rfl):EX n fn Φ ζ Q:=T.mono fun J K q=>yu m c x y q e (h J)
def qQ(m b j:Nat){α:Type}{x y:α}(e:x=y)(f:α->LV)(T:EX n fn Φ (fun J=>ww b j (f y) (aE prog TT GG m (ζ J))) Q)(h:∀J,wu b j (aE prog TT GG m (ζ J))=some (f x):=by intro _;kernel_rfl):EX n fn Φ ζ Q:=T.mono fun J K p=>yQ m b j e f p (h J)
def qJ(m c:Nat)(k:Int)(T:EX n fn Φ (fun J=>cX c (o (i k)) (aE prog TT GG m (ζ J))) Q)(j: -9223372036854775808<=k:=by omega)(l:k<9223372036854775808:=by omega)(h:∀J,(cY (aE prog TT GG m (ζ J))).regs[c]? =some (o (i (IntKind.wrap .i64 k))):=by intro _;kernel_rfl):EX n fn Φ ζ Q:=T.mono fun J K p=>yJ m c k p j l (h J)
def qB(m c:Nat)(p:Prop)[Decidable p](i:p->EX n fn Φ (fun J=>cX c (o (b true)) (aE prog TT GG m (ζ J))) Q)(j:¬p->EX n fn Φ (fun J=>cX c (o (b false)) (aE prog TT GG m (ζ J))) Q)(h:∀J,(cY (aE prog TT GG m (ζ J))).regs[c]? =some (o (b (decide p))):=by intro _;kernel_rfl):EX n fn Φ ζ Q:=by by_cases hp:p;{exact qp m c p (i hp) hp h};exact qn m c p (j hp) hp h
def dz(m c:Nat)(x y:Int)(i:x=y->EX n fn Φ (fun J=>cX c (o (b true)) (aE prog TT GG m (ζ J))) Q)(j:¬x=y->EX n fn Φ (fun J=>cX c (o (b false)) (aE prog TT GG m (ζ J))) Q)(h:∀J,(cY (aE prog TT GG m (ζ J))).regs[c]? =some (o (b (x==y))):=by intro _;kernel_rfl):EX n fn Φ ζ Q:=by by_cases hp:x=y;{exact qe m c x y (i hp) hp h};exact qu m c x y (j hp) hp h
def eS(m c:Nat)(x y:Int)(i:x≠y->EX n fn Φ (fun J=>cX c (o (b true)) (aE prog TT GG m (ζ J))) Q)(j:¬x≠y->EX n fn Φ (fun J=>cX c (o (b false)) (aE prog TT GG m (ζ J))) Q)(h:∀J,(cY (aE prog TT GG m (ζ J))).regs[c]? =some (o (b (x !=y))):=by intro _;kernel_rfl):EX n fn Φ ζ Q:=by by_cases hp:x≠y;{exact qE m c (eI hp) (fun v=>o (b v)) (i hp) h};exact qE m c (b' hp) (fun v=>o (b v)) (j hp) h
def pO(m c:Nat)(x:Bool)(i:x=false->EX n fn Φ (fun J=>cX c (o (b false)) (aE prog TT GG m (ζ J))) Q)(j:x=true->EX n fn Φ (fun J=>cX c (o (b true)) (aE prog TT GG m (ζ J))) Q)(h:∀J,(cY (aE prog TT GG m (ζ J))).regs[c]? =some (o (b x)):=by intro _;kernel_rfl):EX n fn Φ ζ Q:=by cases hp:x;{exact qE m c hp (fun v=>o (b v)) (i hp) h};exact qE m c hp (fun v=>o (b v)) (j hp) h
def qV(m:Nat){g:FuncId}{l:eG}{R:RV}(P:aR prog GG g l (fun r=>r=R))(T:EX n fn Φ (fun J=>i_ prog TT GG m (ζ J) R []) Q)(h:∀J,jh prog TT GG m (ζ J)=some (g,l,[]):=by intro _;kernel_rfl):EX n fn Φ ζ Q:=T.mono fun J K p=>yV m P p (h J)
def qC(m:Nat){g:FuncId}{l:eG}{F:RV->Prop}(P:aA g l F)(T:∀r,F r->EX n fn Φ (fun J=>i_ prog TT GG m (ζ J) r []) Q)(h:∀J,jh prog TT GG m (ζ J)=some (g,l,[]):=by intro _;kernel_rfl):EX n fn Φ ζ Q:=by obtain⟨R,L,P⟩:=P;exact qV m P (T R L) h
def qT(m:Nat)(Z:ak){g:FuncId}{l:eG}{F:RV->Prop}(P:aA g l F)(T:∀r,F r->EX n fn Φ (fun J=>i_ prog TT GG m (ζ J) r Z) Q)(h:∀J,jh prog TT GG m (ζ J)=some (g,l,Z):=by intro _;kernel_rfl):EX n fn Φ ζ Q:=by obtain⟨R,L,P⟩:=P;exact(T R L).mono fun J K p=>yT m Z P (by rintro _ rfl;exact p) (h J)
def qR(m b:Nat){g:FuncId}{l:eG}{cs:lW}{F:RV->lW->Prop}(P:ip g l cs F)(T:∀r c,F r c->EX n fn Φ (fun J=>oF prog TT GG m b (ζ J) r c) Q)(h:∀J,oE prog TT GG m b (ζ J)=some (g,l,cs):=by intro _;kernel_rfl):EX n fn Φ ζ Q:=by obtain⟨R,A,L,P⟩:=P;exact(T R A L).mono fun J K p=>yR m b P akU (h J)
def qD(m:Nat)(b y:List (ak))(τ:ak)(T:EX n fn Φ (fun J=>o0 prog TT GG m b y τ (ζ J)) Q)(h:∀J,oZ prog TT GG m b y τ (ζ J)=true:=by intro _;kernel_rfl):EX n fn Φ ζ Q:=T.mono fun J K p=>yD m b y τ p (h J)
def qK(m:Nat)(K:ak){N:Nat}{p:List (Nat×RV)×ag}{a:pA}(T:EX n fn Φ (fun J=> .s a (b9 N p J)) Q)(hh:∀J,gL n K (b7 prog TT GG m (ζ J))=some p.2:=by intro _;kernel_rfl)(c:∀J R,ho prog TT GG m n K N p.1 R (ζ J)=some (a,bd N p.1 R):=by intro _ _;kernel_rfl):EX n fn Φ ζ Q:=by obtain⟨r,M,h⟩:=T;exact⟨r,M,fun J=>yK m K h (hh J) (c J)⟩
def qN{N:Nat}{a:pA}{α:Type}(I:α->Prop)(μ:α->Nat)(s:α->List (Nat×RV)×ag)(h:∀x,I x->(∀k,I k->μ k<μ x->EX n fn Φ (fun J=> .s a (b9 N (s k) J)) Q)->EX n fn Φ (fun J=> .s a (b9 N (s x) J)) Q):∀x,I x->EX n fn Φ (fun J=> .s a (b9 N (s x) J)) Q:=by(have key:∀(m:Nat) x,μ x<m->I x->EX n fn Φ (fun J=> .s a (b9 N (s x) J)) Q:=by intro m;induction m with| zero=>intro x M;omega| succ m d=>(exact fun x M y=>h x y fun k O F=>d k w_ O));exact fun x y=>key _ x (Nat.lt_succ_self _) y
def qP(m:Nat)(K:ak)(N:Nat)(a:pA){α:Type}(I:α->Prop)(μ:α->Nat)(s:α->List (Nat×RV)×ag)(y:α)(G:I y)
  (h:∀x,I x->(∀k,I k->μ k<μ x->EX n fn Φ (fun J=> .s a (b9 N (s k) J)) Q)->EX n fn Φ (fun J=> .s a (b9 N (s x) J)) Q) (hh:∀J,gL n K (b7 prog TT GG m (ζ J))=some (s y).2:=by intro _;kernel_rfl) (c:∀J R,ho prog TT GG m n K N (s y).1 R (ζ J)=some (a,bd N (s y).1 R):=by intro _ _;kernel_rfl):EX n fn Φ ζ Q:=
 qK m K (qN I μ s h y G) hh c
def qM(m d:Nat){r r':RV}{ts:ak}(hz:∀J,bg (b7 prog TT GG m (ζ J)) r=some (r',ts))(T:EX n fn Φ (fun J=>pN prog TT GG m d r' ts (ζ J)) Q)(A:∀J,o1 prog TT GG m d (ζ J)=some r:=by intro _;kernel_rfl):EX n fn Φ ζ Q:=T.mono fun J K p=>yM m d (hz J) p (A J)
def qZ(m b j:Nat){x:LV}{y:PV}{ts:ak}(T:EX n fn Φ (fun J=>pm prog TT GG m b j y ts (ζ J)) Q)(hz:∀J,b2 (b7 prog TT GG m (ζ J)) 12 x=some (y,ts):=by intro _;kernel_rfl)(A:∀J,o2 prog TT GG m b j ts (ζ J)=some x:=by intro _;kernel_rfl):EX n fn Φ ζ Q:=T.mono fun J K p=>yZ m b j p (hz J) (A J)
abbrev fE(f:Func)(r:RV):St->Prop:=fR f (fun x=>x=r)
abbrev sW(f:Func)(p:RV×lW)(st:St):Prop:=∃r,bQ TT GG f st=some r/\∃y ts b,bg st.hp r=some (y,ts)/\0∉ts/\st.hp[0]? =some (.cells b false)/\b.all cj=true/\(y=p.1/\b=p.2)
def qF(m:Nat){f:Func}(r:RV){T:RV->Prop}(M:T r)(h:∀J,jp prog TT GG fn m f (ζ J)=some r:=by intro _;kernel_rfl):EX n fn (fE f) ζ T:=⟨r,M,fun J=>yF m r rfl (h J)⟩
def kC(m:Nat){f:Func}(r:RV){r':RV}{ts:ak}{T:RV->Prop}(hz:∀J,bg (b7 prog TT GG m (ζ J)) r=some (r',ts))(M:T r')(h:∀J,ee prog TT GG fn m f (ζ J)=some r:=by intro _;kernel_rfl):EX n fn (fE f) ζ T:=⟨r',M,fun J=>jt m r (hz J) rfl (h J)⟩
def e0(m:Nat){f:Func}(r:RV)(cs:lW){r':RV}{ts:ak}{T:RV×lW->Prop}(M:T (r',cs))(hz:∀J,bg (b7 prog TT GG m (ζ J)) r=some (r',ts):=by intro _;kernel_rfl)(h:∀J,ee prog TT GG fn m f (ζ J)=some r:=by intro _;kernel_rfl)(i:ts.contains 0=false:=by kernel_rfl)(c:∀J,(b7 prog TT GG m (ζ J))[0]? =some (.cells cs false):=by intro _;kernel_rfl)(hp:cs.all cj=true:=by kernel_rfl):
  EX n fn (sW f) ζ T:=⟨(r',cs),M,fun J=>db m r cs (Q':=fun x A=>x=r'/\A=cs) ⟨rfl,rfl⟩ (hz J) (h J) i (c J) hp⟩
end
def vE{f:Nat}(fn:Func){args:eG}{Q:RV->Prop}(h:EX 0 f (fE fn) (fun _=> .s [.code (Bd fn)] ⟨dm fn args,[]⟩) Q)(i:fns.get f=some fn:=by kernel_rfl)(j:fn.body.isSome=true:=by kernel_rfl):aA f args Q:=h.imp fun r p=>⟨p.1,vX _ (p.2 fun _=>bl) i j⟩
def wV{f:Nat}(fn:Func){args:eG}{cs:lW}{Q:RV->lW->Prop}(h:EX 1 f (sW fn) (fun _=> .s [.code (Bd fn)] ⟨dm fn args,[.cells cs false]⟩) fun p=>Q p.1 p.2)(i:fns.get f=some fn:=by kernel_rfl)(j:fn.body.isSome=true:=by kernel_rfl):ip f args cs Q:=by obtain⟨⟨r,A⟩,M,p⟩:=h;exact⟨r,A,M,vR _ (p fun _=>bl) i j⟩
def Sl(J:Nat->RV):PV:=match J 0 with
 | .v (.one (.p x))=>x
 |_=> .vl vn
def ck(f:FuncId)(args:PV->eG)(Q:RV->Prop):Prop:=∃r,Q r/\∀x,aR prog GG f (args x) (fun y=>y=r)
def vF{f:Nat}(fn:Func){args:PV->eG}{Q:RV->Prop}(h:EX 0 f (fE fn) (fun J=> .s [.code (Bd fn)] ⟨dm fn (args (Sl J)),[]⟩) Q)(i:fns.get f=some fn:=by kernel_rfl)(j:fn.body.isSome=true:=by kernel_rfl):ck f args Q:=h.imp fun r p=>⟨p.1,fun x=>vX _ (p.2 fun _=>o (.p x)) i j⟩
end Go.Sx.E1
