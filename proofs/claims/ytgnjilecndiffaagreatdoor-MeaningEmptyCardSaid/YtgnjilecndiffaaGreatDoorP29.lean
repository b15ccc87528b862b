/- A part of the proof of MeaningEmpty. -/
import Derived.Test.YtgnjilecndiffaaGreatDoorP28
set_option linter.all false
set_option maxRecDepth 1000000
set_option maxHeartbeats 0
namespace Go.Sx.E1
open Go.Proofs
variable [MaxL]
theorem yS (m:Nat) {n:Nat} {fn:FuncId} {Q:St→Prop} {z:Z} (k:Int) {L:List Int} {x:PV} (hl:IsS encI L x)
  (hf:∀y,IsS encI (L.drop k.toNat) y→X n fn (nxZ Tryz.prog TT GG m z (o (.p y)) (hsZ Tryz.prog TT GG m z)) Q) (h0:0≤k:=by omega) (h1:k≤L.length:=by omega) (h:opZ Tryz.prog TT GG m z=sliceQ Tryz.prog TT 22 (o (.p x)) (some (o (i k))) none none (hsZ Tryz.prog TT GG m z):=by kernel_rfl):X n fn z Q:=by
 cases hl with
 | nil e=>
  subst e;obtain rfl:k=0:=by simp at h1;omega
  exact yO m (sliceQ Tryz.prog TT 22 (o nl) (some (o (i 0))) none none) (by kernel_rfl) (hf _ (.nil rfl)) (h1:=h)
 | sl=>exact FX.op wf m (sliceQ Tryz.prog TT 22 _ (some (o (i k))) none none) h (rule_sliceLoP (z:=1) (e:=3) (L:=L) (by kernel_rfl) (by kernel_rfl) (fun _=>rfl) h0 h1) (hf _ .sl)
theorem jc5_w_0 (L:List Int) (hL:(L.length:Int)<4611686018427387904) (xl:PV) (hx:IsS encI L xl) (h0:Nums L xl 0) (CL:List CRow) (v:Int) (Kc:Int) (yb:PV) (zb:PV) (xq:PV) (yv:PV) (ya:PV) (hI:∃(w:Nat) (R:List (Row w)) (QL:List ACol),IsS encRow R zb∧R.length≤6∧1≤w∧IsS encCol QL xq∧ColsEq QL∧(QL.length:Int)=4∧0≤v∧v<55∧CallsEq CL∧(CL.length:Int)=55∧MadeT yb zb∧MadeA ((CL.getD v.toNat default).R.length) ya∧Nums L xl Kc):∀J,X 0 5 (.s (pT Tryz.f5 [1,1,1,1,1,1,1,0,1,0]) (stOf 120 ([(2,o (.ref 0 0)),(3,o (.ref 1 0)),(5,o (.ref 2 0)),(10,o (i 0))],[.cells [.p (.vl (vs [])),.p (.vl (vs [])),nl,nl,nl,nl,nl,nl] false,.cells [.p xl,i Kc] false,.cells [.p (.vl (.string ((CL.getD v.toNat default).R.getD 0 default))),.p (.vl (.string ((CL.getD v.toNat default).R.getD 1 default))),.p yv,.p ya,.p (.sl 1 [(.vl (vs [116])),yb,zb]),.p xq,nl,nl] false]) J)) (fun st=>∃r,resultsR TT GG Tryz.f5 st=some r∧∃r' ts,fzR st.hp r=some (r',ts)∧(fun r=>∃(CL:List CRow) (v:Int) (yv ya yb zb xq rr wd:PV),r=a [sv ((CL.getD v.toNat default).R.getD 0 default),sv ((CL.getD v.toNat default).R.getD 1 default),.p yv,.p ya,.p (.sl 1 [.vl (vs [116]),yb,zb]),.p xq,.p rr,.p wd]∧0≤v∧v<55∧CallsEq CL∧MadeT yb zb∧MadeA ((CL.getD v.toNat default).R.length) ya∧∃QL:List ACol,ColsEq QL∧IsS encCol QL xq) r'):=by
 intro J;obtain ⟨w153,R154,QL155,hq156,_,_,hq159,_,_,_,_,_,_,_,_,_⟩:=hI;refine yP 1 [0,1,2] 120 (pT Tryz.f5 [1,1,1,1,1,1,1,0,1,0,0]) (α:=(Int×Int) ⊕ (Int×Int×List Va×List Ab)) (fun ix_=>match ix_ with | (.inl (j,Kg))=>j=0∧Nums L xl Kg | (.inr (q,Kh,V,Ws))=>1≤q∧q≤4∧(V.length:Int)=q∧(Ws.length:Int)=q∧Nums L xl Kh) (fun ix_=>match ix_ with | (.inl (j,Kg))=>(4 - j).toNat | (.inr (q,Kh,V,Ws))=>(4 - q).toNat) (fun ix_=>match ix_ with | (.inl (j,Kg))=>([(2,o (.ref 0 0)),(3,o (.ref 1 0)),(5,o (.ref 2 0)),(10,o (i j))],[.cells [.p (.vl (vs [])),.p (.vl (vs [])),nl,nl,nl,nl,nl,nl] false,.cells [.p xl,i Kg] false,.cells [.p (.vl (.string ((CL.getD v.toNat default).R.getD 0 default))),.p (.vl (.string ((CL.getD v.toNat default).R.getD 1 default))),.p yv,.p ya,.p (.sl 1 [(.vl (vs [116])),yb,zb]),.p xq,nl,nl] false]) | (.inr (q,Kh,V,Ws))=>([(2,o (.ref 0 0)),(3,o (.ref 1 0)),(5,o (.ref 2 0)),(10,o (i q))],[.cells [.p (.vl (vs [])),.p (.vl (vs [])),nl,nl,nl,nl,nl,nl] false,.cells [.p xl,i Kh] false,.cells [.p (.vl (.string ((CL.getD v.toNat default).R.getD 0 default))),.p (.vl (.string ((CL.getD v.toNat default).R.getD 1 default))),.p yv,.p ya,.p (.sl 1 [(.vl (vs [116])),yb,zb]),.p xq,.lsl 3 0 V.length 7,.lsl 4 0 Ws.length 18] false,.cells (pc (List.flatMap encVa V)) false,.cells (pc (List.flatMap encA Ws)) false])) (.inl (0,Kc)) (by exact ⟨by omega,by assumption⟩) ?_;rintro (⟨j,Kg⟩ | ⟨q,Kh,V,Ws⟩) hI ih10 J
 try dsimp only at hI ih10 ⊢
 ·obtain ⟨_,hq170⟩:=hI;refine yL 6 hq159<| yp 2 86 (j<(↑QL155.length:Int))<| yI 10 j hq159<| yG1 1 encCol QL155 j 1 ?_
  have:=(show (1≤(QL155.getD j.toNat default).k∧(QL155.getD j.toNat default).k≤5) from fact_colk j.toNat (by omega) (by omega))
  refine yR 0 1 (c26 _ _ _ ((QL155.getD j.toNat default).k) hq170 (by omega) (by omega)) ?_;rintro _ _ ⟨k174,s175,dn176,ds177,n178,y179,z180,K181,rfl,rfl,_,_,hq184⟩;refine yR 7 1 (c21 _ _ _ 12 hq184 (by decide) (by decide)) ?_;rintro _ _ ⟨v185,K186,rfl,rfl,_,_,hq189⟩;refine yBe 2 99 v185 11 (fun _=> ?_) fun _=> ?_
  ·refine yV 2 c27_0<| yD 12 [[1],[1]] [[],[],[],[],[],[],[],[],[1],[],[],[],[2]] (List.range 13)<| yR 8 1 (c25_0 _ (ByteArray.mk (List.map UInt8.ofNat [116]).toArray) yb _ _ _ _ hq189 hq156 (by omega) (by omega)) ?_
   rintro _ _ ⟨Kn191,p1192,p2193,p3194,p4195,p5196,e197,K198,le199,mx200,cl201,be202,en203,n204,s205,m206,t207,dl208,dh209,bo210,rl211,rh212,x213,z214,w215,D216,rfl,rfl,_,hq218,hq219,hq220,hq221,hq222,hq223,hq224,hq225,hq226,hq227,_⟩;exact yJ 12 10 (j+1)<| yK 0 [0,1,2,5,7] (ih10 (.inr ((j+1),Kn191,([Va.mk 0 (ByteArray.mk (List.map UInt8.ofNat []).toArray) 0 0 18 (PV.vl vn) (PV.vl vn)]),([Ab.mk p1192 p2193 p3194 p4195 p5196 e197 K198 le199 mx200 cl201 n204 s205 m206 t207 dl208 dh209 bo210 rl211 rh212 be202 en203 x213 z214 w215 D216 hq218 hq219 hq220 hq221 hq222 hq223 hq224 hq225 hq226 hq227]))) (by exact ⟨by omega,by omega,by ((simp only [List.length_append,List.length_cons,List.length_nil,List.length_take,List.length_drop,List.length_set] at*;omega)),by ((simp only [List.length_append,List.length_cons,List.length_nil,List.length_take,List.length_drop,List.length_set] at*;omega)),by assumption⟩) (by (try dsimp only);omega))
  refine yD 12 [[1],[1]] [[],[],[],[],[],[],[],[],[1],[],[],[],[2]] (List.range 13)<| yR 8 1 (c25 _ (ByteArray.mk (List.map UInt8.ofNat [116]).toArray) yb _ _ _ _ hq189 k174 s175 dn176 ds177 n178 y179 z180 (by omega) (by omega) (by omega) hq156 (by omega) (by omega)) ?_
  rintro _ _ ⟨Kn229,p1230,p2231,p3232,p4233,p5234,e235,K236,le237,mx238,cl239,be240,en241,n242,s243,m244,t245,dl246,dh247,bo248,rl249,rh250,x251,z252,w253,D254,rfl,rfl,_,hq256,hq257,hq258,hq259,hq260,hq261,hq262,hq263,hq264,hq265,_⟩;exact yJ 12 10 (j+1)<| yK 0 [0,1,2,5,7] (ih10 (.inr ((j+1),Kn229,([Va.mk k174 s175 dn176 ds177 n178 y179 z180]),([Ab.mk p1230 p2231 p3232 p4233 p5234 e235 K236 le237 mx238 cl239 n242 s243 m244 t245 dl246 dh247 bo248 rl249 rh250 be240 en241 x251 z252 w253 D254 hq256 hq257 hq258 hq259 hq260 hq261 hq262 hq263 hq264 hq265]))) (by exact ⟨by omega,by omega,by ((simp only [List.length_append,List.length_cons,List.length_nil,List.length_take,List.length_drop,List.length_set] at*;omega)),by ((simp only [List.length_append,List.length_cons,List.length_nil,List.length_take,List.length_drop,List.length_set] at*;omega)),by assumption⟩) (by (try dsimp only);omega))
 obtain ⟨_,_,_,_,hq271⟩:=hI;refine yL 6 hq159<| yB 2 86 (q<(↑QL155.length:Int)) (fun _=> ?_) fun _=> ?_
 ·refine yI 10 q hq159<| yG1 1 encCol QL155 q 1 ?_
  have:=(show (1≤(QL155.getD q.toNat default).k∧(QL155.getD q.toNat default).k≤5) from fact_colk q.toNat (by omega) (by omega))
  refine yR 0 1 (c26 _ _ _ ((QL155.getD q.toNat default).k) hq271 (by omega) (by omega)) ?_;rintro _ _ ⟨k275,s276,dn277,ds278,n279,y280,z281,K282,rfl,rfl,_,_,hq285⟩;refine yR 7 1 (c21 _ _ _ 12 hq285 (by decide) (by decide)) ?_;rintro _ _ ⟨v286,K287,rfl,rfl,_,_,hq290⟩;refine yBe 2 99 v286 11 (fun _=> ?_) fun _=> ?_
  ·refine yV 2 c27_0<| yA 8 encVa V (Va.mk 0 (ByteArray.mk (List.map UInt8.ofNat []).toArray) 0 0 18 (PV.vl vn) (PV.vl vn)) 96<| yD 3 [[1],[1]] [[],[],[],[],[],[],[],[],[1],[],[4],[],[2]] (List.range 13)<| yR 8 1 (c25_0 _ (ByteArray.mk (List.map UInt8.ofNat [116]).toArray) yb _ _ _ _ hq290 hq156 (by omega) (by omega)) ?_
   rintro _ _ ⟨Kn293,p1294,p2295,p3296,p4297,p5298,e299,K300,le301,mx302,cl303,be304,en305,n306,s307,m308,t309,dl310,dh311,bo312,rl313,rh314,x315,z316,w317,D318,rfl,rfl,_,hq320,hq321,hq322,hq323,hq324,hq325,hq326,hq327,hq328,hq329,_⟩;exact yA 1 encA Ws (Ab.mk p1294 p2295 p3296 p4297 p5298 e299 K300 le301 mx302 cl303 n306 s307 m308 t309 dl310 dh311 bo312 rl313 rh314 be304 en305 x315 z316 w317 D318 hq320 hq321 hq322 hq323 hq324 hq325 hq326 hq327 hq328 hq329) 192<| yJ 10 10 (q+1)<| yK 0 [0,1,2,7,9] (ih10 (.inr ((q+1),Kn293,(V++[Va.mk 0 (ByteArray.mk (List.map UInt8.ofNat []).toArray) 0 0 18 (PV.vl vn) (PV.vl vn)]),(Ws++[Ab.mk p1294 p2295 p3296 p4297 p5298 e299 K300 le301 mx302 cl303 n306 s307 m308 t309 dl310 dh311 bo312 rl313 rh314 be304 en305 x315 z316 w317 D318 hq320 hq321 hq322 hq323 hq324 hq325 hq326 hq327 hq328 hq329]))) (by exact ⟨by omega,by omega,by ((simp only [List.length_append,List.length_cons,List.length_nil,List.length_take,List.length_drop,List.length_set] at*;omega)),by ((simp only [List.length_append,List.length_cons,List.length_nil,List.length_take,List.length_drop,List.length_set] at*;omega)),by assumption⟩) (by (try dsimp only);omega)) (hh:=(mo (by kernel_rfl) (mo (by kernel_rfl) (mo (by kernel_rfl) (mo (renAt_pc (by kernel_rfl)) (mo (renAt_pc (by kernel_rfl)) (mo_nil)))))))
  refine yA 8 encVa V (Va.mk k275 s276 dn277 ds278 n279 y280 z281) 96<| yD 3 [[1],[1]] [[],[],[],[],[],[],[],[],[1],[],[4],[],[2]] (List.range 13)<| yR 8 1 (c25 _ (ByteArray.mk (List.map UInt8.ofNat [116]).toArray) yb _ _ _ _ hq290 k275 s276 dn277 ds278 n279 y280 z281 (by omega) (by omega) (by omega) hq156 (by omega) (by omega)) ?_
  rintro _ _ ⟨Kn333,p1334,p2335,p3336,p4337,p5338,e339,K340,le341,mx342,cl343,be344,en345,n346,s347,m348,t349,dl350,dh351,bo352,rl353,rh354,x355,z356,w357,D358,rfl,rfl,_,hq360,hq361,hq362,hq363,hq364,hq365,hq366,hq367,hq368,hq369,_⟩;exact yA 1 encA Ws (Ab.mk p1334 p2335 p3336 p4337 p5338 e339 K340 le341 mx342 cl343 n346 s347 m348 t349 dl350 dh351 bo352 rl353 rh354 be344 en345 x355 z356 w357 D358 hq360 hq361 hq362 hq363 hq364 hq365 hq366 hq367 hq368 hq369) 192<| yJ 10 10 (q+1)<| yK 0 [0,1,2,7,9] (ih10 (.inr ((q+1),Kn333,(V++[Va.mk k275 s276 dn277 ds278 n279 y280 z281]),(Ws++[Ab.mk p1334 p2335 p3336 p4337 p5338 e339 K340 le341 mx342 cl343 n346 s347 m348 t349 dl350 dh351 bo352 rl353 rh354 be344 en345 x355 z356 w357 D358 hq360 hq361 hq362 hq363 hq364 hq365 hq366 hq367 hq368 hq369]))) (by exact ⟨by omega,by omega,by ((simp only [List.length_append,List.length_cons,List.length_nil,List.length_take,List.length_drop,List.length_set] at*;omega)),by ((simp only [List.length_append,List.length_cons,List.length_nil,List.length_take,List.length_drop,List.length_set] at*;omega)),by assumption⟩) (by (try dsimp only);omega)) (hh:=(mo (by kernel_rfl) (mo (by kernel_rfl) (mo (by kernel_rfl) (mo (renAt_pc (by kernel_rfl)) (mo (renAt_pc (by kernel_rfl)) (mo_nil)))))))
 exact yFF 7 (a [.p (.vl (.string ((CL.getD v.toNat default).R.getD 0 default))),.p (.vl (.string ((CL.getD v.toNat default).R.getD 1 default))),.p yv,.p ya,.p (.sl 1 [(.vl (vs [116])),yb,zb]),.p xq,.lsl 3 0 V.length 7,.lsl 4 0 Ws.length 18]) (r':=a [.p (.vl (.string ((CL.getD v.toNat default).R.getD 0 default))),.p (.vl (.string ((CL.getD v.toNat default).R.getD 1 default))),.p yv,.p ya,.p (.sl 1 [(.vl (vs [116])),yb,zb]),.p xq,.p (.sl V.length (List.flatMap encVa V)),.p (.sl Ws.length (List.flatMap encA Ws))]) (ts:=[3,4]) (fzR_agg (xs:=[.p (.vl (.string ((CL.getD v.toNat default).R.getD 0 default))),.p (.vl (.string ((CL.getD v.toNat default).R.getD 1 default))),.p yv,.p ya,.p (.sl 1 [(.vl (vs [116])),yb,zb]),.p xq,.lsl 3 0 V.length 7,.lsl 4 0 Ws.length 18]) (ps:=[((.vl (.string ((CL.getD v.toNat default).R.getD 0 default))),[]),((.vl (.string ((CL.getD v.toNat default).R.getD 1 default))),[]),(yv,[]),(ya,[]),((.sl 1 [(.vl (vs [116])),yb,zb]),[]),(xq,[]),((.sl V.length (List.flatMap encVa V)),[3]),((.sl Ws.length (List.flatMap encA Ws)),[4])]) (mo (by kernel_rfl) (mo (by kernel_rfl) (mo (by kernel_rfl) (mo (by kernel_rfl) (mo (by kernel_rfl) (mo (by kernel_rfl) (mo (fzL_pc (fz:=false) (by kernel_rfl) (by exact flat_len (z:=7) (fun _=>rfl) _)) (mo (fzL_pc (fz:=false) (by kernel_rfl) (by exact flat_len (z:=18) (fun _=>rfl) _)) (mo_nil))))))))))<| ⟨_,_,_,_,_,_,_,_,_,rfl,by assumption,by assumption,by assumption,by assumption,by assumption,_,by assumption,by assumption⟩
theorem c5_w (L:List Int) (hL:(L.length:Int)<4611686018427387904) (xl:PV) (hx:IsS encI L xl) (h0:Nums L xl 0):ValC Tryz.prog GG 5 [o (.p xl)] (fun r=>∃(CL:List CRow) (v:Int) (yv ya yb zb xq rr wd:PV),r=a [sv ((CL.getD v.toNat default).R.getD 0 default),sv ((CL.getD v.toNat default).R.getD 1 default),.p yv,.p ya,.p (.sl 1 [.vl (vs [116]),yb,zb]),.p xq,.p rr,.p wd]∧0≤v∧v<55∧CallsEq CL∧MadeT yb zb∧MadeA ((CL.getD v.toNat default).R.length) ya∧∃QL:List ACol,ColsEq QL∧IsS encCol QL xq):=by
 refine vX (fn:=Tryz.f5)<| yC 13 c20_0 ?_
 rintro _ ⟨CL0,x1,rfl,hq2,_,_⟩;refine yC 1 c20_0 ?_;rintro _ ⟨CL5,x6,rfl,hq7,_,_⟩;refine yL 0 hq7<| yR 0 1 (c21 _ _ _ ((↑CL5.length:Int)) h0 (by omega) (by omega)) ?_
 rintro _ _ ⟨v11,K12,rfl,rfl,_,_,_⟩;refine yI 0 v11 hq2<| yG 0 encCR CL0 v11<| yD 3 [[],[],[],[],[],[],[99999]] [[],[],[],[],[],[],[],[],[],[2]] (List.range 10)<| yI 1 0 ((CL0.getD v11.toNat default)).h ?_ (h0:=by decide) (h1:=by have:=(show (2≤(↑(CL0.getD v11.toNat default).R.length:Int)∧(↑(CL0.getD v11.toNat default).R.length:Int)≤5) from fact_crow v11.toNat (by omega) (by omega));omega)
 refine yO 0 (loadA TT GG 9 (o (.pref (List.flatMap encS (CL0.getD v11.toNat default).R) 0))) (rule_load0s (L:=((CL0.getD v11.toNat default).R)) default (by kernel_rfl) (by kernel_rfl) (by exact fun _=>rfl) (by have:=(show (2≤(↑(CL0.getD v11.toNat default).R.length:Int)∧(↑(CL0.getD v11.toNat default).R.length:Int)≤5) from fact_crow v11.toNat (by omega) (by omega));omega))<| yI 1 1 ((CL0.getD v11.toNat default)).h ?_ (h0:=by decide) (h1:=by have:=(show (2≤(↑(CL0.getD v11.toNat default).R.length:Int)∧(↑(CL0.getD v11.toNat default).R.length:Int)≤5) from fact_crow v11.toNat (by omega) (by omega));omega)
 refine yO 0 (loadA TT GG 9 (o (.pref (List.flatMap encS (CL0.getD v11.toNat default).R) 1))) (rule_load1s (L:=((CL0.getD v11.toNat default).R)) default (by kernel_rfl) (by kernel_rfl) (by exact fun _=>rfl) (by have:=(show (2≤(↑(CL0.getD v11.toNat default).R.length:Int)∧(↑(CL0.getD v11.toNat default).R.length:Int)≤5) from fact_crow v11.toNat (by omega) (by omega));omega))<| yC 0 c22_0 ?_
 rintro _ ⟨QL16,x17,rfl,_,_,_⟩;refine yL 7 hx<| yS 7 (if 12<(↑L.length:Int) then 12 else (↑L.length:Int)) hx ?_
 intro xd hxd;have:=(show (0≤(List.drop (if 12<(↑L.length:Int) then 12 else (↑L.length:Int)).toNat L).length∧(List.drop (if 12<(↑L.length:Int) then 12 else (↑L.length:Int)).toNat L).length≤L.length) from fact_drop L ((if 12<(↑L.length:Int) then 12 else (↑L.length:Int)).toNat))
 refine yC 0 (c23 (ByteArray.mk (List.map UInt8.ofNat [116]).toArray) (List.drop (if 12<(↑L.length:Int) then 12 else (↑L.length:Int)).toNat L) xd hxd (by omega)) ?_;rintro _ ⟨w22,R23,y24,z25,Kd26,rfl,_,_,_,hq30,_,_,_,_,_⟩;refine yP 11 [0,1,2,3] 120 (pT Tryz.f5 [1,1,1,1,1,1,0,1,0,0]) (α:=(Int×Int) ⊕ (Int×Int×List Va×List Ab)) (fun ix_=>match ix_ with | (.inl (k,Ka))=>k=2∧Nums L xl Ka | (.inr (q,Kb,V,As))=>3≤q∧q≤5∧q≤(CL0.getD v11.toNat default).R.length∧(V.length:Int)=q - 2∧(As.length:Int)=q - 2∧AllNe As∧Nums L xl Kb) (fun ix_=>match ix_ with | (.inl (k,Ka))=>(5 - k).toNat | (.inr (q,Kb,V,As))=>(5 - q).toNat) (fun ix_=>match ix_ with | (.inl (k,Ka))=>([(2,o (.ref 0 0)),(3,o (.ref 1 0)),(4,o (.p ((CL0.getD v11.toNat default).x))),(5,o (.ref 2 0)),(7,o (i k))],[.cells [.p (.vl (vs [])),.p (.vl (vs [])),nl,nl,nl,nl,nl,nl] false,.cells [.p xl,i Ka] false,.cells [.p (.vl (.string ((CL0.getD v11.toNat default).R.getD 0 default))),.p (.vl (.string ((CL0.getD v11.toNat default).R.getD 1 default))),nl,nl,.lsl 3 0 1 3,.p x17,nl,nl] false,.cells [.p (.vl (vs [116])),.p y24,.p z25] false]) | (.inr (q,Kb,V,As))=>([(2,o (.ref 0 0)),(3,o (.ref 1 0)),(4,o (.p ((CL0.getD v11.toNat default).x))),(5,o (.ref 2 0)),(7,o (i q))],[.cells [.p (.vl (vs [])),.p (.vl (vs [])),nl,nl,nl,nl,nl,nl] false,.cells [.p xl,i Kb] false,.cells [.p (.vl (.string ((CL0.getD v11.toNat default).R.getD 0 default))),.p (.vl (.string ((CL0.getD v11.toNat default).R.getD 1 default))),.lsl 3 0 V.length 7,.lsl 4 0 As.length 18,.lsl 5 0 1 3,.p x17,nl,nl] false,.cells (pc (List.flatMap encVa V)) false,.cells (pc (List.flatMap encA As)) false,.cells [.p (.vl (vs [116])),.p y24,.p z25] false])) (.inl (2,K12)) (by exact ⟨by omega,by assumption⟩) ?_;rintro (⟨k,Ka⟩ | ⟨q,Kb,V,As⟩) hI ih9 J
 try dsimp only at hI ih9 ⊢
 ·obtain ⟨_,hq37⟩:=hI;refine yL 5 ((CL0.getD v11.toNat default)).h ?_;have:=(show (2≤(↑(CL0.getD v11.toNat default).R.length:Int)∧(↑(CL0.getD v11.toNat default).R.length:Int)≤5) from fact_crow v11.toNat (by omega) (by omega))
  refine yB 2 42 (k<(↑(CL0.getD v11.toNat default).R.length:Int)) (fun _=> ?_) fun _=> ?_
  ·refine yI 8 k ((CL0.getD v11.toNat default)).h<| yG 0 encS ((CL0.getD v11.toNat default).R) k<| yY 0 ((CL0.getD v11.toNat default).R.getD k.toNat default) 0 ?_ (h0:=by decide) (h1:=by have:=(show (1≤(↑((CL0.getD v11.toNat default).R.getD k.toNat default).size:Int)∧(↑((CL0.getD v11.toNat default).R.getD k.toNat default).size:Int)≤(↑((CL0.getD v11.toNat default).R.getD k.toNat default).size:Int)) from fact_csize v11.toNat k.toNat (by omega) (by omega) (by omega) (by omega));omega)
   have:=(show (49≤byteAt ((CL0.getD v11.toNat default).R.getD k.toNat default) 0∧byteAt ((CL0.getD v11.toNat default).R.getD k.toNat default) 0≤53) from fact_ckind v11.toNat k.toNat (by omega) (by omega) (by omega) (by omega))
   refine yE 8 8 (wrap_u8 (n:=(byteAt ((CL0.getD v11.toNat default).R.getD k.toNat default) 0 - 48)) (by omega) (by omega)) (fun z=>o (i (IntKind.i64.wrap z)))<| yJ 0 8 (byteAt ((CL0.getD v11.toNat default).R.getD k.toNat default) 0 - 48)<| yR 0 1 (c21 _ _ _ 15 hq37 (by decide) (by decide)) ?_
   rintro _ _ ⟨v42,K43,rfl,rfl,_,_,hq46⟩;refine yBe 2 54 v42 14 (fun _=> ?_) fun _=> ?_
   ·refine yR 3 1 (c21 _ _ _ 6 hq46 (by decide) (by decide)) ?_;rintro _ _ ⟨v48,K49,rfl,rfl,_,_,hq52⟩;refine yR 10 1 (c24_1 _ (ByteArray.mk (List.map UInt8.ofNat [116]).toArray) y24 _ _ _ _ v48 hq52 (by omega) (by omega) hq30 (by omega) (by omega)) ?_;rintro _ _ ⟨k53,s54,dn55,ds56,n57,y58,z59,K60,rfl,rfl,_,hq62,_,_⟩;refine yD 13 [[1],[1]] [[],[],[],[],[],[],[],[],[1],[],[],[],[2]] (List.range 13)<| yR 8 1 (c25 _ (ByteArray.mk (List.map UInt8.ofNat [116]).toArray) y24 _ _ _ _ hq62 k53 s54 dn55 ds56 n57 y58 z59 (by omega) (by omega) (by omega) hq30 (by omega) (by omega)) ?_
    rintro _ _ ⟨Kn65,p166,p267,p368,p469,p570,e71,K72,le73,mx74,cl75,be76,en77,n78,s79,m80,t81,dl82,dh83,bo84,rl85,rh86,x87,z88,w89,D90,rfl,rfl,_,hq92,hq93,hq94,hq95,hq96,hq97,hq98,hq99,hq100,hq101,_⟩;exact yJ 12 7 (k+1)<| yK 0 [0,1,2,6,8,3] (ih9 (.inr ((k+1),Kn65,([Va.mk k53 s54 dn55 ds56 n57 y58 z59]),([Ab.mk p166 p267 p368 p469 p570 e71 K72 le73 mx74 cl75 n78 s79 m80 t81 dl82 dh83 bo84 rl85 rh86 be76 en77 x87 z88 w89 D90 hq92 hq93 hq94 hq95 hq96 hq97 hq98 hq99 hq100 hq101]))) (by exact ⟨by omega,by omega,by omega,by ((simp only [List.length_append,List.length_cons,List.length_nil,List.length_take,List.length_drop,List.length_set] at*;omega)),by ((simp only [List.length_append,List.length_cons,List.length_nil,List.length_take,List.length_drop,List.length_set] at*;omega)),ne_snoc (As:=[]) ne_nil (by assumption),by assumption⟩) (by (try dsimp only);omega))
   refine yR 10 1 (c24_1 _ (ByteArray.mk (List.map UInt8.ofNat [116]).toArray) y24 _ _ _ _ (byteAt ((CL0.getD v11.toNat default).R.getD k.toNat default) 0 - 48) hq46 (by omega) (by omega) hq30 (by omega) (by omega)) ?_;rintro _ _ ⟨k103,s104,dn105,ds106,n107,y108,z109,K110,rfl,rfl,_,hq112,_,_⟩;refine yD 13 [[1],[1]] [[],[],[],[],[],[],[],[],[1],[],[],[],[2]] (List.range 13)<| yR 8 1 (c25 _ (ByteArray.mk (List.map UInt8.ofNat [116]).toArray) y24 _ _ _ _ hq112 k103 s104 dn105 ds106 n107 y108 z109 (by omega) (by omega) (by omega) hq30 (by omega) (by omega)) ?_
   rintro _ _ ⟨Kn115,p1116,p2117,p3118,p4119,p5120,e121,K122,le123,mx124,cl125,be126,en127,n128,s129,m130,t131,dl132,dh133,bo134,rl135,rh136,x137,z138,w139,D140,rfl,rfl,_,hq142,hq143,hq144,hq145,hq146,hq147,hq148,hq149,hq150,hq151,_⟩;exact yJ 12 7 (k+1)<| yK 0 [0,1,2,6,8,3] (ih9 (.inr ((k+1),Kn115,([Va.mk k103 s104 dn105 ds106 n107 y108 z109]),([Ab.mk p1116 p2117 p3118 p4119 p5120 e121 K122 le123 mx124 cl125 n128 s129 m130 t131 dl132 dh133 bo134 rl135 rh136 be126 en127 x137 z138 w139 D140 hq142 hq143 hq144 hq145 hq146 hq147 hq148 hq149 hq150 hq151]))) (by exact ⟨by omega,by omega,by omega,by ((simp only [List.length_append,List.length_cons,List.length_nil,List.length_take,List.length_drop,List.length_set] at*;omega)),by ((simp only [List.length_append,List.length_cons,List.length_nil,List.length_take,List.length_drop,List.length_set] at*;omega)),ne_snoc (As:=[]) ne_nil (by assumption),by assumption⟩) (by (try dsimp only);omega))
  exact yZ 8 2 4 (x:= .lsl 3 0 1 3) (y:=(.sl 1 [(.vl (vs [116])),y24,z25])) (ts:=[3])<| yK 0 [0,1,2] (jc5_w_0 L hL xl hx h0 CL0 v11 Ka y24 z25 x17 (PV.vl vn) (PV.vl vn) (by exact ⟨_,_,_,by assumption,by omega,by omega,by assumption,by assumption,by omega,by omega,by omega,by assumption,by omega,⟨_,_,_,by assumption,by omega,by omega,by assumption,by omega,by omega,by assumption,by assumption,by assumption⟩,⟨[],.nil rfl,by (simp only [List.length_nil];omega),ne_nil⟩,by assumption⟩))
 obtain ⟨_,_,_,_,_,_,hq378⟩:=hI;refine yL 5 ((CL0.getD v11.toNat default)).h ?_;have:=(show (2≤(↑(CL0.getD v11.toNat default).R.length:Int)∧(↑(CL0.getD v11.toNat default).R.length:Int)≤5) from fact_crow v11.toNat (by omega) (by omega))
 refine yB 2 42 (q<(↑(CL0.getD v11.toNat default).R.length:Int)) (fun _=> ?_) fun _=> ?_
 ·refine yI 8 q ((CL0.getD v11.toNat default)).h<| yG 0 encS ((CL0.getD v11.toNat default).R) q<| yY 0 ((CL0.getD v11.toNat default).R.getD q.toNat default) 0 ?_ (h0:=by decide) (h1:=by have:=(show (1≤(↑((CL0.getD v11.toNat default).R.getD q.toNat default).size:Int)∧(↑((CL0.getD v11.toNat default).R.getD q.toNat default).size:Int)≤(↑((CL0.getD v11.toNat default).R.getD q.toNat default).size:Int)) from fact_csize v11.toNat q.toNat (by omega) (by omega) (by omega) (by omega));omega)
  have:=(show (49≤byteAt ((CL0.getD v11.toNat default).R.getD q.toNat default) 0∧byteAt ((CL0.getD v11.toNat default).R.getD q.toNat default) 0≤53) from fact_ckind v11.toNat q.toNat (by omega) (by omega) (by omega) (by omega))
  refine yE 8 8 (wrap_u8 (n:=(byteAt ((CL0.getD v11.toNat default).R.getD q.toNat default) 0 - 48)) (by omega) (by omega)) (fun z=>o (i (IntKind.i64.wrap z)))<| yJ 0 8 (byteAt ((CL0.getD v11.toNat default).R.getD q.toNat default) 0 - 48)<| yR 0 1 (c21 _ _ _ 15 hq378 (by decide) (by decide)) ?_
  rintro _ _ ⟨v383,K384,rfl,rfl,_,_,hq387⟩;refine yBe 2 54 v383 14 (fun _=> ?_) fun _=> ?_
  ·refine yR 3 1 (c21 _ _ _ 6 hq387 (by decide) (by decide)) ?_;rintro _ _ ⟨v389,K390,rfl,rfl,_,_,hq393⟩;refine yR 10 1 (c24_1 _ (ByteArray.mk (List.map UInt8.ofNat [116]).toArray) y24 _ _ _ _ v389 hq393 (by omega) (by omega) hq30 (by omega) (by omega)) ?_;rintro _ _ ⟨k394,s395,dn396,ds397,n398,y399,z400,K401,rfl,rfl,_,hq403,_,_⟩;refine yA 9 encVa V (Va.mk k394 s395 dn396 ds397 n398 y399 z400) 96<| yD 3 [[1],[1]] [[],[],[],[],[],[],[],[],[1],[],[4],[],[2]] (List.range 13)<| yR 8 1 (c25 _ (ByteArray.mk (List.map UInt8.ofNat [116]).toArray) y24 _ _ _ _ hq403 k394 s395 dn396 ds397 n398 y399 z400 (by omega) (by omega) (by omega) hq30 (by omega) (by omega)) ?_
   rintro _ _ ⟨Kn407,p1408,p2409,p3410,p4411,p5412,e413,K414,le415,mx416,cl417,be418,en419,n420,s421,m422,t423,dl424,dh425,bo426,rl427,rh428,x429,z430,w431,D432,rfl,rfl,_,hq434,hq435,hq436,hq437,hq438,hq439,hq440,hq441,hq442,hq443,_⟩;exact yA 1 encA As (Ab.mk p1408 p2409 p3410 p4411 p5412 e413 K414 le415 mx416 cl417 n420 s421 m422 t423 dl424 dh425 bo426 rl427 rh428 be418 en419 x429 z430 w431 D432 hq434 hq435 hq436 hq437 hq438 hq439 hq440 hq441 hq442 hq443) 192<| yJ 10 7 (q+1)<| yK 0 [0,1,2,8,10,5] (ih9 (.inr ((q+1),Kn407,(V++[Va.mk k394 s395 dn396 ds397 n398 y399 z400]),(As++[Ab.mk p1408 p2409 p3410 p4411 p5412 e413 K414 le415 mx416 cl417 n420 s421 m422 t423 dl424 dh425 bo426 rl427 rh428 be418 en419 x429 z430 w431 D432 hq434 hq435 hq436 hq437 hq438 hq439 hq440 hq441 hq442 hq443]))) (by exact ⟨by omega,by omega,by omega,by ((simp only [List.length_append,List.length_cons,List.length_nil,List.length_take,List.length_drop,List.length_set] at*;omega)),by ((simp only [List.length_append,List.length_cons,List.length_nil,List.length_take,List.length_drop,List.length_set] at*;omega)),ne_snoc (by assumption) (by assumption),by assumption⟩) (by (try dsimp only);omega)) (hh:=(mo (by kernel_rfl) (mo (by kernel_rfl) (mo (by kernel_rfl) (mo (renAt_pc (by kernel_rfl)) (mo (renAt_pc (by kernel_rfl)) (mo (by kernel_rfl) (mo_nil))))))))
  refine yR 10 1 (c24_1 _ (ByteArray.mk (List.map UInt8.ofNat [116]).toArray) y24 _ _ _ _ (byteAt ((CL0.getD v11.toNat default).R.getD q.toNat default) 0 - 48) hq387 (by omega) (by omega) hq30 (by omega) (by omega)) ?_;rintro _ _ ⟨k446,s447,dn448,ds449,n450,y451,z452,K453,rfl,rfl,_,hq455,_,_⟩;refine yA 9 encVa V (Va.mk k446 s447 dn448 ds449 n450 y451 z452) 96<| yD 3 [[1],[1]] [[],[],[],[],[],[],[],[],[1],[],[4],[],[2]] (List.range 13)<| yR 8 1 (c25 _ (ByteArray.mk (List.map UInt8.ofNat [116]).toArray) y24 _ _ _ _ hq455 k446 s447 dn448 ds449 n450 y451 z452 (by omega) (by omega) (by omega) hq30 (by omega) (by omega)) ?_
  rintro _ _ ⟨Kn459,p1460,p2461,p3462,p4463,p5464,e465,K466,le467,mx468,cl469,be470,en471,n472,s473,m474,t475,dl476,dh477,bo478,rl479,rh480,x481,z482,w483,D484,rfl,rfl,_,hq486,hq487,hq488,hq489,hq490,hq491,hq492,hq493,hq494,hq495,_⟩;exact yA 1 encA As (Ab.mk p1460 p2461 p3462 p4463 p5464 e465 K466 le467 mx468 cl469 n472 s473 m474 t475 dl476 dh477 bo478 rl479 rh480 be470 en471 x481 z482 w483 D484 hq486 hq487 hq488 hq489 hq490 hq491 hq492 hq493 hq494 hq495) 192<| yJ 10 7 (q+1)<| yK 0 [0,1,2,8,10,5] (ih9 (.inr ((q+1),Kn459,(V++[Va.mk k446 s447 dn448 ds449 n450 y451 z452]),(As++[Ab.mk p1460 p2461 p3462 p4463 p5464 e465 K466 le467 mx468 cl469 n472 s473 m474 t475 dl476 dh477 bo478 rl479 rh480 be470 en471 x481 z482 w483 D484 hq486 hq487 hq488 hq489 hq490 hq491 hq492 hq493 hq494 hq495]))) (by exact ⟨by omega,by omega,by omega,by ((simp only [List.length_append,List.length_cons,List.length_nil,List.length_take,List.length_drop,List.length_set] at*;omega)),by ((simp only [List.length_append,List.length_cons,List.length_nil,List.length_take,List.length_drop,List.length_set] at*;omega)),ne_snoc (by assumption) (by assumption),by assumption⟩) (by (try dsimp only);omega)) (hh:=(mo (by kernel_rfl) (mo (by kernel_rfl) (mo (by kernel_rfl) (mo (renAt_pc (by kernel_rfl)) (mo (renAt_pc (by kernel_rfl)) (mo (by kernel_rfl) (mo_nil))))))))
 refine yZ 8 2 2 (x:= .lsl 3 0 V.length 7) (y:=(.sl V.length (List.flatMap encVa V))) (ts:=[3]) ?_ (hz:=(fzL_pc (fz:=false) (by kernel_rfl) (by exact flat_len (z:=7) (fun _=>rfl) _)));refine yZ 0 2 3 (x:= .lsl 4 0 As.length 18) (y:=(.sl As.length (List.flatMap encA As))) (ts:=[4]) ?_ (hz:=(fzL_pc (fz:=false) (by kernel_rfl) (by exact flat_len (z:=18) (fun _=>rfl) _)));exact yZ 0 2 4 (x:= .lsl 5 0 1 3) (y:=(.sl 1 [(.vl (vs [116])),y24,z25])) (ts:=[5])<| yK 0 [0,1,2] (jc5_w_0 L hL xl hx h0 CL0 v11 Kb y24 z25 x17 (PV.sl V.length (List.flatMap encVa V)) (PV.sl As.length (List.flatMap encA As)) (by exact ⟨_,_,_,by assumption,by omega,by omega,by assumption,by assumption,by omega,by omega,by omega,by assumption,by omega,⟨_,_,_,by assumption,by omega,by omega,by assumption,by omega,by omega,by assumption,by assumption,by assumption⟩,⟨_,.sl,by omega,by assumption⟩,by assumption⟩))
theorem anyF {L:List Ab} (h:AllNe L):L.any (fun v=> !v.ne)=false:=by
 rw [List.any_eq_false];intro v hv;simp [h v hv]
theorem set_none {As:List Ab} {n:Nat} (hn:n<As.length):(As.set n (Ab.none false)).any (fun v=> !v.ne)=true:=by
 rw [List.any_eq_true];exact ⟨Ab.none false,List.mem_iff_getElem.2 ⟨n,by simpa using hn,by simp⟩,rfl⟩
theorem set_failed {As:List Ab} {n:Nat} (h:AllNe As):(As.set n (Ab.none true)).any (fun v=> !v.ne)=false:=by
 refine anyF fun v hv=> ?_
 rcases List.mem_or_eq_of_mem_set hv with h1 | h1
 ·exact h v h1
 ·subst h1;rfl
theorem set_vals {As:List Ab} {n:Nat} (hn:n<As.length):((As.set n (Ab.none true)).getD n default).vals=false:=by
 rw [List.getD_eq_getElem?_getD,List.getElem?_eq_getElem (by simpa using hn)];simp [Ab.none,Ab.vals]
theorem isS_setA {As:List Ab} {n:Nat} {v:Ab}:IsS encA (As.set n v) (.sl As.length ((As.set n v).flatMap encA)):=by
 have:IsS encA (As.set n v) (.sl (As.set n v).length ((As.set n v).flatMap encA)):= .sl
 simp_all
theorem c9_1 (op pa:ByteArray) (cb cc cr kx:PV) (kd e:Int) (KL:List Int) (As:List Ab) (n:Int) (hT:T6 op pa cb cc kx kd e) (he:e=0) (hk:IsS encI KL kx) (hl:As.length≤100) (hlk:(KL.length:Int)=As.length) (h0:0≤n) (hn:n<As.length) (hif:(op.toList==(ByteArray.mk #[105,102]).toList)=false) (hcol:(op.toList==(ByteArray.mk #[99,111,108]).toList)=false):
  ValC Tryz.prog GG 9 [o (sv op),o (sv pa),o (.p (.sl As.length ((As.set n.toNat (Ab.none false)).flatMap encA))),o (.p cb),o (.p cc),o (.p cr)] (fun r=>r=a [i 0,i 1,i 0,i 0,sv ⟨#[]⟩,sv ⟨#[]⟩,i 1,i 0,i 0,i 0,i 1,i 0,i 0,i 1,i 0,nl,nl,b false]):=by
 subst he;exact c9_none op pa cb cc cr kx _ kd KL _ hT hk isS_setA (by simpa using hl) (by simp;omega) hif hcol (set_none (by omega))
theorem c9_2 (op pa:ByteArray) (cb cc cr kx:PV) (kd e:Int) (KL:List Int) (As:List Ab) (n:Int) (hT:T6 op pa cb cc kx kd e) (he:e=0) (hk:IsS encI KL kx) (hK5:KdOk5 KL) (hl:As.length≤100) (hlk:(KL.length:Int)=As.length) (h0:0≤n) (hn:n<As.length) (hne:AllNe As) (hif:(op.toList==(ByteArray.mk #[105,102]).toList)=false) (hcol:(op.toList==(ByteArray.mk #[99,111,108]).toList)=false):
  ValC Tryz.prog GG 9 [o (sv op),o (sv pa),o (.p (.sl As.length ((As.set n.toNat (Ab.none true)).flatMap encA))),o (.p cb),o (.p cc),o (.p cr)] (fun r=>r=a [i 0,i 1,i 0,i 0,sv ⟨#[]⟩,sv ⟨#[]⟩,i 1,i 0,i 0,i 0,i 1,i 0,i 0,i 1,i 0,nl,nl,b true]):=by
 subst he;exact c9_failed op pa cb cc cr kx _ kd KL _ hT hk hK5 isS_setA (by simpa using hl) (by simp;omega) hif hcol (set_failed hne) n.toNat (by simp;omega) (set_vals (by omega))
theorem c7_0:ValC Tryz.prog GG 7 [] (fun r=>r=a [i 0,i 1,i 0,i 0,sv ⟨#[]⟩,sv ⟨#[]⟩,i 1,i 0,i 0,i 0,i 1,i 0,i 0,i 1,i 0,nl,nl,b false]):=kvF (by kernel_rfl)
theorem c8_0:ValC Tryz.prog GG 8 [o (i 0)] (fun r=>r=a [i 0,i 1,i 0,i 0,sv ⟨#[]⟩,sv ⟨#[]⟩,i 1,i 0,i 0,i 0,i 1,i 0,i 0,i 1,i 0,nl,nl,b true]):=kvF (by kernel_rfl)
end Go.Sx.E1
namespace Go.Sx.E1
open Go.Proofs
def ColNo (n:Int) (op:ByteArray):Prop:=n=0∨(op.toList==(ByteArray.mk #[99,111,108]).toList)=false
theorem colno {n:Int} {op:ByteArray} (h:ColNo n op) (hn:n≠0):(op.toList==(ByteArray.mk #[99,111,108]).toList)=false:=h.resolve_left hn
def rowCol (r:CRow):Bool:=decide (r.R.length=2) || !decide ((r.R.getD 0 default).data.toList=[99,111,108])
theorem calls_col:callsL.all rowCol=true:=by decide
theorem col_no {CL:List CRow} {v n:Int} (hc:CallsEq CL) (h0:0≤v) (h1:v<55) (hn:n+2=(CL.getD v.toNat default).R.length):ColNo n ((CL.getD v.toNat default).R.getD 0 default):=by
 subst hc;have:=all_getD (p:=fun r=>rowCol r=true) (List.all_eq_true.1 calls_col) (n:=v.toNat) (by have:=calls_len;omega);unfold rowCol at this;simp only [Bool.or_eq_true,decide_eq_true_eq] at this
 rcases this with h | h
 ·exact .inl (by omega)
 ·refine .inr ?_;cases hb:(((callsL.getD v.toNat default).R.getD 0 default).toList==(ByteArray.mk #[99,111,108]).toList) with
  | false=>rfl
  | true=>
   rw [str_eq hb] at h;exact absurd h (by decide)
section
variable [MaxL]
def Made5 (r:RV):Prop:=∃(CL:List CRow) (v:Int) (yv ya yb zb xq rr wd:PV) (QL:List ACol) (As:List Ab),r=a [sv ((CL.getD v.toNat default).R.getD 0 default),sv ((CL.getD v.toNat default).R.getD 1 default),.p yv,.p ya,.p (.sl 1 [.vl (vs [116]),yb,zb]),.p xq,.p rr,.p wd]∧0≤v∧v<55∧CallsEq CL∧MadeT yb zb∧ColsEq QL∧IsS encCol QL xq∧IsS encA As ya∧AllNe As∧(As.length:Int)≤3∧ColNo As.length ((CL.getD v.toNat default).R.getD 0 default)
theorem made5 {r:RV} (h:∃(CL:List CRow) (v:Int) (yv ya yb zb xq rr wd:PV),r=a [sv ((CL.getD v.toNat default).R.getD 0 default),sv ((CL.getD v.toNat default).R.getD 1 default),.p yv,.p ya,.p (.sl 1 [.vl (vs [116]),yb,zb]),.p xq,.p rr,.p wd]∧0≤v∧v<55∧CallsEq CL∧MadeT yb zb∧MadeA ((CL.getD v.toNat default).R.length) ya∧∃QL:List ACol,ColsEq QL∧IsS encCol QL xq):Made5 r:=by
 obtain ⟨CL,v,yv,ya,yb,zb,xq,rr,wd,e,h0,h1,hc,hT,⟨As,hA,hl,hne⟩,QL,hQ,hx⟩:=h
 have h5:=fact_crow v.toNat hc (by
                   have:CL=callsL:=hc;subst this;have:=calls_len
                   omega)
 exact ⟨CL,v,yv,ya,yb,zb,xq,rr,wd,QL,As,e,h0,h1,hc,hT,hQ,hx,hA,hne,by omega,col_no hc h0 h1 hl⟩
theorem c5_0 (L:List Int) (x:PV) (hx:IsS encI L x) (hL:(L.length:Int)<4611686018427387904):ValC Tryz.prog GG 5 [o (.p x)] (fun r=>∃(CL:List CRow) (v:Int) (yv ya yb zb xq rr wd:PV) (QL:List ACol) (As:List Ab),r=a [sv ((CL.getD v.toNat default).R.getD 0 default),sv ((CL.getD v.toNat default).R.getD 1 default),.p yv,.p ya,.p (.sl 1 [.vl (vs [116]),yb,zb]),.p xq,.p rr,.p wd]∧0≤v∧v<55∧CallsEq CL∧MadeT yb zb∧ColsEq QL∧IsS encCol QL xq∧IsS encA As ya∧AllNe As∧(As.length:Int)≤3∧ColNo As.length ((CL.getD v.toNat default).R.getD 0 default)):=by
 exact (c5_w L hL x hx ⟨hx,by decide,by omega,hL⟩).mono fun r h=>made5 h
end
end Go.Sx.E1
namespace Go.Sx.E1
open Go.Proofs
theorem setPart_list {α:Type} {enc:α→List PV} {z:Nat} (hz:∀a,(enc a).length=z) (x:α):∀(L:List α) (k:Nat),k<L.length→setPart (L.flatMap enc) (k*z) (enc x)=(L.set k x).flatMap enc
 | [],k,h=>by simp at h
 | a::l,0,_=>by
  unfold setPart
  simp_all
 | a::l,k+1,h=>by
  have ih:=setPart_list hz x l k (by simpa using h);unfold setPart at ih ⊢
  simp only [List.flatMap_cons,List.set_cons_succ];have e:(k+1)*z=(enc a).length+k*z:=by rw [hz,Nat.add_mul];omega
  rw [e,List.take_append,Nat.add_assoc,List.drop_append,List.take_of_length_le (by omega),List.drop_of_length_le (by omega),Nat.add_sub_cancel_left,Nat.add_sub_cancel_left,List.nil_append,List.append_assoc,List.append_assoc,← ih,List.append_assoc]
theorem setPart_map {α β:Type} (f:α→β) (l:List α) (n:Nat) (vs:List α):setPart (l.map f) n (vs.map f)=(setPart l n vs).map f:=by
 unfold setPart
 simp_all
variable [MaxL]
theorem encA_len (v:Ab):(encA v).length=18:=rfl
theorem rule_storeN {bb k:Nat} {f:Bool} {L:List Ab} {hp:List Ob} (hb:hp[bb]? =some (.cells (pc (L.flatMap encA)) false)) (hk:k<L.length):
  storeA TT 45 (.v (.one (.ref bb (0+k*18)))) (a [i 0,i 1,i 0,i 0,.p (.vl (vs [])),.p (.vl (vs [])),i 1,i 0,i 0,i 0,i 1,i 0,i 0,i 1,i 0,nl,nl,b f]) hp=some (undefR,hp.set bb (.cells (pc ((L.set k (Ab.none f)).flatMap encA)) false)):=by
 have hlen:(L.flatMap encA).length=L.length*18:=by
  clear hb hk
  induction L with
  | nil=>rfl
  | cons x l ih=>rw [List.flatMap_cons,List.length_append,ih,encA_len,List.length_cons];omega
 have e:setPart (pc (L.flatMap encA)) (0+k*18) (pc (encA (Ab.none f)))=pc ((L.set k (Ab.none f)).flatMap encA):=by
  unfold pc;rw [setPart_map,Nat.zero_add,setPart_list encA_len _ _ _ hk]
 have hs:szOf TT 45=some 18:=by kernel_rfl
 have hv:cellsR (a [i 0,i 1,i 0,i 0,.p (.vl (vs [])),.p (.vl (vs [])),i 1,i 0,i 0,i 0,i 1,i 0,i 0,i 1,i 0,nl,nl,b f])=some (pc (encA (Ab.none f))):=rfl;have hl:0+k*18+(pc (encA (Ab.none f))).length≤(pc (L.flatMap encA)).length:=by
  have:(pc (encA (Ab.none f))).length=18:=rfl;rw [this];unfold pc;rw [List.length_map,hlen];omega
 have h18:(pc (encA (Ab.none f))).length=18:=rfl;unfold storeA;rw [hs,hv];simp only [oneR];rw [if_pos h18];unfold writeC
 simp_all
end Go.Sx.E1
namespace Go.Sx
def headC:List Item→Option (Code×List Item)
 | .code c::k=>some (c,k)
 | _=>none
noncomputable def headR (C:Conf) (call:CallR) (k:Nat) (fn:FuncId) (todo:List Item) (st:St):Option (List Item×St):=
 match headC todo with
 | some (c,td)=>match runC C call k fn false c st with
  | some (.normal,st')=>some (td,st')
  | _=>none
 | none=>none
theorem Fin.headCut {C:Conf} (hC:C.Ok) {call:CallR} (hcall:CallOk C.P C.G call) {k n:Nat} {fn:FuncId} {todo:List Item} {st:St} {Q:St→Prop} (keep live:List Nat) (hk:keepOk n keep=true) {f:(Nat→RV)→List RV} {hp':List Ob} {todo':List Item}
  (h:∀J,(match headR C call k fn todo st with
   | some (td,s)=>Sx.cut C.P C.T C.G 0 n keep live J td s
   | none=>none)=some (todo',⟨f J,hp'⟩))
  (hf:∀J,Fin C.P C.G n fn todo' ⟨f J,hp'⟩ Q):Fin C.P C.G n fn todo st Q:=by
 have:=hC.tok;cases hr:headR C call k fn todo st with
 | none=>rw [hr] at h;have:=h fun _=>undefR;simp at this
 | some p=>
  obtain ⟨td,s⟩:=p;rw [hr] at h;simp only at h;have h2:=Fin.cut (Q:=Q) hC.wf 0 keep live hk (todo:=td) (st:=s) (fn:=fn) h hf;unfold headR at hr;split at hr
  ·rename_i c td1 hh;split at hr
   ·rename_i s1 hs1;simp at hr;obtain ⟨rfl,rfl⟩:=hr;unfold headC at hh;split at hh
    ·simp at hh;obtain ⟨rfl,rfl⟩:=hh;refine Fin.wp hC.wf (wpC_mono _ (runC_sound hC hcall _ _ _ _ hs1) ?_);rintro e' s' ⟨rfl,rfl⟩;exact h2
    ·simp at hh
   ·simp at hr
  ·simp at hr
end Go.Sx
namespace Go.Sx.E1
open Go.Proofs
variable [MaxL]
theorem draw7 {As:List Ab} {ya:PV} {n:Int} {c0 c1 c2 c4 c5 c6 c7:PV} {J:Nat→RV} {Q:St→Prop} (hA:IsS encA As ya) (h1:1≤As.length) (h3:As.length≤3)
  (h:∀J,Fin Tryz.prog GG 0 3 (posT (Bd Tryz.f3) [1,1,1,1,1,1,0] []).tail ⟨regsOf 109 [(5,o (b true)),(6,o (.ref 0 0)),(10,o (i n)),(11,o (.lsl 1 0 As.length 18)),(12,o (.lsl 2 0 As.length 18))] J,[.cells [.p c0,.p c1,.p c2,.p ya,.p c4,.p c5,.p c6,.p c7] false,.cells (pc (As.flatMap encA)) false,.cells (pc (As.flatMap encA)) false]⟩ Q):
  Fin Tryz.prog GG 0 3 (posT (Bd Tryz.f3) [1,1,1,1,1,1,0] []) ⟨regsOf 109 [(5,o (b true)),(6,o (.ref 0 0)),(10,o (i n))] J,[.cells [.p c0,.p c1,.p c2,.p ya,.p c4,.p c5,.p c6,.p c7] false]⟩ Q:=by
 cases hA with
 | nil h0=>simp [h0] at h1
 | sl=>
  match As,h1,h3,h with
  | [a1],_,_,h=>exact Fin.headCut (C:=CF) okF (callN_sound okF 200) (call:=callN CF 30000 200) (k:=30000) [0,3,4] [5,6,10,11,12] (by kernel_rfl) (f:=regsOf 109 [(5,o (b true)),(6,o (.ref 0 0)),(10,o (i n)),(11,o (.lsl 1 0 1 18)),(12,o (.lsl 2 0 1 18))]) (fun J=>by kernel_rfl) h
  | [a1,a2],_,_,h=>exact Fin.headCut (C:=CF) okF (callN_sound okF 200) (call:=callN CF 30000 200) (k:=30000) [0,3,4] [5,6,10,11,12] (by kernel_rfl) (f:=regsOf 109 [(5,o (b true)),(6,o (.ref 0 0)),(10,o (i n)),(11,o (.lsl 1 0 2 18)),(12,o (.lsl 2 0 2 18))]) (fun J=>by kernel_rfl) h
  | [a1,a2,a3],_,_,h=>exact Fin.headCut (C:=CF) okF (callN_sound okF 200) (call:=callN CF 30000 200) (k:=30000) [0,3,4] [5,6,10,11,12] (by kernel_rfl) (f:=regsOf 109 [(5,o (b true)),(6,o (.ref 0 0)),(10,o (i n)),(11,o (.lsl 1 0 3 18)),(12,o (.lsl 2 0 3 18))]) (fun J=>by kernel_rfl) h
  | _::_::_::_::_,_,h3,_=>simp at h3
end Go.Sx.E1
namespace Go.Sx.E1
open Go.Proofs
variable [MaxL]
theorem f3_w (hs:ValC Tryz.prog GG 4 [] (fun r=>r=o (b true))) (L:List Int) (x:PV) (hx:IsS encI L x) (hL:(L.length:Int)<4611686018427387904) (kb:Int) (k0:0≤kb) (k1:kb≤255):Fin Tryz.prog GG 0 3 [.code (Bd Tryz.f3)] ⟨regs0 Tryz.f3 [o (.p x),o (.p (.vl (.int .u8 kb)))],[]⟩ (fun st=>∃r,resultsR TT GG Tryz.f3 st=some r∧r=o (b true)):=by
 refine yX<| yV 6 hs<| yC 5 (c5_0 _ _ hx (by omega)) ?_
 rintro _ ⟨CL0,v1,yv2,ya3,yb4,zb5,xq6,rr7,wd8,QL9,As10,rfl,_,_,_,_,hq15,_,hq17,_,_,_⟩;refine yC 13 (c6_0 CL0 v1 yb4 zb5 xq6 _ (by omega) (by omega) (by omega) (by omega) hq15 (by omega)) ?_;rintro _ ⟨kx21,kd22,e23,KL24,rfl,hq25,_,_,hq28⟩;refine yBn 14 33 e23 0 (fun _=> ?_) fun _=> ?_
 ·exact yFA 25 (Q':=fun r _=>r=o (b true)) _ _ rfl (hh:=rfl)
 refine yL 1 hq25<| yL 2 hq17<| yBn 3 41 ((↑KL24.length:Int)) ((↑As10.length:Int)) (fun _=> ?_) fun _=> ?_
 ·exact yFA 17 (Q':=fun r _=>r=o (b true)) _ _ rfl (hh:=rfl)
 refine yL 2 hq17<| yBe 3 47 ((↑As10.length:Int)) 0 (fun _=> ?_) fun _=> ?_
 ·exact yFA 11 (Q':=fun r _=>r=o (b true)) _ _ rfl (hh:=rfl)
 refine yBb 5 51 (((CL0.getD v1.toNat default).R.getD 0 default).toList==(ByteArray.mk #[105,102]).toList) (fun _=> ?_) fun _=> ?_
 ·refine yJ 8 54 kb<| yL 0 hq17<| yO 0 (binA Tryz.prog TT .rem 3 (.tmp 54) (.tmp 57) (o (i kb)) (o (i ((↑As10.length:Int))))) (binA_rem (by omega)) ?_
  have:=(show (0≤kb.tmod (↑As10.length:Int)∧kb.tmod (↑As10.length:Int)<(↑As10.length:Int)) from fact_tmodV (by omega) (by omega))
  have:=Int.tmod_eq_emod_of_nonneg (a:=kb) (b:=((↑As10.length:Int))) (by omega);have:=tmod_nonneg' (a:=kb) (b:=((↑As10.length:Int))) (by omega) (by omega);refine yU 3 [0] 109 (pT Tryz.f3 [1,1,1,1,1,1,0]) [(5,o (b true)),(6,o (.ref 0 0)),(10,o (i (kb.tmod As10.length)))] [.cells [sv ((CL0.getD v1.toNat default).R.getD 0 default),sv ((CL0.getD v1.toNat default).R.getD 1 default),.p yv2,.p ya3,.p (.sl 1 [.vl (vs [116]),yb4,zb5]),.p xq6,.p rr7,.p wd8] false] fun J=> ?_;refine draw7 hq17 (by omega) (by omega) fun J=>yX ?_;refine yV 6 c7_0<| yV 0 c8_0<| yO 0 (indexAddrA TT 25 (o (.lsl 1 0 As10.length 18)) (o (i (kb.tmod (↑As10.length:Int))))) (indexAddrA_lsl (e:=45) (by kernel_rfl) (by kernel_rfl) (by omega) (by omega)) ?_
  have:=tmod_nonneg' (a:=kb) (b:=((↑As10.length:Int))) (by omega) (by omega);refine yO 0 (storeA TT 45 (o (.ref 1 (0+(kb.tmod (↑As10.length:Int)).toNat*18))) (a [i 0,i 1,i 0,i 0,.p (.vl (vs [])),.p (.vl (vs [])),i 1,i 0,i 0,i 0,i 1,i 0,i 0,i 1,i 0,nl,nl,b false])) (rule_storeN (L:=As10) (by kernel_rfl) (by omega))<| yO 0 (indexAddrA TT 25 (o (.lsl 2 0 As10.length 18)) (o (i (kb.tmod (↑As10.length:Int))))) (indexAddrA_lsl (e:=45) (by kernel_rfl) (by kernel_rfl) (by omega) (by omega)) ?_
  have:=tmod_nonneg' (a:=kb) (b:=((↑As10.length:Int))) (by omega) (by omega);exact yO 0 (storeA TT 45 (o (.ref 2 (0+(kb.tmod (↑As10.length:Int)).toNat*18))) (a [i 0,i 1,i 0,i 0,.p (.vl (vs [])),.p (.vl (vs [])),i 1,i 0,i 0,i 0,i 1,i 0,i 0,i 1,i 0,nl,nl,b true])) (rule_storeN (L:=As10) (by kernel_rfl) (by omega))<| yM 14 79 (r:=o (.lsl 1 0 As10.length 18)) (r':=o (.p (.sl As10.length (List.flatMap encA (As10.set (kb.tmod (↑As10.length:Int)).toNat (Ab.none false)))))) (ts:=[1]) (fzR_one (fzL_pc (fz:=false) (by kernel_rfl) (by rw [flat_len (z:=18) (fun _=>rfl),List.length_set])))<| yV 0 (c9_1 _ _ _ _ wd8 _ _ _ _ As10 (kb.tmod (↑As10.length:Int)) hq28 (by omega) hq25 (by omega) (by omega) (by omega) (by omega) (by omega) (by first | exact colno (by assumption) (by omega) | exact tmod_lo (by omega) | exact tmod_hi (by omega)))<| yM 16 91 (r:=o (.lsl 2 0 As10.length 18)) (r':=o (.p (.sl As10.length (List.flatMap encA (As10.set (kb.tmod (↑As10.length:Int)).toNat (Ab.none true)))))) (ts:=[2]) (fzR_one (fzL_pc (fz:=false) (by kernel_rfl) (by rw [flat_len (z:=18) (fun _=>rfl),List.length_set])))<| yV 0 (c9_2 _ _ _ _ wd8 _ _ _ _ As10 (kb.tmod (↑As10.length:Int)) hq28 (by omega) hq25 (by omega) (by omega) (by omega) (by omega) (by omega) (by omega) (by omega) (by first | exact colno (by assumption) (by omega) | exact tmod_lo (by omega) | exact tmod_hi (by omega)))<| yD 4 [] [] (List.range 11)<| yV 3 (kv (f:=10) (args:=[a [i 0,i 1,i 0,i 0,.p (.vl (vs [])),.p (.vl (vs [])),i 1,i 0,i 0,i 0,i 1,i 0,i 0,i 1,i 0,nl,nl,b false]]) (r:=o (b true)) (by kernel_rfl))<| yV 3 c8_0<| yV 0 (kv (f:=11) (args:=[a [i 0,i 1,i 0,i 0,.p (.vl (vs [])),.p (.vl (vs [])),i 1,i 0,i 0,i 0,i 1,i 0,i 0,i 1,i 0,nl,nl,b true],a [i 0,i 1,i 0,i 0,.p (.vl (vs [])),.p (.vl (vs [])),i 1,i 0,i 0,i 0,i 1,i 0,i 0,i 1,i 0,nl,nl,b true]]) (r:=o (b true)) (by kernel_rfl))<| yFA 3 (Q':=fun r _=>r=o (b true)) _ _ rfl (hh:=rfl)
 exact yFA 6 (Q':=fun r _=>r=o (b true)) _ _ rfl (hh:=rfl)
end Go.Sx.E1
namespace Go.Sx
section
variable {P:Program} {T:Tab} [TOk P T] {G:Globs} {A:Nat→Prop} {S:Where} {w:World}
theorem Sim.start (hg:∀g vs,G g=some vs→g<w.heap.size∧∀(i:Nat) v,vs[i]? =some v→w.cell? ⟨g,i,none⟩=some v∧single v=true):Sim G (fun B=>B<w.heap.size) (fun _=>none) [] w where
 ob b o h:=by simp at h
 dis B _ ho:=by obtain ⟨b,ob,d,h,_⟩:=ho;simp at h
 lt B h:=h
 inj b b' o o' B d d' _ h:=by simp at h
 dom b B d h:=by simp at h
 gl g vs h:=hg g vs h
end
end Go.Sx
namespace Go.Sx.E1
open Go.Proofs
variable [MaxL]
theorem law3 (hsan:ValC Tryz.prog GG 4 [] (fun r=>r=o (b true))) {L:List Int} {x:PV} (hx:IsS encI L x) (hL:(L.length:Int)<4611686018427387904) {kb:Int} (k0:0≤kb) (k1:kb≤255)
  {A:Nat→Prop} {S:Where} {w:World} {vs:List Value} (hs:Sim GG A S [] w) (hvs:RelV A S w [o (.p x),o (.p (.vl (.int .u8 kb)))] vs):
  Calls Tryz.prog 3 vs.toArray w fun e w'=>e= .returned (.bool true)∧Same w w':=by
 have:=tok;refine (Calls.of_fin (T:=TT) (Q:=fun r=>r=o (b true)) Tryz.func3 (Bd_ok (by kernel_rfl)) hs hvs (f3_w hsan L x hx hL kb k0 k1)).mono ?_;rintro e w' ⟨r,v,A',S',rfl,rfl,hrel,hsame⟩;cases hrel;exact ⟨rfl,hsame⟩
end Go.Sx.E1
