import Derived.Test.YtchmoabpofnbaaaGreatC48
import Derived.Test.YtchmoabpofnbaaaGreatC49
import Derived.Test.YtchmoabpofnbaaaGreatC51
set_option linter.all false
namespace Go.Proofs.YtchmoabpofnbaaaGreat
open Go Go.Pv
set_option maxRecDepth 100000
set_option maxHeartbeats 20000000
variable [GM]
attribute [local irreducible] bnd br jn qE gK jv lJ jl rD uo divO kT jL kN kP lI lS lM
variable {M:iG}[HM M]
instance aj2 {s}{w1:List gX}:CZ M 199 (uy s (λa0=>A7 a0 w1)) [.os 0 0 (M.n gX s),.fn 284 [.pp [pF M w1]]] [(0,(aR 3 (ry M s)))] 1 (λr=>.os 1 0 (M.n gX r)) (λr=>[(0,none),(1,(aR 3 (ry M r)))]) 2:=by
 have hM:=HM.h (M:=M);refine⟨λr O=>?_⟩;refine AQ (T:=(GY 1 [13] [[(3,true)]])) (iV 1 [13] [[(3,true)]]) wf Tryz.func199 rfl Tryz.call199 rfl ?_;intro S R hS hR;have q:=sf hM hS;unfold uy at O;cbv;refine JK hS O (cI hM) Lr (λ_=>rfl) ?_;intro y1 O;cbv;refine nZ ?_ ?_
 intro O;cbv;cases O;exact hR _ _ _ aj aj rfl
 intro O;cbv;refine d_L (iV 1 [13] [[(3,true)]]) [] [0,1,5,6] (λs2=>f4 42 [.os 0 0 (S.gZ (ry M s2.2.2)),.fn 284 [.pp [pF M w1]],sI s2.1,sI s2.2.1] [aR 3 (ry M s2.2.2)]) O ?_;intro Ik3 k3 s2 hk3 O e he;subst he;unfold wW at O;cbv;refine nZ ?_ ?_
 intro O;cbv;refine DR [] [0,1,5,6] (λs5=>f4 42 [.os 0 0 (S.gZ (ry M s5.2)),.fn 284 [.pp [pF M w1]],sI s5.1,sI s2.2.1] [aR 3 (ry M s5.2)]) O ?_ ?_
 intro Ik6 k6 hk6 O;cbv;refine mG hS O lC rfl ?_;intro j8 _ O;cbv;refine jW hS hM O rfl lC ?_;intro x9 O;cbv;refine zn hS O (cI hM) ?_;intro y10 O;cbv;refine nZ ?_ ?_
 intro O;cbv;refine mG hS O lC rfl ?_;intro j11 _ O;cbv;refine jW hS hM O rfl lC ?_;exact xZ
 exact vF
 intro s5 O;cbv;exact vw
 intro O;cbv;refine ZZ hS O lC rfl lC ?_;intro x13 bx13 O;cbv;refine KN hS (e:=(sJ M)) O ji ?_;intro x14 O;cbv;refine ZZ hS O lC rfl rfl ?_;intro x15 bx15 O;cbv;cases O;exact hR _ _ _ aB aB rfl
end Go.Proofs.YtchmoabpofnbaaaGreat
namespace Go.Proofs.YtchmoabpofnbaaaGreat
open Go Go.Pv Proofs.Tryz
set_option maxRecDepth 100000
set_option maxHeartbeats 20000000
variable [GM]
attribute [local irreducible] bnd br jn qE gK jv lJ jl rD uo divO kT jL kN kP lI lS lM
variable {M:iG}[HM M]
instance c105 {s}{all}:CC M 105 (D8 s all) [.agg (iF M s),lq M all] (λr=>.sl 1 (mI M r) false):=by
 have:=lo 3 [1,2,5,10,11,12] (λ_ (s:Int×(List Int))=>up [(5,.os 1 0 (M.n Int s.2)),(12,sI s.1)] [(1,(aR 1 (mI M s.2)))]) [.tO 5 1];have:=ct 15 [1,2,5,10,11,12] (λ_ s=>up [(5,.os 1 0 (M.n Int s))] [(1,(aR 1 (mI M s)))]) [.tO 5 1];have:=ct 10 [1,2,5,7,10,11,12,27] (λ_ s=>jO [(27,.sb s)]);exact wA (iO [10,15]) func105 call105
instance c99 {w}{stage}:CC M 99 (wo w stage) [.agg (qC M w),sI stage] (λr=>.DJ [.agg (qC M r.1),.sl 1 (mI M r.2) false]):=by
 have:=ct 7 [1,2,4] (λ_ s=>up [] [(0,(vR (qC M s)))]);have:=lo 5 [1,2,4,6,7] (λS (_:Unit)=>jO [(6,.os 2 0 (S.gZ ([])))]);have:=lo 12 [1,2,4,6,8,9,10] (λS (_:Unit)=>jO [(8,.os 3 0 (S.gZ ([])))]);exact wA (iO [7]) func99 call99
instance aj3 {s}{w1}{w2}{w3}{w4:List (List Bool)}:CC M 222 (qO s (λa0=>xC a0 w1 w2 (λa0 a1=>sO a0 a1 w3 w4))) [.sl 1 (mI M s) false,.fn 405 [.pp [sI w1],.pp [.sl 1 (M.m (List Bool) (eL M 1 eB) w2) false],.pp [.fn 455 [.pp [.sl 1 (mI M w3) false],.pp [.sl 1 (M.m (List Bool) (eL M 1 eB) w4) false]]]]] (λr=>.sb r):=by
 exact wA ig func222 call222
instance c379 {pr}{specs}:CC M 379 (Yx pr specs) [.agg (Xg M pr),sI specs] (λr=>.sb r):=by
 have:=ct 7 [1,2] (λ_ s=>jO [(1,sI s)]);have:=ct 6 [1,2,14] (λ_ s=>jO [(14,.sb s)]);have:=ct 21 [2] (λ_ (_:Unit)=>jO []);have:=ct 12 [2,26] (λ_ s=>jO [(26,.sb s)]);exact wA (iO [6,7,12,21]) func379 call379
instance c381 {a}:CC M 381 (Yy a) [.agg (F8 M a)] (λr=>.sb r):=by
 have:=ct 33 [1,3] (λ_ s=>up [] [(1,(vR (F8 M s)))]);have:=ct 10 [1,3,17] (λ_ s=>jO [(17,.sb s)]);have:=ct 20 [1,3,36] (λ_ s=>jO [(36,.sb s)]);exact wA (iO [10,20,33]) func381 call381
instance c87 {s}:CC M 87 (Ho s) [.agg (iF M s)] (λr=>.sb r):=by
 have:=lo 4 [1,3] (λ_ s=>jO [(3,sI s)]);have:=ct 14 [1,3,4,43] (λ_ s=>jO [(43,.sb s)]);have:=ct 18 [1,3,65] (λ_ s=>jO [(65,.sb s)]);exact wA (iO [14,18]) func87 call87
instance c237 {t}:CC M 237 (Yv t) [.agg (qA M t)] (λr=>.sb r):=by
 have:=ct 2 [1,28] (λ_ s=>jO [(28,.sb s)]);have:=ct 17 [1,3] (λ_ s=>jO [(3,sI s)]);exact wA (iO [2,17]) func237 call237
instance c204 {s}{id}:CC M 204 (Dv s id) [.agg (iF M s),sI id] (λr=>.DJ [.agg (jQ M r.1),.sb r.2]):=by
 have:abn 2 [.tP 6]:=.mk;exact wA (ahU [2] [14,18]) func204 call204
instance c118 {a}{b}:CC M 118 (EU a b) [.agg (yF M a),.agg (yF M b)] (λr=>.sb r):=by
 have:=lo 4 [2,3,5] (λ_ s=>jO [(5,sI s)]);exact wA ig func118 call118
instance c384 {op}{f}:CC M 384 (J7 op f) [sI op,.agg (jU M f)] (λr=>.sb r):=by
 have:=ct 9 [3,5] (λ_ s=>jO [(5,sI s)]);exact wA (iO [9]) func384 call384
instance c241 {m}:CC M 241 (Vq m) [.agg (yT M m)] (λr=>.sb r):=by
 have:=ct 2 [1,16] (λ_ s=>jO [(16,.sb s)]);exact wA (iO [2]) func241 call241
instance c416 {m}:CC M 416 (YB m) [.agg (yT M m)] (λr=>.sb r):=by
 have:=ct 2 [1,12] (λ_ s=>jO [(12,.sb s)]);exact wA (iO [2]) func416 call416
instance c316 {s}:CC M 316 (Qn s) [.agg (JR M s)] (λr=>.sb r):=by
 have:=ct 4 [2] (λ_ s=>jO [(2,.sb s)]);exact wA (iO [4]) func316 call316
instance c119 {a}{b}:CC M 119 (zt a b) [.agg (wL M a),.agg (wL M b)] (λr=>.sb r):=by
 exact wA ig func119 call119
instance c246 {f}{stage}:CC M 246 (Dx f stage) [.agg (pR M f),sI stage] (λr=>.sb r):=by
 exact wA ig func246 call246
instance c172 {c}{a}:CC M 172 (Jq c a) [.agg (lN M c),.sl 1 (mI M a) false] (λr=>.sb r):=by
 exact wA ig func172 call172
instance c414 {s}{id}:CC M 414 (vG s id) [.agg (iI M s),sI id] (λr=>sI r):=by
 exact wA ig func414 call414
instance c315 {f}:CC M 315 (FN f) [.agg (jU M f)] (λr=>.sb r):=by
 exact wA ig func315 call315
end Go.Proofs.YtchmoabpofnbaaaGreat
