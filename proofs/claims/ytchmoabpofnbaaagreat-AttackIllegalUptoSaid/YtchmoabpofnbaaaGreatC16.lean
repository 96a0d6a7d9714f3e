import Derived.Test.YtchmoabpofnbaaaGreatC11
set_option linter.all false
namespace Go.Proofs.YtchmoabpofnbaaaGreat
open Go Go.Pv Proofs.Tryz
set_option maxRecDepth 100000
set_option maxHeartbeats 20000000
variable [GM]
attribute [local irreducible] bnd br jn qE gK jv lJ jl rD uo divO kT jL kN kP lI lS lM
variable {M:iG}[HM M]
instance ajy {s}:CZ M 409 (rQ s) [.os 0 0 (M.n gG s)] [(0,(aR 17 (iD M s)))] 1 (λr=>.os 1 0 (M.n gG r)) (λr=>[(0,(aR 17 (iD M s))),(1,(aR 17 (iD M r)))]) 2:=by
 exact wC (iV 1 [] [[(17,true)]]) func409 call409 []
instance c298 {s}{all}{earlier}:CC M 298 (zJ s all earlier) [.agg (iI M s),lq M all,.sb earlier] (λr=>.fn 366 [.pp (iI M r.1),.pp [lq M r.2.1],.pp [.sb r.2.2]]):=by
 exact wA ig func298 call298
instance ajz {ol}{oj}{deadly}{pe}:CZ M 296 (D6 ol oj deadly pe) [.lp 0 oj 0,.sb deadly,.agg (jZ M pe)] [(0,(aR 19 (kS M ol)))] 1 (λ_=>.DJ []) (λr=>[(0,(aR 19 (kS M r)))]) 1:=by
 exact wC (iV 1 [] []) func296 call296 []
instance c454 {c}:CC M 454 (QC c) [.agg (rO M c)] (λr=>.sb r):=by
 have:=lo 2 [1,6,7] (λ_ s=>jO [(7,sI s)]);have:=ct 6 [1,4,6,7] (λ_ s=>jO [(4,sI s)]);have:=ct 8 [1,6,7,15] (λ_ s=>jO [(15,.sb s)]);exact wA (iO [4,6,8]) func454 call454
instance c191 {c}:CC M 191 (OQ c) [.agg (rO M c)] (λr=>.sb r):=by
 have:=ct 2 [1,21] (λ_ s=>jO [(21,.sb s)]);have:=lo 4 [1,3] (λ_ s=>jO [(3,sI s)]);have:=ct 12 [1,3,37] (λ_ s=>jO [(37,.sb s)]);exact wA (iO [2,8,12]) func191 call191
instance c229 {l}{n}:CC M 229 (FK l n) [.sl 1 (mI M l) false,sI n] (λr=>sI r):=by
 have:=lo 3 [0,1,5,6] (λ_ (s:Int×Int)=>jO [(5,sI s.1),(6,sI s.2)]);have:=ct 9 [0,1,5,6] (λ_ s=>jO [(5,sI s)]);exact wA (iO [9]) func229 call229
instance c196 {l}{name}:CC M 196 (Ny l name) [oh M l,.str name] (λr=>.sb r):=by
 have:=lo 2 [0,1,5] (λ_ s=>jO [(5,sI s)]);have:=ct 8 [0,1,5,25] (λ_ s=>jO [(25,.sb s)]);exact wA (iO [8]) func196 call196
instance c160 {p}:CC M 160 (Nh p) [.agg [sI p.a0,sI p.a1,sI p.a2,sI p.a3,sI p.a4,sI p.a5]] (λr=>.sb r):=by
 have:=lo 2 [1,3] (λ_ s=>jO [(3,sI s)]);have:=ct 8 [1,3,17] (λ_ s=>jO [(17,.sb s)]);exact wA (iO [4,8]) func160 call160
instance c221 {o}{c1}:CC M 221 (Ko o c1) [.agg (jQ M o),.pp [sI c1]] (λr=>.sb r):=by
 exact wA ig func221 call221
instance c176 {o}{c1}:CC M 176 (Kv o c1) [.agg (jQ M o),.pp [sI c1]] (λr=>.sb r):=by
 exact wA ig func176 call176
instance c86 {n}{least}{most}:CC M 86 (xy n least most) [sI n,sI least,sI most] (λr=>.sb r):=by
 exact wA ig func86 call86
instance c130 {s}:CC M 130 (slices_Clone_int s) [.sl 1 (mI M s) false] (λr=>.sl 1 (mI M r) false):=by
 exact wA ig func130 call130
instance c48 {l}:CC M 48 (uM l) [.sl 1 (mI M l) false] (λr=>.sl 1 (mI M r) false):=by
 exact wA ig func48 call48
instance c466 {m}:CC M 466 (QF m) [.agg (yT M m)] (λr=>.agg (yT M r)):=by
 exact wA (iO [1017]) func466 call466
instance c250 {k}{c1}:CC M 250 (uC k c1) [sI k,.pp [sI c1]] (λr=>.sb r):=by
 exact wA ig func250 call250
instance c156 {l}:CC M 156 (DW l) [.sl 1 (mI M l) false] (λr=>.sl 1 (mI M r) false):=by
 exact wA ig func156 call156
instance c232 {o}:CC M 232 (Nk o) [.agg (jQ M o)] (λr=>.agg (jQ M r)):=by
 exact wA ig func232 call232
instance c207 {s}{p}:CC M 207 (Fb s p) [.agg (iF M s),sI p] (λr=>.sb r):=by
 exact wA ig func207 call207
instance c177 {mask}{key}:CC M 177 (qh mask key) [sI mask,sI key] (λr=>.sb r):=by
 exact wA ig func177 call177
instance c469 {s}{c1}:CC M 469 (IK s c1) [.str s,.pp [.str c1]] (λr=>.sb r):=by
 exact wA ig func469 call469
instance c231 {o}:CC M 231 (Qe o) [.agg (jQ M o)] (λr=>.agg (jQ M r)):=by
 exact wA ig func231 call231
instance c485 {n}{most}:CC M 485 (lQ n most) [sI n,sI most] (λr=>.sb r):=by
 exact wA ig func485 call485
instance c459 {b}{n}:CC M 459 (Jp b n) [.agg (ET M b),sI n] (λr=>.sb r):=by
 exact wA ig func459 call459
instance c286 {pe}:CC M 286 (Ic pe) [.agg (jZ M pe)] (λr=>.sb r):=by
 exact wA ig func286 call286
instance c357  : CC M 357 (AX ) [] (λr=>.sl 1 (M.m ByteArray eS r) false):=by
 exact wA ig func357 call357
instance c358  : CC M 358 (yY ) [] (λr=>.sl 1 (M.m ByteArray eS r) false):=by
 exact wA ig func358 call358
instance c389  : CC M 389 (Dp ) [] (λr=>.sl 1 (M.m ByteArray eS r) false):=by
 exact wA ig func389 call389
instance c391  : CC M 391 (Dq ) [] (λr=>.sl 1 (M.m ByteArray eS r) false):=by
 exact wA ig func391 call391
instance c448 {op}:CC M 448 (Qq op) [sI op] (λr=>.str r):=by
 exact wA ig func448 call448
instance c387 {i}:CC M 387 (Jm i) [sI i] (λr=>.str r):=by
 exact wA ig func387 call387
instance c140 {n}:CC M 140 (qN n) [sI n] (λr=>sI r):=by
 exact wA ig func140 call140
instance c349 {n}:CC M 349 (CV n) [sI n] (λr=>sI r):=by
 exact wA ig func349 call349
end Go.Proofs.YtchmoabpofnbaaaGreat
