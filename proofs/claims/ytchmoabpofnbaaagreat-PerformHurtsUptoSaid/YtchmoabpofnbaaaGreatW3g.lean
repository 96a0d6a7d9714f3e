import Derived.Test.YtchmoabpofnbaaaGreatW2a
import Derived.Test.YtchmoabpofnbaaaGreatW2b
import Derived.Test.YtchmoabpofnbaaaGreatW2f
import Derived.Test.YtchmoabpofnbaaaGreatW2j
import Derived.Test.YtchmoabpofnbaaaGreatW2n
set_option linter.all false
namespace Go.Proofs.YtchmoabpofnbaaaGreat
open Go Go.Pv Proofs.Tryz
set_option maxRecDepth 100000
set_option maxHeartbeats 20000000
variable [GM]
attribute [local irreducible] bnd br jn qR ig jK lK jS rQ uY divO lu jR kY lD lU mg l9
variable {M:iO}[HM M]
instance c322 {mask}:CC M 322 (J6 mask) [sI mask] (λr=>.str r):=by
 have:=lo 5 [0,3,4] (λ_ (s:Int×ByteArray×Int)=>kG [(0,sI s.1),(3,.str s.2.1),(4,sI s.2.2)]);have:=ct 13 [0,3,4] (λ_ (s:Int×ByteArray)=>kG [(0,sI s.1),(3,.str s.2)]);have:=ct 23 [0,3,4] (λ_ s=>kG [(3,.str s)]);have:=ct 21 [0,3,4] (λ_ s=>kG [(3,.str s)]);exact wA (ja [10,13,21,23]) func322 call322
instance aiA {j}{c1}{c2}{w1}{w2:List (List Bool)}:CC M 405 (xy j c1 c2 (λa0 a1=>rY a0 a1 w1 w2)) [sI j,.pp [sI c1],.pp [.sl 1 (M.m (List Bool) (eL M 1 eB) c2) false],.pp [.fn 455 [.pp [.sl 1 (mI M w1) false],.pp [.sl 1 (M.m (List Bool) (eL M 1 eB) w2) false]]]] (λr=>.sb r):=by
 exact wA iE func405 call405
instance c461 {c}{x}:CC M 461 (Jm c x) [.agg (rV M c),sI x] (λr=>sI r):=by
 have:=lo 5 [1,2,5,14,15] (λ_ (s:Int×Int)=>kG [(5,sI s.1),(15,sI s.2)]);have:=ct 12 [1,2,5,7,14,15] (λ_ s=>kG [(7,sI s)]);exact wA (ja [10,12]) func461 call461
instance aiB {s}{w1:Int}:CC M 402 (xx s (λa0=>vW a0 w1)) [RF M s,.fn 328 [.pp [sI w1]]] (λr=>sI r):=by
 have:=lo 2 [0,1,7,8] (λ_ s=>kG [(8,sI s)]);exact wA iE func402 call402
instance c359 {s}{all}{id}:CC M 359 (pK s all id) [.agg (iQ M s),ny M all,sI id] (λr=>.EJ [.agg (jY M r.1),.agg (lq M r.2.1),.sb r.2.2]):=by
 exact wA (ja [1006]) func359 call359
instance c304 {a}{b}:CC M 304 (Ee a b) [Px M a,Px M b] (λr=>.sb r):=by
 have:=lo 4 [0,1,5] (λ_ s=>kG [(5,sI s)]);exact wA iE func304 call304
instance aiC {s}{w1:kL}:CC M 482 (lZ s (λa0=>AB a0 w1)) [pR M s,.fn 483 [.pp (oK M w1)]] (λr=>.sb r):=by
 exact wA iE func482 call482
instance aiD {s}{w1:kL}:CC M 482 (lZ s (λa0=>AL a0 w1)) [pR M s,.fn 484 [.pp (oK M w1)]] (λr=>.sb r):=by
 exact wA iE func482 call482
instance c284 {o}{c1}:CC M 284 (Ah o c1) [.agg (vV M o),.pp [xW M c1]] (λr=>.sb r):=by
 exact wA iE func284 call284
instance c228 {s}{id}:CC M 228 (E8 s id) [.agg (iQ M s),sI id] (λr=>.EJ [.agg (jY M r.1),.sb r.2]):=by
 exact wA iE func228 call228
instance c300 {a}{b}:CC M 300 (oL a b) [.agg (jZ M a),.agg (jZ M b)] (λr=>sI r):=by
 exact wA iE func300 call300
instance c163 {s}{o}:CC M 163 (Je s o) [.agg (iQ M s),.agg (jY M o)] (λr=>.sb r):=by
 exact wA iE func163 call163
instance c396 {name}{b}:CC M 396 (wB name b) [.str name,.agg (D8 M b)] (λr=>.str r):=by
 exact wA iE func396 call396
instance c460 {l}{sub}:CC M 460 (ve l sub) [.agg (JZ M l),.str sub] (λr=>.sb r):=by
 exact wA iE func460 call460
instance c463 {o}{id}:CC M 463 (wF o id) [.agg (jY M o),sI id] (λr=>sI r):=by
 exact wA iE func463 call463
instance c326 {c}:CC M 326 (Ci c) [.agg [sI c.a0,sI c.a1,sI c.a2]] (λr=>sI r):=by
 exact wA iE func326 call326
instance c137 {s}{id}:CC M 137 (NF s id) [.agg (iQ M s),sI id] (λr=>sI r):=by
 exact wA iE func137 call137
instance c320 {mask}:CC M 320 (wz mask) [sI mask] (λr=>.str r):=by
 exact wA iE func320 call320
instance c467 {s}:CC M 467 (yZ s) [.str s] (λr=>.sb r):=by
 exact wA iE func467 call467
instance c281 {s}:CC M 281 (BG s) [.str s] (λr=>.sb r):=by
 exact wA iE func281 call281
end Go.Proofs.YtchmoabpofnbaaaGreat
