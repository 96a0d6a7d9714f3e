import Derived.Test.YtchmoabpofnbaaaGreatW3a
import Derived.Test.YtchmoabpofnbaaaGreatW3c
import Derived.Test.YtchmoabpofnbaaaGreatW3g
set_option linter.all false
namespace Go.Proofs.YtchmoabpofnbaaaGreat
open Go Go.Pv Proofs.Tryz
set_option maxRecDepth 100000
set_option maxHeartbeats 20000000
variable [GM]
attribute [local irreducible] bnd br jn qR ig jK lK jS rQ uY divO lu jR kY lD lU mg l9
variable {M:iO}[HM M]
instance aiG {s}{w1}{w2}{w3}{w4:List (List Bool)}:CC M 226 (oW s (λa0=>xy a0 w1 w2 (λa0 a1=>rY a0 a1 w3 w4))) [.sl 1 (mI M s) false,.fn 405 [.pp [sI w1],.pp [.sl 1 (M.m (List Bool) (eL M 1 eB) w2) false],.pp [.fn 455 [.pp [.sl 1 (mI M w3) false],.pp [.sl 1 (M.m (List Bool) (eL M 1 eB) w4) false]]]]] (λr=>sI r):=by
 have:=lo 2 [0,1,7,8] (λ_ s=>kG [(8,sI s)]);exact wA iE func226 call226
instance c244 {cards}{o}:CC M 244 (En cards o) [mD M cards,.agg (jY M o)] (λr=>.agg (lq M r)):=by
 have:=ct 9 [0,3,4,5] (λ_ s=>kG [(5,sI s)]);have:=ct 15 [3,4,6] (λ_ s=>up [] [(2,(vR (lq M s)))]) [.cS 2 15 72,.cS 2 11 1];have:=ct 10 [0,3,4,5,6,21] (λ_ s=>kG [(21,.sb s)]);exact wA (ja [9,10,15]) func244 call244
instance c53 {cards}{o}:CC M 53 (Xo cards o) [mD M cards,.agg (jY M o)] (λr=>.agg (lq M r)):=by
 have:=ct 9 [0,3,4,5] (λ_ s=>kG [(5,sI s)]);have:=ct 15 [3,4,6] (λ_ s=>up [] [(2,(vR (lq M s)))]) [.cS 2 15 72,.cS 2 11 1];have:=ct 10 [0,3,4,5,6,20] (λ_ s=>kG [(20,.sb s)]);exact wA (ja [9,10,15]) func53 call53
instance c287 {cards}{s}{all}{pe}{o}:CC M 287 (Jz cards s all pe o) [mD M cards,.agg (iQ M s),ny M all,.agg (jm M pe),.agg (vV M o)] (λr=>.agg (oU M r)):=by
 have:=ct 8 [9,10,12,44] (λ_ s=>kG [(44,.sb s)]);exact wA (ja [8]) func287 call287
instance c456 {f}:CC M 456 (Iw f) [.agg (jU M f)] (λr=>.sb r):=by
 have:=ct 2 [1,30] (λ_ s=>kG [(30,.sb s)]);have:=ct 6 [1,48] (λ_ s=>kG [(48,.sb s)]);have:=ct 10 [1,66] (λ_ s=>kG [(66,.sb s)]);have:=ct 14 [1,75] (λ_ s=>kG [(75,.sb s)]);exact wA (ja [2,6,10,14]) func456 call456
instance c161 {s}{l}{jB}{owner}:CC M 161 (CX s l jB owner) [.agg (iQ M s),.sl 1 (mI M l) false,sI jB,sI owner] (λr=>.sb r):=by
 have:=lo 2 [1,2,3,4,9] (λ_ s=>kG [(9,sI s)]);have:=ct 10 [1,2,3,4,9,53] (λ_ s=>kG [(53,.sb s)]);exact wA (ja [10]) func161 call161
instance aiH {x}{target}:CC M 462 (pq x target wF) [pR M x,sI target,.fn 463 []] (λr=>.EJ [sI r.1,.sb r.2]):=by
 have:=lo 3 [0,1,2,8,9,10] (λ_ (s:Int×Int)=>kG [(9,sI s.1),(10,sI s.2)]);exact wA iE func462 call462
instance aiI {s}{w1:List iU}:CC M 185 (zy s (λa0=>Ah a0 w1)) [xW M s,.fn 284 [.pp [xW M w1]]] (λr=>sI r):=by
 have:=lo 2 [0,1,7,8] (λ_ s=>kG [(8,sI s)]);exact wA iE func185 call185
instance c89 {cards}{s}:CC M 89 (tq cards s) [mD M cards,.agg (iQ M s)] (λr=>.sb r):=by
 have:=lo 4 [0,3,5] (λ_ s=>kG [(5,sI s)]);have:=ct 14 [0,3,5,6,60] (λ_ s=>kG [(60,.sb s)]);exact wA (ja [14]) func89 call89
instance c235 {f}:CC M 235 (Dx f) [.agg (jU M f)] (λr=>.sb r):=by
 have:=ct 2 [1,40] (λ_ s=>kG [(40,.sb s)]);have:=ct 6 [1,54] (λ_ s=>kG [(54,.sb s)]);have:=ct 10 [1,73] (λ_ s=>kG [(73,.sb s)]);exact wA (ja [2,6,10]) func235 call235
instance c192 {l}:CC M 192 (Jh l) [.agg (JZ M l)] (λr=>.sb r):=by
 have:=ct 2 [1,27] (λ_ s=>kG [(27,.sb s)]);have:=lo 4 [1,3] (λ_ s=>kG [(3,sI s)]);have:=ct 12 [1,3,59] (λ_ s=>kG [(59,.sb s)]);exact wA (ja [2,12]) func192 call192
instance aiJ {s}{w1:Int}:CC M 327 (uM s (λa0=>vW a0 w1)) [RF M s,.fn 328 [.pp [sI w1]]] (λr=>.sb r):=by
 exact wA iE func327 call327
instance c214 {a}{b}:CC M 214 (O5 a b) [.agg (jQ M a),.agg (jQ M b)] (λr=>.sb r):=by
 have:=lo 4 [2,3,5] (λ_ s=>kG [(5,sI s)]);exact wA iE func214 call214
instance c395 {i}:CC M 395 (Ae i) [sI i] (λr=>.str r):=by
 have:=lo 3 [0,3,4] (λ_ (s:Int×Int)=>kG [(3,sI s.1),(4,sI s.2)]);exact wA iE func395 call395
instance c383 {p}:CC M 383 (Ed p) [.agg [sI p.a0,sI p.a1,sI p.a2,sI p.a3,sI p.a4,sI p.a5]] (λr=>.str r):=by
 exact wA iE func383 call383
instance c62 {s}{id}:CC M 62 (EH s id) [.agg (iQ M s),sI id] (λr=>.EJ [.agg (jY M r.1),.sb r.2]):=by
 exact wA iE func62 call62
instance c446 {c}:CC M 446 (Fz c) [.agg (oK M c)] (λr=>.sb r):=by
 exact wA iE func446 call446
end Go.Proofs.YtchmoabpofnbaaaGreat
