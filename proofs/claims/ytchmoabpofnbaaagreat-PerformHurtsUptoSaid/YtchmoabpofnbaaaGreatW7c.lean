import Derived.Test.YtchmoabpofnbaaaGreatW6a
import Derived.Test.YtchmoabpofnbaaaGreatW6d
set_option linter.all false
namespace Go.Proofs.YtchmoabpofnbaaaGreat
open Go Go.Pv Proofs.Tryz
set_option maxRecDepth 100000
set_option maxHeartbeats 20000000
variable [GM]
attribute [local irreducible] bnd br jn qR ig jK lK jS rQ uY divO lu jR kY lD lU mg l9
variable {M:iO}[HM M]
instance c337 {w}{i}:CC M 337 (tH w i) [.pp (yB M w),sI i] (λr=>.sl 1 (mI M r) false):=by
 have:=lo 8 [0,5,6,7,42,43,44] (λ_ (s:Int×(List Int))=>up [(7,.os 1 0 (M.n Int s.2)),(44,sI s.1)] [(1,(aR 1 (mI M s.2)))]) [.tO 7 1];have:=ct 25 [0,5,6,7,42,43,44] (λ_ s=>up [(7,.os 1 0 (M.n Int s))] [(1,(aR 1 (mI M s)))]) [.tO 7 1];have:=ct 20 [0,5,6,7,8,42,43,44,83] (λ_ s=>kG [(83,.sb s)]);exact wA (ja [20,25]) func337 call337
instance c247 {left}{stamps}{needs}:CC M 247 (Gw left stamps needs) [.sl 1 (mI M left) false,.sl 1 (mI M stamps) false,.sl 1 (M.m (List Bool) (eL M 1 eB) needs) false] (λr=>sI r):=by
 have:=lo 3 [1,7,14,15,16] (λ_ (s:Int×Int)=>kG [(7,sI s.1),(16,sI s.2)]);have:=ct 21 [1,7,14,15,16] (λ_ s=>kG [(7,sI s)]);have:=ct 16 [1,7,9,14,15,16,41] (λ_ s=>kG [(41,.sb s)]);exact wA (ja [16,21]) func247 call247
instance c360 {cards}{s}{all}{pe}{pr}{you}{source}:CC M 360 (Jy cards s all pe pr you source) [mD M cards,.agg (iQ M s),ny M all,.agg (jm M pe),.agg (oU M pr),sI you,sI source] (λr=>.sb r):=by
 have:=ct 16 [14] (λ_ s=>kG [(14,.sb s)]);have:=ct 24 [14] (λ_ s=>kG [(14,.sb s)]);exact wA (ja [16,24]) func360 call360
end Go.Proofs.YtchmoabpofnbaaaGreat
