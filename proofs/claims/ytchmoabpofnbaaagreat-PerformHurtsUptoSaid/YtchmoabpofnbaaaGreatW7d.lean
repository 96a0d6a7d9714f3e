import Derived.Test.YtchmoabpofnbaaaGreatW6a
import Derived.Test.YtchmoabpofnbaaaGreatW6d
set_option linter.all false
namespace Go.Proofs.YtchmoabpofnbaaaGreat
open Go Go.Pv Proofs.Tryz
set_option maxRecDepth 100000
set_option maxHeartbeats 20000000
variable [GM]
attribute [local irreducible] bnd br jn qR ig jK lK jS rQ uY divO lu jR kY lD lU mg l9
variable {M:iO}[HM M]
instance c167 {l}:CC M 167 (xP l) [RF M l] (λr=>.str r):=by
 have:=ct 2 [0,12] (λ_ s=>kG [(12,.sb s)]);have:=lo 5 [0,3,4] (λ_ (s:ByteArray×Int)=>kG [(3,.str s.1),(4,sI s.2)]);have:=ct 13 [0,3,4] (λ_ s=>kG [(3,.str s)]);have:=ct 23 [0,3,4] (λ_ s=>kG [(3,.str s)]);exact wA (ja [2,13,23]) func167 call167
instance c443 {kind}{id}{s}{all}{c4}{c5}:CC M 443 (nD kind id s all c4 c5) [sI kind,sI id,.agg (iL M s),ny M all,.pp (oK M c4),.pp (jZ M c5)] (λr=>.sl 1 (mI M r) false):=by
 exact wA iE func443 call443
instance c238 {pr}:CC M 238 (Xh pr) [.agg (oU M pr)] (λr=>.sb r):=by
 have:=ct 12 [1,3,4] (λ_ (s:Bool×Bool)=>kG [(3,.sb s.1),(4,.sb s.2)]);have:=ct 18 [1,3,51] (λ_ s=>kG [(51,.sb s)]);exact wA (ja [12,18]) func238 call238
instance c115 {cards}{s}{pe}:CC M 115 (xq cards s pe) [mD M cards,.agg (iQ M s),.agg (jm M pe)] (λr=>.sb r):=by
 exact wA iE func115 call115
end Go.Proofs.YtchmoabpofnbaaaGreat
