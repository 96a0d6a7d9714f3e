import Derived.Test.YtchmoabpofnbaaaGreatC11
set_option linter.all false
namespace Go.Proofs.YtchmoabpofnbaaaGreat
open Go Go.Pv Proofs.Tryz
set_option maxRecDepth 100000
set_option maxHeartbeats 20000000
variable [GM]
attribute [local irreducible] bnd br jn qE gK jv lJ jl rD uo divO kT jL kN kP lI lS lM
variable {M:iG}[HM M]
instance c360 {cards}{s}{all}{pe}{pr}{you}{source}:CC M 360 (zu cards s all pe pr you source) [oh M cards,.agg (iF M s),lq M all,.agg (jZ M pe),.agg (rY M pr),sI you,sI source] (λr=>.sb r):=by
 exact wA ig func360 call360
end Go.Proofs.YtchmoabpofnbaaaGreat
