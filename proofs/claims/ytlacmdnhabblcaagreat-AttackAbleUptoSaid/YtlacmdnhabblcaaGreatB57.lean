import Derived.Test.YtlacmdnhabblcaaGreatB42
set_option linter.all false
namespace Go.Proofs.YtlacmdnhabblcaaGreat
open Go Go.Pv
set_option maxRecDepth 100000
set_option maxHeartbeats 2000000
def yX (a:List iL)(b:List iL)(s1:Int)(k2:Int->Option Bool):Option Bool :=
 br (decide (s1<(iV a))) (bnd (kJ a s1) λx4 =>
 bnd (kJ b s1) λx5 =>
 lt ((decide (x4.kind=x5.kind)&&(decide (x4.a=x5.a)&&(decide (x4.b=x5.b)&&true)))==false) λv6 =>
 br v6 (some false)
 (k2 (jq s1 1)))
 (some true)
def zH (a:List iL)(b:List iL):Option Bool :=
 br (!decide ((iV a)=(iV b))) (some false)
 (jw (yX a b) 0)
def yY (cards:List jI)(s:iT):Option Bool :=
 bnd (AO cards s) λy1 =>
 br (y1==false) (bnd (yB) λy2 =>
 some y2)
 (bnd (zM cards s) λy3 =>
 bnd (uD s y3) λy4 =>
 bnd (CP s y3) λy5 =>
 bnd (zH y4 y5) λy6 =>
 br y6 (bnd (yB) λy7 =>
 some y7)
 (some false))
end Go.Proofs.YtlacmdnhabblcaaGreat
