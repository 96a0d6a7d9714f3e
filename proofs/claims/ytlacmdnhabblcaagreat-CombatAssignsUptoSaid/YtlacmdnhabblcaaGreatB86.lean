import Derived.Test.YtlacmdnhabblcaaGreatB47
import Derived.Test.YtlacmdnhabblcaaGreatB85
set_option linter.all false
namespace Go.Proofs.YtlacmdnhabblcaaGreat
open Go Go.Pv
set_option maxRecDepth 100000
set_option maxHeartbeats 2000000
def sD (x:nI)(y3:List iM)(y5:(List iZ)×Bool×jy)(s10:Int)(k11:Int->Option Bool)(x13:iW)(s14:Int×Int)(k15:(Int×Int)->Option Bool):Option Bool :=
 br (decide (s14.2<(iV y5.1))) (jn (λs17:Int =>
 k15 (s17,(jq s14.2 1))) λk18 =>
 bnd (Hz y5.1.length s14.2) λj20 =>
 bnd (y5.1[j20]?) λx21 =>
 jn (λs22:Int =>
 jn (λs25:Bool =>
 br s25 (some false)
 (k18 s22)) λk26 =>
 br (!decide (x21.kind=1)) (k26 true)
 (br (x21.Ib==false) (k26 true)
 (br (decide (x21.amount<1)) (k26 true)
 (k26 (decide (x21.source=0)))))) λk23 =>
 br (decide (x21.source=x13.id)) (k23 (jq s14.1 x21.amount))
 (k23 s14.1))
 (bnd (kJ y3 s10) λx28 =>
 jn (λs29:Bool =>
 br s29 (some false)
 (jn (λs32:Bool =>
 br s32 (some false)
 (k11 (jq s10 1))) λk33 =>
 br (decide (0<s14.1)) (br (!decide (s14.1=x28.power)) (br (decide (0<=x13.lG)) (br (!decide (x13.blocks=0)) (k33 ((decide (s14.1=(zu 2 x28.power)))==false))
 (k33 true))
 (k33 true))
 (k33 false))
 (k33 false))) λk30 =>
 br (decide (0<s14.1)) (br (decide ((kz .and .i64 x28.line.types 1)=0)) (k30 true)
 (br (!decide (x13.jQ=0)) (k30 true)
 (br (decide (x13.lG<0)) (br (decide (x13.blocks=0)) (k30 true)
 (br x.first (br ((!decide ((kz .and .i64 x28.keys 32)=0))==false) (br ((!decide ((kz .and .i64 x28.keys 64)=0))==false) (k30 true)
 (br (x.first==false) (br (!decide ((kz .and .i64 x28.keys 32)=0)) (k30 ((!decide ((kz .and .i64 x28.keys 64)=0))==false))
 (k30 false))
 (k30 false)))
 (br (x.first==false) (br (!decide ((kz .and .i64 x28.keys 32)=0)) (k30 ((!decide ((kz .and .i64 x28.keys 64)=0))==false))
 (k30 false))
 (k30 false)))
 (br (x.first==false) (br (!decide ((kz .and .i64 x28.keys 32)=0)) (k30 ((!decide ((kz .and .i64 x28.keys 64)=0))==false))
 (k30 false))
 (k30 false))))
 (br x.first (br ((!decide ((kz .and .i64 x28.keys 32)=0))==false) (br ((!decide ((kz .and .i64 x28.keys 64)=0))==false) (k30 true)
 (br (x.first==false) (br (!decide ((kz .and .i64 x28.keys 32)=0)) (k30 ((!decide ((kz .and .i64 x28.keys 64)=0))==false))
 (k30 false))
 (k30 false)))
 (br (x.first==false) (br (!decide ((kz .and .i64 x28.keys 32)=0)) (k30 ((!decide ((kz .and .i64 x28.keys 64)=0))==false))
 (k30 false))
 (k30 false)))
 (br (x.first==false) (br (!decide ((kz .and .i64 x28.keys 32)=0)) (k30 ((!decide ((kz .and .i64 x28.keys 64)=0))==false))
 (k30 false))
 (k30 false))))))
 (k30 false))
def sF (x:nI)(y3:List iM)(y5:(List iZ)×Bool×jy)(s10:Int)(k11:Int->Option Bool):Option Bool :=
 br (decide (s10<(iV x.s.objects))) (bnd (kJ x.s.objects s10) λx13 =>
 jw (sD x y3 y5 s10 k11 x13) (0,0))
 (bnd (ry) λy35 =>
 some y35)
def vM (x:nI):Option Bool :=
 bnd (Ad x) λy1 =>
 br (y1==false) (bnd (ry) λy2 =>
 some y2)
 (bnd (zM x.cards x.s) λy3 =>
 bnd (EJ x.answers) λy4 =>
 bnd (sN { y4 with answers:=y4.answers } x.s y3 x.first) λy5 =>
 br (y5.2.1==false) (jn (λs6:Bool =>
 some s6) λk7 =>
 br (decide ((iV y5.1)=0)) (bnd (ry) λy9 =>
 k7 y9)
 (k7 false))
 (jw (sF x y3 y5) 0))
end Go.Proofs.YtlacmdnhabblcaaGreat
