import Derived.Test.YtlacmdnhabblcaaGreatB35
import Derived.Test.YtlacmdnhabblcaaGreatB46
set_option linter.all false
namespace Go.Proofs.YtlacmdnhabblcaaGreat
open Go Go.Pv
set_option maxRecDepth 100000
set_option maxHeartbeats 2000000
def oM (l:List Int):Option (List Int) :=
 jW l.length 8 (
 some l)
def Eb (answers:List (List Int))(s1:Int×(List (List Int)))(k2:(Int×(List (List Int)))->Option jy):Option jy :=
 br (decide (s1.1<(iV answers))) (bnd (kJ answers s1.1) λx4 =>
 bnd (oM x4) λy5 =>
 jW (s1.2.length+([y5]).length) 24 (
 k2 ((jq s1.1 1),(s1.2++[y5]))))
 (some (jy.mk s1.2 0 wO false false))
def EJ (answers:List (List Int)):Option jy :=
 jw (Eb answers) (0,[])
def lY (l:List iL):Option (List iL) :=
 jW l.length 24 (
 some l)
def IE (c:jY):Option Bool :=
 br (decide (c.kind=1)) (some (decide ((iV c.options)<=1)))
 (br (decide (c.kind=2)) (some (decide ((iV c.options)<=1)))
 (br (decide (c.kind=9)) (some (decide ((iV c.options)<=1)))
 (br (decide (c.kind=10)) (some (decide ((iV c.options)<=1)))
 (br (decide (c.kind=11)) (some (decide ((iV c.options)<=1)))
 (br (decide (c.kind=4)) (some (decide ((iV c.options)<=1)))
 (br (decide (c.kind=8)) (some (decide ((iV c.options)<=1)))
 (br (decide (c.kind=6)) (some (decide ((iV c.options)=0)))
 (br (decide (c.kind=7)) (some (decide ((iV c.options)=0)))
 (br (decide (c.kind=3)) (br (decide (c.least=c.most)) (br (decide (c.least=0)) (some true)
 (some (decide (c.least=(iV c.options)))))
 (some false))
 (br (decide (c.kind=5)) (some (decide (c.least=c.most)))
 (some true)))))))))))
def P7 (l:List Int)(n:Int):Option Int :=
 bnd (slices_Index_int l n) λy1 =>
 some y1
def P8 (c:jY)(a:List Int)(s1:Int)(k2:Int->Option Bool):Option Bool :=
 br (decide (s1<(iV a))) (bnd (kJ a s1) λx4 =>
 jn (λs5:Bool =>
 br s5 (some false)
 (k2 (jq s1 1))) λk6 =>
 br (decide (x4<0)) (k6 true)
 (br (decide ((iV c.options)<=x4)) (k6 true)
 (bnd (P7 a x4) λy8 =>
 k6 (!decide (y8=s1)))))
 (some true)
def rC (c:jY)(a:List Int):Option Bool :=
 jw (P8 c a) 0
def Vo (l:List Int)(n:Int):Option Bool :=
 bnd (slices_Contains_int l n) λy1 =>
 some y1
def Ob (c:jY)(a:List Int)(s1:Int×(List Int))(k2:(Int×(List Int))->Option Bool):Option Bool :=
 br (decide (s1.1<(iV a))) (bnd (kJ a s1.1) λx4 =>
 bnd (kJ c.options x4) λx5 =>
 bnd (Vo s1.2 x5.a) λy6 =>
 br y6 (some false)
 (bnd (kJ c.options x4) λx7 =>
 jW (s1.2.length+([x7.a]).length) 8 (
 k2 ((jq s1.1 1),(s1.2++[x7.a])))))
 (some true)
def Gw (c:jY)(a:List Int):Option Bool :=
 jw (Ob c a) (0,[])
def wR (c:jY)(a:List Int)(s1:Int×Int)(k2:(Int×Int)->Option Bool):Option Bool :=
 br (decide (s1.2<(iV a))) (bnd (kJ a s1.2) λx4 =>
 jn (λs5:Bool =>
 br s5 (some false)
 (k2 ((jq s1.1 x4),(jq s1.2 1)))) λk6 =>
 br (decide (x4<0)) (k6 true)
 (k6 (decide (1000000<x4))))
 (br (decide ((iV a)=(iV c.options))) (some (decide (s1.1=c.n)))
 (some false))
def uF (c:jY)(a:List Int):Option Bool :=
 jw (wR c a) (0,0)
def AP (c:jY)(a:List Int):Option Bool :=
 br (decide (256<(iV a))) (some false)
 (br (decide (c.kind=1)) (br (decide ((iV a)=1)) (bnd (rC c a) λy1 =>
 some y1)
 (some false))
 (br (decide (c.kind=2)) (br (decide ((iV a)=1)) (bnd (rC c a) λy2 =>
 some y2)
 (some false))
 (br (decide (c.kind=9)) (br (decide ((iV a)=1)) (bnd (rC c a) λy3 =>
 some y3)
 (some false))
 (br (decide (c.kind=10)) (br (decide ((iV a)=1)) (bnd (rC c a) λy4 =>
 some y4)
 (some false))
 (br (decide (c.kind=11)) (br (decide ((iV a)=1)) (bnd (rC c a) λy5 =>
 some y5)
 (some false))
 (br (decide (c.kind=3)) (br (decide (c.least<=(iV a))) (br (decide ((iV a)<=c.most)) (bnd (rC c a) λy6 =>
 some y6)
 (some false))
 (some false))
 (br (decide (c.kind=4)) (br (decide ((iV a)=(iV c.options))) (bnd (rC c a) λy7 =>
 some y7)
 (some false))
 (br (decide (c.kind=5)) (br (decide ((iV a)=1)) (bnd (kJ a 0) λx8 =>
 br (decide (c.least<=x8)) (bnd (kJ a 0) λx9 =>
 some (decide (x9<=c.most)))
 (some false))
 (some false))
 (br (decide (c.kind=6)) (bnd (rC c a) λy10 =>
 br y10 (bnd (Gw c a) λy11 =>
 some y11)
 (some false))
 (br (decide (c.kind=7)) (bnd (rC c a) λy12 =>
 br y12 (bnd (Gw c a) λy13 =>
 some y13)
 (some false))
 (br (decide (c.kind=8)) (bnd (uF c a) λy14 =>
 some y14)
 (some false))))))))))))
def pJ (k:jy)(c:jY):Option ((List Int)×jy) :=
 jn (λs1:Bool =>
 br s1 (bnd (sJ c) λy5 =>
 some (y5,k))
 (br (decide (k.used=(iV k.answers))) (bnd (lY c.options) λy6 =>
 bnd (sJ { c with options:=y6 }) λy7 =>
 some (y7,{ k with pending:={ c with options:=y6 },waits:=true }))
 (bnd (kJ k.answers k.used) λx8 =>
 bnd (AP c x8) λy9 =>
 br (y9==false) (bnd (sJ c) λy10 =>
 some (y10,{ k with used:=(jq k.used 1),bad:=true }))
 (bnd (oM x8) λy11 =>
 some (y11,{ k with used:=(jq k.used 1) }))))) λk2 =>
 br k.waits (k2 true)
 (br k.bad (k2 true)
 (bnd (IE c) λy4 =>
 k2 y4))
def pW (f:iP)(s12:(List iL))(y16:(List Int)×jy)(s18:Int×(List iZ))(k19:(Int×(List iZ))->Option ((List iZ)×Bool×jy)):Option ((List iZ)×Bool×jy) :=
 br (decide (s18.1<(iV s12))) (jn (λs21:(List iZ) =>
 k19 ((jq s18.1 1),s21)) λk22 =>
 bnd (Hz s12.length s18.1) λj24 =>
 bnd (s12[j24]?) λx25 =>
 br (decide (x25.kind=6)) (bnd (Hz y16.1.length s18.1) λj26 =>
 bnd (y16.1[j26]?) λx27 =>
 bnd (uQ f 0 x25.a x27) λy28 =>
 jW (s18.2.length+([y28]).length) 112 (
 k22 (s18.2++[y28])))
 (bnd (Hz y16.1.length s18.1) λj29 =>
 bnd (y16.1[j29]?) λx30 =>
 bnd (uQ f x25.a 0 x30) λy31 =>
 jW (s18.2.length+([y31]).length) 112 (
 k22 (s18.2++[y31]))))
 (some (s18.2,true,y16.2))
def qR (k:jy)(s:iT)(all:List iM)(f:iP)(y1:List Int)(s2:Int×(List iL)×(List Int))(k3:(Int×(List iL)×(List Int))->Option ((List iZ)×Bool×jy)):Option ((List iZ)×Bool×jy) :=
 br (decide (s2.1<(iV y1))) (bnd (kJ y1 s2.1) λx5 =>
 bnd (vV s x5) λy6 =>
 lt (iL.mk 5 x5 0) λx7 =>
 jW (s2.2.1.length+([x7]).length) 24 (
 bnd (sK s all x5) λy8 =>
 bnd (kZ f.t.keys 128) λy9 =>
 bnd (qj y6.1 y8 y9) λy10 =>
 jW (s2.2.2.length+([y10]).length) 8 (
 k3 ((jq s2.1 1),(s2.2.1++[x7]),(s2.2.2++[y10])))))
 (bnd (kZ f.t.keys 16) λy11 =>
 jn (λs12:(List iL) =>
 br (decide ((iV s12)=0)) (some ([],true,k))
 (bnd (pJ k (jY.mk 8 f.t.control f.o.id 0 0 f.t.power s12)) λy16 =>
 bnd (pR s2.2.2 y16.1 f.t.power y11) λy17 =>
 br (y17==false) (some ([],false,y16.2))
 (jw (pW f s12 y16) (0,[])))) λk13 =>
 br y11 (lt (iL.mk 6 f.o.lG 0) λx15 =>
 jW (s2.2.1.length+([x15]).length) 24 (
 k13 (s2.2.1++[x15])))
 (k13 s2.2.1))
def qE (k:jy)(s:iT)(all:List iM)(f:iP):Option ((List iZ)×Bool×jy) :=
 bnd (mZ s f.o.id) λy1 =>
 jw (qR k s all f y1) (0,[],[])
def sQ (s:iT)(first:Bool)(y1:List iP)(s2:jy×Int×(List iZ))(s15:Int×(List iZ))(k16:(Int×(List iZ))->Option ((List iZ)×Bool×jy)):Option ((List iZ)×Bool×jy) :=
 br (decide (s15.1<(iV y1))) (jn (λs18:(List iZ) =>
 k16 ((jq s15.1 1),s18)) λk19 =>
 bnd (kJ y1 s15.1) λx21 =>
 jn (λs22:Bool =>
 br s22 (k19 s15.2)
 (bnd (vV s x21.o.blocks) λy26 =>
 jn (λs27:Bool =>
 br s27 (bnd (uQ x21 y26.1.id 0 x21.t.power) λy30 =>
 jW (s15.2.length+([y30]).length) 112 (
 k19 (s15.2++[y30])))
 (k19 s15.2)) λk28 =>
 br y26.2 (k28 (decide (y26.1.jQ=0)))
 (k28 false))) λk23 =>
 br (decide (x21.o.blocks=0)) (k23 true)
 (bnd (nY x21 first) λy25 =>
 k23 (y25==false)))
 (bnd (oL s15.2 qC) λy31 =>
 some (y31,true,s2.1))
def yV (s:iT)(all:List iM)(first:Bool)(y1:List iP)(s2:jy×Int×(List iZ))(k3:(jy×Int×(List iZ))->Option ((List iZ)×Bool×jy)):Option ((List iZ)×Bool×jy) :=
 br (decide (s2.2.1<(iV y1))) (jn (λs5:jy×(List iZ) =>
 k3 (s5.1,(jq s2.2.1 1),s5.2)) λk6 =>
 bnd (kJ y1 s2.2.1) λx8 =>
 jn (λs9:Bool =>
 br s9 (k6 (s2.1,s2.2.2))
 (br (x8.o.blocked==false) (bnd (uQ x8 0 x8.o.lG x8.t.power) λy13 =>
 jW (s2.2.2.length+([y13]).length) 112 (
 k6 (s2.1,(s2.2.2++[y13]))))
 (bnd (qE s2.1 s all x8) λy14 =>
 br (y14.2.1==false) (some ([],false,y14.2.2))
 (jW (s2.2.2.length+y14.1.length) 112 (
 k6 (y14.2.2,(s2.2.2++y14.1))))))) λk10 =>
 br (decide (x8.o.lG<0)) (k10 true)
 (bnd (nY x8 first) λy12 =>
 k10 (y12==false)))
 (jw (sQ s first y1 s2) (0,s2.2.2))
def sN (k:jy)(s:iT)(all:List iM)(first:Bool):Option ((List iZ)×Bool×jy) :=
 bnd (ui s all) λy1 =>
 jw (yV s all first y1) (k,0,[])
end Go.Proofs.YtlacmdnhabblcaaGreat
