import Derived.Test.YtlacmdnhabblcaaGreatB35
import Derived.Test.YtlacmdnhabblcaaGreatB76
set_option linter.all false
namespace Go.Proofs.YtlacmdnhabblcaaGreat
open Go Go.Pv
set_option maxRecDepth 100000
set_option maxHeartbeats 2000000
def uG (c:jY):Option (List Int) :=
 bnd (sJ c) λy1 =>
 some y1
def tV (f:iP)(s12:(List iL))(y16:List Int)(s18:Int×(List iZ))(k19:(Int×(List iZ))->Option ((List iZ)×Bool)):Option ((List iZ)×Bool) :=
 br (decide (s18.1<(iV s12))) (jn (λs21:(List iZ) =>
 k19 ((jq s18.1 1),s21)) λk22 =>
 bnd (Hz s12.length s18.1) λj24 =>
 bnd (s12[j24]?) λx25 =>
 br (decide (x25.kind=6)) (bnd (Hz y16.length s18.1) λj26 =>
 bnd (y16[j26]?) λx27 =>
 bnd (uQ f 0 x25.a x27) λy28 =>
 jW (s18.2.length+([y28]).length) 112 (
 k22 (s18.2++[y28])))
 (bnd (Hz y16.length s18.1) λj29 =>
 bnd (y16[j29]?) λx30 =>
 bnd (uQ f x25.a 0 x30) λy31 =>
 jW (s18.2.length+([y31]).length) 112 (
 k22 (s18.2++[y31]))))
 (some (s18.2,true))
def tX (s:iT)(all:List iM)(f:iP)(y1:List Int)(s2:Int×(List iL)×(List Int))(k3:(Int×(List iL)×(List Int))->Option ((List iZ)×Bool)):Option ((List iZ)×Bool) :=
 br (decide (s2.1<(iV y1))) (bnd (kJ y1 s2.1) λx5 =>
 bnd (vV s x5) λy6 =>
 lt (iL.mk 5 x5 0) λx7 =>
 jW (s2.2.1.length+([x7]).length) 24 (
 bnd (sK s all x5) λy8 =>
 bnd (kZ f.t.keys 128) λy9 =>
 bnd (qj y6.1 y8 y9) λy10 =>
 jW (s2.2.2.length+([y10]).length) 8 (
 k3 ((jq s2.1 1),(s2.2.1++[x7]),(s2.2.2++[y10])))))
 (bnd (kZ f.t.keys 16) λy11 =>
 jn (λs12:(List iL) =>
 br (decide ((iV s12)=0)) (some ([],true))
 (bnd (uG (jY.mk 8 f.t.control f.o.id 0 0 f.t.power s12)) λy16 =>
 bnd (pR s2.2.2 y16 f.t.power y11) λy17 =>
 br (y17==false) (some ([],false))
 (jw (tV f s12 y16) (0,[])))) λk13 =>
 br y11 (lt (iL.mk 6 f.o.lG 0) λx15 =>
 jW (s2.2.1.length+([x15]).length) 24 (
 k13 (s2.2.1++[x15])))
 (k13 s2.2.1))
def tJ (s:iT)(all:List iM)(f:iP):Option ((List iZ)×Bool) :=
 bnd (mZ s f.o.id) λy1 =>
 jw (tX s all f y1) (0,[],[])
def vw (s:iT)(first:Bool)(y1:List iP)(s15:Int×(List iZ))(k16:(Int×(List iZ))->Option ((List iZ)×Bool)):Option ((List iZ)×Bool) :=
 br (decide (s15.1<(iV y1))) (jn (λs18:(List iZ) =>
 k16 ((jq s15.1 1),s18)) λk19 =>
 bnd (kJ y1 s15.1) λx21 =>
 jn (λs22:Bool =>
 br s22 (k19 s15.2)
 (bnd (vV s x21.o.blocks) λy26 =>
 jn (λs27:Bool =>
 br s27 (bnd (uQ x21 y26.1.id 0 x21.t.power) λy30 =>
 jW (s15.2.length+([y30]).length) 112 (
 k19 (s15.2++[y30])))
 (k19 s15.2)) λk28 =>
 br y26.2 (k28 (decide (y26.1.jQ=0)))
 (k28 false))) λk23 =>
 br (decide (x21.o.blocks=0)) (k23 true)
 (bnd (nY x21 first) λy25 =>
 k23 (y25==false)))
 (bnd (oL s15.2 qC) λy31 =>
 some (y31,true))
def vC (s:iT)(all:List iM)(first:Bool)(y1:List iP)(s2:Int×(List iZ))(k3:(Int×(List iZ))->Option ((List iZ)×Bool)):Option ((List iZ)×Bool) :=
 br (decide (s2.1<(iV y1))) (jn (λs5:(List iZ) =>
 k3 ((jq s2.1 1),s5)) λk6 =>
 bnd (kJ y1 s2.1) λx8 =>
 jn (λs9:Bool =>
 br s9 (k6 s2.2)
 (br (x8.o.blocked==false) (bnd (uQ x8 0 x8.o.lG x8.t.power) λy13 =>
 jW (s2.2.length+([y13]).length) 112 (
 k6 (s2.2++[y13])))
 (bnd (tJ s all x8) λy14 =>
 br (y14.2==false) (some ([],false))
 (jW (s2.2.length+y14.1.length) 112 (
 k6 (s2.2++y14.1)))))) λk10 =>
 br (decide (x8.o.lG<0)) (k10 true)
 (bnd (nY x8 first) λy12 =>
 k10 (y12==false)))
 (jw (vw s first y1) (0,s2.2))
def sS (s:iT)(all:List iM)(first:Bool):Option ((List iZ)×Bool) :=
 bnd (ui s all) λy1 =>
 jw (vC s all first y1) (0,[])
def vF (s:List kD):Option (List kD) :=
 nlO (some ([]))
 (jW (0+s.length) 152 (
 some s))
def slices_Clone_int (s:List Int):Option (List Int) :=
 nlO (some ([]))
 (jW (0+s.length) 8 (
 some s))
def wS (p:kD):Option kD :=
 bnd (slices_Clone_int p.library) λy1 =>
 bnd (slices_Clone_int p.hand) λy2 =>
 bnd (slices_Clone_int p.sO) λy3 =>
 some { p with library:=y1,hand:=y2,sO:=y3 }
def vG (s:List iW):Option (List iW) :=
 nlO (some ([]))
 (jW (0+s.length) 128 (
 some s))
def xq (s:List ou):Option (List ou) :=
 nlO (some ([]))
 (jW (0+s.length) 824 (
 some s))
def qg (s:List nN):Option (List nN) :=
 nlO (some ([]))
 (jW (0+s.length) 176 (
 some s))
def xu (s:List qM):Option (List qM) :=
 nlO (some ([]))
 (jW (0+s.length) 144 (
 some s))
def vH (s:List jX):Option (List jX) :=
 nlO (some ([]))
 (jW (0+s.length) 560 (
 some s))
def vI (a:kF)(y1:List nN)(y2:List qM)(y3:List jX)(s4:Int×(List jX))(k5:(Int×(List jX))->Option kF):Option kF :=
 br (decide (s4.1<(iV y3))) (bnd (Hz s4.2.length s4.1) λj7 =>
 bnd (s4.2[j7]?) λx8 =>
 bnd (qg x8.mP) λy9 =>
 bnd (Hz s4.2.length s4.1) λj10 =>
 bnd (s4.2[j10]?) λx11 =>
 k5 ((jq s4.1 1),(s4.2.set j10 { x11 with mP:=y9 })))
 (some { a with mP:=y1,specs:=y2,nR:=s4.2 })
def sU (a:kF):Option kF :=
 bnd (qg a.mP) λy1 =>
 bnd (xu a.specs) λy2 =>
 bnd (vH a.nR) λy3 =>
 jw (vI a y1 y2 y3) (0,y3)
def vJ (s:List rF):Option (List rF) :=
 nlO (some ([]))
 (jW (0+s.length) 16 (
 some s))
def uH (s:List kT):Option (List kT) :=
 nlO (some ([]))
 (jW (0+s.length) 768 (
 some s))
def xw (s:List pI):Option (List pI) :=
 nlO (some ([]))
 (jW (0+s.length) 80 (
 some s))
def GH (s:iT)(s2:Int×(List kD))(y10:List iW)(y11:List Int)(y12:List Int)(s14:Int×(List ou))(s28:Int×(List kT))(y36:List pI)(s37:Int×(List pI))(k38:(Int×(List pI))->Option iT):Option iT :=
 br (decide (s37.1<(iV y36))) (bnd (Hz s37.2.length s37.1) λj40 =>
 bnd (s37.2[j40]?) λx41 =>
 bnd (slices_Clone_int x41.objects) λy42 =>
 bnd (Hz s37.2.length s37.1) λj43 =>
 bnd (s37.2[j43]?) λx44 =>
 bnd (Hz s37.2.length s37.1) λj45 =>
 bnd ((s37.2.set j43 { x44 with objects:=y42 })[j45]?) λx46 =>
 bnd (qg x46.mP) λy47 =>
 bnd (Hz s37.2.length s37.1) λj48 =>
 bnd ((s37.2.set j43 { x44 with objects:=y42 })[j48]?) λx49 =>
 k38 ((jq s37.1 1),((s37.2.set j43 { x44 with objects:=y42 }).set j48 { x49 with mP:=y47 })))
 (bnd (slices_Clone_int s.extra) λy50 =>
 some { s with ji:=s2.2,objects:=y10,lq:=y11,uU:=y12,stack:=s14.2,waiting:=s28.2,oq:=s37.2,extra:=y50 })
def GI (s:iT)(s2:Int×(List kD))(y10:List iW)(y11:List Int)(y12:List Int)(s14:Int×(List ou))(y27:List kT)(s28:Int×(List kT))(k29:(Int×(List kT))->Option iT):Option iT :=
 br (decide (s28.1<(iV y27))) (bnd (Hz s28.2.length s28.1) λj31 =>
 bnd (s28.2[j31]?) λx32 =>
 bnd (sU x32.jd) λy33 =>
 bnd (Hz s28.2.length s28.1) λj34 =>
 bnd (s28.2[j34]?) λx35 =>
 k29 ((jq s28.1 1),(s28.2.set j34 { x35 with jd:=y33 })))
 (bnd (xw s.oq) λy36 =>
 jw (GH s s2 y10 y11 y12 s14 s28 y36) (0,y36))
def GK (s:iT)(s2:Int×(List kD))(y10:List iW)(y11:List Int)(y12:List Int)(y13:List ou)(s14:Int×(List ou))(k15:(Int×(List ou))->Option iT):Option iT :=
 br (decide (s14.1<(iV y13))) (bnd (Hz s14.2.length s14.1) λj17 =>
 bnd (s14.2[j17]?) λx18 =>
 bnd (sU x18.jd) λy19 =>
 bnd (Hz s14.2.length s14.1) λj20 =>
 bnd (s14.2[j20]?) λx21 =>
 bnd (Hz s14.2.length s14.1) λj22 =>
 bnd ((s14.2.set j20 { x21 with jd:=y19 })[j22]?) λx23 =>
 bnd (vJ x23.targets) λy24 =>
 bnd (Hz s14.2.length s14.1) λj25 =>
 bnd ((s14.2.set j20 { x21 with jd:=y19 })[j25]?) λx26 =>
 k15 ((jq s14.1 1),((s14.2.set j20 { x21 with jd:=y19 }).set j25 { x26 with targets:=y24 })))
 (bnd (uH s.waiting) λy27 =>
 jw (GI s s2 y10 y11 y12 s14 y27) (0,y27))
def GL (s:iT)(y1:List kD)(s2:Int×(List kD))(k3:(Int×(List kD))->Option iT):Option iT :=
 br (decide (s2.1<(iV y1))) (bnd (Hz s2.2.length s2.1) λj5 =>
 bnd (s2.2[j5]?) λx6 =>
 bnd (wS x6) λy7 =>
 bnd (Hz s2.2.length s2.1) λj8 =>
 bnd (s2.2[j8]?) λx9 =>
 k3 ((jq s2.1 1),(s2.2.set j8 y7)))
 (bnd (vG s.objects) λy10 =>
 bnd (slices_Clone_int s.lq) λy11 =>
 bnd (slices_Clone_int s.uU) λy12 =>
 bnd (xq s.stack) λy13 =>
 jw (GK s s2 y10 y11 y12 y13) (0,y13))
def Mc (s:iT):Option iT :=
 bnd (vF s.ji) λy1 =>
 jw (GL s y1) (0,y1)
def Qb (o:iW):Option iW :=
 some { o with lG:=(-1),blocked:=false,blocks:=0 }
def EN (y1:iT)(s2:Int×(List iW))(k3:(Int×(List iW))->Option iT):Option iT :=
 br (decide (s2.1<(iV y1.objects))) (bnd (Hz s2.2.length s2.1) λj5 =>
 bnd (s2.2[j5]?) λx6 =>
 bnd (Qb x6) λy7 =>
 bnd (Hz s2.2.length s2.1) λj8 =>
 bnd (s2.2[j8]?) λx9 =>
 k3 ((jq s2.1 1),(s2.2.set j8 y7)))
 (some { y1 with ji:=y1.ji,objects:=s2.2,lq:=y1.lq,uU:=y1.uU,stack:=y1.stack,waiting:=y1.waiting,oq:=y1.oq,extra:=y1.extra })
def IM (s:iT):Option iT :=
 bnd (Mc s) λy1 =>
 jw (EN y1) (0,y1.objects)
def vK (x:nI):Option Bool :=
 bnd (Ad x) λy1 =>
 br (y1==false) (bnd (ry) λy2 =>
 some y2)
 (bnd (zM x.cards x.s) λy3 =>
 bnd (sS x.s y3 x.first) λy4 =>
 bnd (IM x.s) λy5 =>
 bnd (sS y5 y3 x.first) λy6 =>
 br y4.2 (br y6.2 (br (decide ((iV y6.1)=0)) (bnd (ry) λy7 =>
 some y7)
 (some false))
 (some false))
 (some false))
end Go.Proofs.YtlacmdnhabblcaaGreat
