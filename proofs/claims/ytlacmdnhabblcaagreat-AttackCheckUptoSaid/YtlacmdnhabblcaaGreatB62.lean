import Derived.Test.YtlacmdnhabblcaaGreatB42
set_option linter.all false
namespace Go.Proofs.YtlacmdnhabblcaaGreat
open Go Go.Pv
set_option maxRecDepth 100000
set_option maxHeartbeats 2000000
def CS (o:iW)(c1:Int):Option Bool :=
 some (decide (o.id=c1))
def IG (s:iT)(all:List iM)(id:Int)(key:Int):Option Bool :=
 bnd (jF s.objects (λa0=>CS a0 id)) λy1 =>
 br (decide (0<=y1)) (br (decide (y1<(iV all))) (bnd (kJ all y1) λx2 =>
 bnd (kZ x2.keys key) λy3 =>
 some y3)
 (some false))
 (some false)
def CU (s:iT)(all:List iM)(y1:List iL)(s2:Int×(List Int))(k3:(Int×(List Int))->Option (List Int)):Option (List Int) :=
 br (decide (s2.1<(iV y1))) (jn (λs5:(List Int) =>
 k3 ((jq s2.1 1),s5)) λk6 =>
 bnd (kJ y1 s2.1) λx8 =>
 jn (λs9:Bool =>
 br s9 (jW (s2.2.length+([x8.a]).length) 8 (
 k6 (s2.2++[x8.a])))
 (k6 s2.2)) λk10 =>
 bnd (IG s all x8.a 65536) λy12 =>
 br y12 (bnd (slices_Contains_int s2.2 x8.a) λy13 =>
 k10 (y13==false))
 (k10 false))
 (some s2.2)
def Fq (s:iT)(all:List iM):Option (List Int) :=
 bnd (uD s all) λy1 =>
 jw (CU s all y1) (0,[])
def yC (x:iL)(c1:iL):Option Bool :=
 some (decide (x.a=c1.a))
def vW (x:iL)(c1:Int):Option Bool :=
 some (decide (x.a=c1))
def zU (l:List iL)(y12:List Int)(s13:Int)(k14:Int->Option Int):Option Int :=
 br (decide (s13<(iV y12))) (bnd (kJ y12 s13) λx16 =>
 bnd (jZ l (λa0=>vW a0 x16)) λy17 =>
 br (y17==false) (some 18)
 (k14 (jq s13 1)))
 (some 0)
def zV (s:iT)(all:List iM)(l:List iL)(y1:List iL)(s2:Int)(k3:Int->Option Int):Option Int :=
 br (decide (s2<(iV l))) (bnd (kJ l s2) λx5 =>
 bnd (UO l.length 0 s2) λx6 =>
 bnd (jZ (zo l x6.1 (x6.2-x6.1)) (λa0=>yC a0 x5)) λy7 =>
 jn (λs8:Bool =>
 br s8 (some 18)
 (k3 (jq s2 1))) λk9 =>
 br y7 (k9 true)
 (bnd (pz y1 x5) λy11 =>
 k9 (y11==false)))
 (bnd (Fq s all) λy12 =>
 jw (zU l y12) 0)
def CV (s:iT)(all:List iM)(l:List iL):Option Int :=
 bnd (uD s all) λy1 =>
 jw (zV s all l y1) 0
def zW (l:List iL)(o:iL)(s1:Int)(k2:Int->Option Bool):Option Bool :=
 br (decide (s1<(iV l))) (bnd (kJ l s1) λx4 =>
 lt (decide (x4.kind=o.kind)&&(decide (x4.a=o.a)&&(decide (x4.b=o.b)&&true))) λv5 =>
 br v5 (some true)
 (k2 (jq s1 1)))
 (some false)
def CW (l:List iL)(o:iL):Option Bool :=
 jw (zW l o) 0
def EK (s:iT)(all:List iM)(y1:List iL)(s2:Int×(List Int))(k6:(List Int)->Option (List Int))(s8:Bool×Int)(k9:(Bool×Int)->Option (List Int)):Option (List Int) :=
 br (decide (s8.2<(iV y1))) (br s8.1 (k9 (true,(jq s8.2 1)))
 (bnd (kJ y1 s8.2) λx11 =>
 bnd (kJ s.objects s2.1) λx12 =>
 k9 ((decide (x11.a=x12.id)),(jq s8.2 1))))
 (jn (λs13:Bool =>
 br s13 (bnd (kJ s.objects s2.1) λx17 =>
 jW (s2.2.length+([x17.id]).length) 8 (
 k6 (s2.2++[x17.id])))
 (k6 s2.2)) λk14 =>
 br s8.1 (bnd (zT all s2.1 65536) λy16 =>
 k14 y16)
 (k14 false))
def EL (s:iT)(all:List iM)(y1:List iL)(s2:Int×(List Int))(k3:(Int×(List Int))->Option (List Int)):Option (List Int) :=
 br (decide (s2.1<(iV s.objects))) (jn (λs5:(List Int) =>
 k3 ((jq s2.1 1),s5)) λk6 =>
 jw (EK s all y1 s2 k6) (false,0))
 (some s2.2)
def II (s:iT)(all:List iM):Option (List Int) :=
 bnd (CP s all) λy1 =>
 jw (EL s all y1) (0,[])
def Gx (l:List iL)(s2:Int)(k3:Int->Option Int)(s7:Int)(k8:Int->Option Int):Option Int :=
 br (decide (s7<s2)) (bnd (kJ l s7) λx10 =>
 bnd (kJ l s2) λx11 =>
 br (decide (x10.a=x11.a)) (some 18)
 (k8 (jq s7 1)))
 (k3 (jq s2 1))
def Gy (l:List iL)(y12:List Int)(s13:Int)(k14:Int->Option Int)(s16:Bool×Int)(k17:(Bool×Int)->Option Int):Option Int :=
 br (decide (s16.2<(iV l))) (br s16.1 (k17 (true,(jq s16.2 1)))
 (bnd (kJ l s16.2) λx19 =>
 bnd (kJ y12 s13) λx20 =>
 k17 ((decide (x19.a=x20)),(jq s16.2 1))))
 (br (s16.1==false) (some 18)
 (k14 (jq s13 1)))
def Gz (l:List iL)(y12:List Int)(s13:Int)(k14:Int->Option Int):Option Int :=
 br (decide (s13<(iV y12))) (jw (Gy l y12 s13 k14) (false,0))
 (some 0)
def GG (s:iT)(all:List iM)(l:List iL)(y1:List iL)(s2:Int)(k3:Int->Option Int):Option Int :=
 br (decide (s2<(iV l))) (bnd (kJ l s2) λx5 =>
 bnd (CW y1 x5) λy6 =>
 br (y6==false) (some 18)
 (jw (Gx l s2 k3) 0))
 (bnd (II s all) λy12 =>
 jw (Gz l y12) 0)
def L9 (s:iT)(all:List iM)(l:List iL):Option Int :=
 bnd (CP s all) λy1 =>
 jw (GG s all l y1) 0
def xn (cards:List jI)(s:iT)(l:List iL):Option Bool :=
 jn (λs1:Bool =>
 br s1 (bnd (yB) λy5 =>
 some y5)
 (bnd (zM cards s) λy6 =>
 bnd (CV s y6 l) λy7 =>
 bnd (L9 s y6 l) λy8 =>
 br (decide (y7=y8)) (bnd (yB) λy9 =>
 some y9)
 (some false))) λk2 =>
 bnd (AO cards s) λy4 =>
 br (y4==false) (k2 true)
 (k2 (decide (30<(iV l))))
end Go.Proofs.YtlacmdnhabblcaaGreat
