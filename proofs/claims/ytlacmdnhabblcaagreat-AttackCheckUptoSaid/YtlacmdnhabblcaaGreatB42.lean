import Derived.Test.YtlacmdnhabblcaaGreatB11
import Derived.Test.YtlacmdnhabblcaaGreatB41
set_option linter.all false
namespace Go.Proofs.YtlacmdnhabblcaaGreat
open Go Go.Pv
set_option maxRecDepth 100000
set_option maxHeartbeats 2000000
def CE (cards:List jI)(s:iT)(s4:Int)(k5:Int->Option Bool):Option Bool :=
 br (decide (s4<(iV s.ji))) (bnd (kJ s.ji s4) λx7 =>
 bnd (kJ s.ji s4) λx8 =>
 bnd (kJ s.ji s4) λx9 =>
 lt (jq (jq (iV x7.library) (iV x8.hand)) (iV x9.sO)) λv10 =>
 br (decide (60<v10)) (some false)
 (k5 (jq s4 1)))
 (bnd (Ap cards) λy11 =>
 br (decide (y11.2=0)) (bnd (uN cards s) λy12 =>
 some y12)
 (some false))
def AO (cards:List jI)(s:iT):Option Bool :=
 jn (λs1:Bool =>
 br s1 (some false)
 (jw (CE cards s) 0)) λk2 =>
 br (decide (12<(iV cards))) (k2 true)
 (br (decide (4<(iV s.ji))) (k2 true)
 (br (decide (60<(iV s.objects))) (k2 true)
 (br (decide (60<(iV s.lq))) (k2 true)
 (br (decide (60<(iV s.uU))) (k2 true)
 (br (decide (8<(iV s.stack))) (k2 true)
 (br (decide (8<(iV s.waiting))) (k2 true)
 (br (decide (8<(iV s.oq))) (k2 true)
 (k2 (decide (20<(iV s.extra)))))))))))
def yB:Option Bool:=some true
def zQ (s:iT)(s1:Int×(List Int))(k2:(Int×(List Int))->Option (List Int)):Option (List Int) :=
 br (decide (s1.1<(iV s.ji))) (jn (λs4:(List Int) =>
 k2 ((jq s1.1 1),s4)) λk5 =>
 bnd (kJ s.ji s1.1) λx7 =>
 br (x7.lost==false) (jW (s1.2.length+([s1.1]).length) 8 (
 k5 (s1.2++[s1.1])))
 (k5 s1.2))
 (some s1.2)
def CG (s:iT):Option (List Int) :=
 jw (zQ s) (0,[])
def cmp_isNaN_int (x:Int):Option Bool :=
 some (!decide (x=x))
def cmp_Compare_int (x:Int)(y:Int):Option Int :=
 bnd (cmp_isNaN_int x) λy1 =>
 bnd (cmp_isNaN_int y) λy2 =>
 br y1 (br y2 (some 0)
 (some (-1)))
 (br y2 (some 1)
 (br (decide (x<y)) (some (-1))
 (br (decide (y<x)) (some 1)
 (some 0))))
def zS (s1:Int)(y7:List Int)(s8:Int×(List Int)×(List Int))(k9:(Int×(List Int)×(List Int))->Option (List Int)):Option (List Int) :=
 br (decide (s8.1<(iV y7))) (jn (λs11:(List Int)×(List Int) =>
 k9 ((jq s8.1 1),s11.1,s11.2)) λk12 =>
 bnd (kJ y7 s8.1) λx14 =>
 bnd (cmp_Compare_int x14 s1) λy15 =>
 br (decide (y15=(-1))) (jW (s8.2.1.length+([x14]).length) 8 (
 k12 ((s8.2.1++[x14]),s8.2.2)))
 (br (decide (y15=1)) (jW (s8.2.2.length+([x14]).length) 8 (
 k12 (s8.2.1,(s8.2.2++[x14]))))
 (k12 (s8.2.1,s8.2.2))))
 (jW (s8.2.2.length+s8.2.1.length) 8 (
 some (s8.2.2++s8.2.1)))
def yU (s:iT)(p:Int):Option (List Int) :=
 jn (λs1:Int =>
 bnd (CG s) λy7 =>
 jw (zS s1 y7) (0,[],[])) λk2 =>
 jn (λs4:Bool =>
 br s4 (k2 (-1))
 (k2 p)) λk5 =>
 br (decide (p<0)) (k5 true)
 (k5 (decide ((iV s.ji)<=p)))
def IC (s:iT)(o:iW)(t:iM):Option Bool :=
 jn (λs1:Bool =>
 br s1 (some false)
 (jn (λs4:Bool =>
 br s4 (some false)
 (bnd (kZ t.keys 1024) λy8 =>
 br (y8==false) (bnd (kZ t.keys 16384) λy9 =>
 some (y9==false))
 (some false))) λk5 =>
 br o.Df (bnd (kZ t.keys 4) λy7 =>
 k5 (y7==false))
 (k5 false))) λk2 =>
 br (!decide (o.jQ=0)) (k2 true)
 (br (decide ((kz .and .i64 t.line.types 1)=0)) (k2 true)
 (br (!decide (t.control=s.nD)) (k2 true)
 (k2 o.nC)))
def CJ (y1:List Int)(k6:(List iL)->Option (List iL))(x8:iW)(s14:Int×(List iL))(k15:(Int×(List iL))->Option (List iL)):Option (List iL) :=
 br (decide (s14.1<(iV y1))) (bnd (kJ y1 s14.1) λx17 =>
 lt (iL.mk 7 x8.id x17) λx18 =>
 jW (s14.2.length+([x18]).length) 24 (
 k15 ((jq s14.1 1),(s14.2++[x18]))))
 (k6 s14.2)
def CO (s:iT)(all:List iM)(y1:List Int)(s2:Int×(List iL))(k3:(Int×(List iL))->Option (List iL)):Option (List iL) :=
 br (decide (s2.1<(iV s.objects))) (jn (λs5:(List iL) =>
 k3 ((jq s2.1 1),s5)) λk6 =>
 bnd (kJ s.objects s2.1) λx8 =>
 jn (λs9:Bool =>
 br s9 (k6 s2.2)
 (jw (CJ y1 k6 x8) (0,s2.2))) λk10 =>
 br (decide ((iV all)<=s2.1)) (k10 true)
 (bnd (kJ all s2.1) λx12 =>
 bnd (IC s x8 x12) λy13 =>
 k10 (y13==false)))
 (some s2.2)
def uD (s:iT)(all:List iM):Option (List iL) :=
 bnd (yU s s.nD) λy1 =>
 jw (CO s all y1) (0,[])
def QW (s:iT)(s1:Int×(List Int))(k2:(Int×(List Int))->Option (List Int)):Option (List Int) :=
 br (decide (s1.1<(iV s.ji))) (jn (λs4:(List Int) =>
 k2 ((jq s1.1 1),s4)) λk5 =>
 bnd (kJ s.ji s1.1) λx7 =>
 br (x7.lost==false) (jW (s1.2.length+([s1.1]).length) 8 (
 k5 (s1.2++[s1.1])))
 (k5 s1.2))
 (some s1.2)
def NP (s:iT):Option (List Int) :=
 jw (QW s) (0,[])
def EH (s:iT)(p:Int)(y1:List Int)(s14:Int×(List Int))(k15:(Int×(List Int))->Option (List Int)):Option (List Int) :=
 br (decide (s14.1<(iV y1))) (jn (λs17:(List Int) =>
 k15 ((jq s14.1 1),s17)) λk18 =>
 jn (λs20:Bool =>
 br s20 (bnd (kJ y1 s14.1) λx25 =>
 jW (s14.2.length+([x25]).length) 8 (
 k18 (s14.2++[x25])))
 (k18 s14.2)) λk21 =>
 bnd (pF s p) λy23 =>
 br (y23==false) (k21 true)
 (bnd (kJ y1 s14.1) λx24 =>
 k21 (decide (x24<p))))
 (some s14.2)
def EI (s:iT)(p:Int)(y1:List Int)(s2:Int×(List Int))(k3:(Int×(List Int))->Option (List Int)):Option (List Int) :=
 br (decide (s2.1<(iV y1))) (jn (λs5:(List Int) =>
 k3 ((jq s2.1 1),s5)) λk6 =>
 jn (λs8:Bool =>
 br s8 (bnd (kJ y1 s2.1) λx13 =>
 jW (s2.2.length+([x13]).length) 8 (
 k6 (s2.2++[x13])))
 (k6 s2.2)) λk9 =>
 bnd (pF s p) λy11 =>
 br y11 (bnd (kJ y1 s2.1) λx12 =>
 k9 (decide (p<x12)))
 (k9 false))
 (jw (EH s p y1) (0,s2.2))
def Ea (s:iT)(p:Int):Option (List Int) :=
 bnd (NP s) λy1 =>
 jw (EI s p y1) (0,[])
def zT (all:List iM)(i:Int)(key:Int):Option Bool :=
 br (decide (i<(iV all))) (bnd (kJ all i) λx1 =>
 bnd (yR x1.keys key) λy2 =>
 some y2)
 (some false)
def Uk (s:iT)(all:List iM)(i:Int):Option Bool :=
 bnd (kJ s.objects i) λx1 =>
 jn (λs2:Bool =>
 br s2 (some false)
 (br (x1.Df==false) (bnd (zT all i 1024) λy7 =>
 br (y7==false) (bnd (zT all i 16384) λy8 =>
 some (y8==false))
 (some false))
 (bnd (zT all i 4) λy9 =>
 br y9 (bnd (zT all i 1024) λy10 =>
 br (y10==false) (bnd (zT all i 16384) λy11 =>
 some (y11==false))
 (some false))
 (some false)))) λk3 =>
 br (decide ((iV all)<=i)) (k3 true)
 (bnd (kJ all i) λx5 =>
 br (decide ((kz .and .i64 x5.line.types 1)=0)) (k3 true)
 (br (!decide (x1.jQ=0)) (k3 true)
 (bnd (kJ all i) λx6 =>
 br (!decide (x6.control=s.nD)) (k3 true)
 (k3 x1.nC))))
def Jz (s:iT)(all:List iM)(y1:List Int)(s2:Int×(List iL))(k3:(Int×(List iL))->Option (List iL))(s5:Int×(List iL))(k6:(Int×(List iL))->Option (List iL)):Option (List iL) :=
 jn (λs8:Bool =>
 br s8 (bnd (kJ s.objects s2.1) λx12 =>
 bnd (kJ y1 s5.1) λx13 =>
 lt (iL.mk 7 x12.id x13) λx14 =>
 jW (s5.2.length+([x14]).length) 24 (
 k6 ((jq s5.1 1),(s5.2++[x14]))))
 (k3 ((jq s2.1 1),s5.2))) λk9 =>
 br (decide (s5.1<(iV y1))) (bnd (Uk s all s2.1) λy11 =>
 k9 y11)
 (k9 false)
def JA (s:iT)(all:List iM)(y1:List Int)(s2:Int×(List iL))(k3:(Int×(List iL))->Option (List iL)):Option (List iL) :=
 br (decide (s2.1<(iV s.objects))) (jw (Jz s all y1 s2 k3) (0,s2.2))
 (some s2.2)
def CP (s:iT)(all:List iM):Option (List iL) :=
 bnd (Ea s s.nD) λy1 =>
 jw (JA s all y1) (0,[])
end Go.Proofs.YtlacmdnhabblcaaGreat
