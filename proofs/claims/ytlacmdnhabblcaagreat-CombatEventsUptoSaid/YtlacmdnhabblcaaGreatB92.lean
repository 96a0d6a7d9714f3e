import Derived.Test.YtlacmdnhabblcaaGreatB47
import Derived.Test.YtlacmdnhabblcaaGreatB91
set_option linter.all false
namespace Go.Proofs.YtlacmdnhabblcaaGreat
open Go Go.Pv
set_option maxRecDepth 100000
set_option maxHeartbeats 2000000
def yD (l:List Int):Option (List Int) :=
 jW l.length 8 (
 some l)
def NV (answers:List (List Int))(s1:Int×(List (List Int)))(k2:(Int×(List (List Int)))->Option jV):Option jV :=
 br (decide (s1.1<(iV answers))) (bnd (kJ answers s1.1) λx4 =>
 bnd (yD x4) λy5 =>
 jW (s1.2.length+([y5]).length) 24 (
 k2 ((jq s1.1 1),(s1.2++[y5]))))
 (some (jV.mk s1.2 wO false false 0))
def NW (answers:List (List Int)):Option jV :=
 jw (NV answers) (0,[])
def Ha (t:iM)(first:Bool):Option Bool :=
 jn (λs1:Bool =>
 br s1 (some false)
 (br first (br (!decide ((kz .and .i64 t.keys 32)=0)) (some true)
 (some (!decide ((kz .and .i64 t.keys 64)=0))))
 (br (!decide ((kz .and .i64 t.keys 64)=0)) (some true)
 (some ((!decide ((kz .and .i64 t.keys 32)=0))==false))))) λk2 =>
 br (decide ((kz .and .i64 t.line.types 1)=0)) (k2 true)
 (k2 (decide (t.power<=0)))
def pG (all:List iM)(i:Int):Option iM :=
 br (decide (i<0)) (some rU)
 (br (decide ((iV all)<=i)) (some rU)
 (bnd (kJ all i) λx1 =>
 some x1))
def NY (source:Int)(object:Int)(l9:Int)(n:Int):Option iZ :=
 some (iZ.mk 1 source object l9 n 0 0 0 0 0 true false UR)
def zJ (c:jY):Option jY :=
 jW c.options.length 24 (
 some { c with options:=c.options })
def Ed (kind:Int):Option Bool :=
 br (decide (kind=1)) (some true)
 (br (decide (kind=2)) (some true)
 (br (decide (kind=9)) (some true)
 (br (decide (kind=10)) (some true)
 (some (decide (kind=11))))))
def IP (c:jY):Option Bool :=
 jn (λs1:Bool =>
 br s1 (some (decide ((iV c.options)<=1)))
 (br (decide (c.kind=6)) (some (decide ((iV c.options)=0)))
 (br (decide (c.kind=7)) (some (decide ((iV c.options)=0)))
 (br (decide (c.kind=3)) (br (decide (c.least=c.most)) (br (decide (c.least=0)) (some true)
 (some (decide (c.least=(iV c.options)))))
 (some false))
 (br (decide (c.kind=5)) (some (decide (c.least=c.most)))
 (some true)))))) λk2 =>
 bnd (Ed c.kind) λy4 =>
 br y4 (k2 true)
 (br (decide (c.kind=4)) (k2 true)
 (k2 (decide (c.kind=8))))
def Us (n:Int)(s1:Int×(List Int))(k2:(Int×(List Int))->Option (List Int)):Option (List Int) :=
 br (decide (s1.1<n)) (jW (s1.2.length+([s1.1]).length) 8 (
 k2 ((jq s1.1 1),(s1.2++[s1.1]))))
 (some s1.2)
def QK (n:Int):Option (List Int) :=
 jw (Us n) (0,[])
def yE (c:jY):Option (List Int) :=
 bnd (Ed c.kind) λy1 =>
 br y1 (lt 0 λx2 =>
 some ([x2]))
 (br (decide (c.kind=3)) (bnd (QK (if (iV c.options)<(if c.least<0 then 0 else c.least) then (iV c.options) else (if c.least<0 then 0 else c.least))) λy3 =>
 some y3)
 (br (decide (c.kind=4)) (bnd (QK (iV c.options)) λy4 =>
 some y4)
 (br (decide (c.kind=5)) (some ([c.least]))
 (br (decide (c.kind=8)) (bnd (XK (iV c.options) (iV c.options) 8) λj5 =>
 lt 0 λx6 =>
 br (decide (0<(iV c.options))) (bnd (Hz j5 0) λj7 =>
 bnd ((List.replicate j5 x6)[j7]?) λx8 =>
 some ((List.replicate j5 x6).set j7 c.n))
 (some (List.replicate j5 x6)))
 (some ([]))))))
def Qd (a:List Int)(s1:Int)(k2:Int->Option Bool)(s9:Int)(k10:Int->Option Bool):Option Bool :=
 br (decide (s9<s1)) (bnd (kJ a s9) λx12 =>
 bnd (kJ a s1) λx13 =>
 br (decide (x12=x13)) (some false)
 (k10 (jq s9 1)))
 (k2 (jq s1 1))
def Qe (a:List Int)(n:Int)(s1:Int)(k2:Int->Option Bool):Option Bool :=
 br (decide (s1<(iV a))) (jn (λs4:Bool =>
 br s4 (some false)
 (jw (Qd a s1 k2) 0)) λk5 =>
 bnd (kJ a s1) λx7 =>
 br (decide (x7<0)) (k5 true)
 (bnd (kJ a s1) λx8 =>
 k5 (decide (n<=x8))))
 (some true)
def yF (a:List Int)(n:Int):Option Bool :=
 jw (Qe a n) 0
def Ut (c:jY)(a:List Int)(s1:Int)(k2:Int->Option Bool)(s4:Int)(k5:Int->Option Bool):Option Bool :=
 br (decide (s4<s1)) (bnd (kJ a s4) λx7 =>
 bnd (kJ c.options x7) λx8 =>
 bnd (kJ a s1) λx9 =>
 bnd (kJ c.options x9) λx10 =>
 br (decide (x8.a=x10.a)) (some false)
 (k5 (jq s4 1)))
 (k2 (jq s1 1))
def Uu (c:jY)(a:List Int)(s1:Int)(k2:Int->Option Bool):Option Bool :=
 br (decide (s1<(iV a))) (jw (Ut c a s1 k2) 0)
 (some true)
def QL (c:jY)(a:List Int):Option Bool :=
 jw (Uu c a) 0
def yZ (c:jY)(a:List Int)(s14:Int×Int)(k15:(Int×Int)->Option Bool):Option Bool :=
 br (decide (s14.2<(iV a))) (jn (λs17:Bool =>
 br s17 (some false)
 (bnd (kJ a s14.2) λx22 =>
 k15 ((jq s14.1 x22),(jq s14.2 1)))) λk18 =>
 bnd (kJ a s14.2) λx20 =>
 br (decide (x20<0)) (k18 true)
 (bnd (kJ a s14.2) λx21 =>
 k18 (decide (1000000<x21))))
 (br (decide ((iV a)=(iV c.options))) (some (decide (s14.1=c.n)))
 (some false))
def Ee (c:jY)(a:List Int):Option Bool :=
 br (decide (256<(iV a))) (some false)
 (bnd (Ed c.kind) λy1 =>
 br y1 (jn (λs2:Bool =>
 some s2) λk3 =>
 br (decide ((iV a)=1)) (bnd (yF a (iV c.options)) λy5 =>
 k3 y5)
 (k3 false))
 (br (decide (c.kind=3)) (bnd (yF a (iV c.options)) λy6 =>
 br y6 (br (decide (c.least<=(iV a))) (some (decide ((iV a)<=c.most)))
 (some false))
 (some false))
 (br (decide (c.kind=4)) (bnd (yF a (iV c.options)) λy7 =>
 br y7 (some (decide ((iV a)=(iV c.options))))
 (some false))
 (br (decide (c.kind=5)) (br (decide ((iV a)=1)) (bnd (kJ a 0) λx8 =>
 br (decide (c.least<=x8)) (bnd (kJ a 0) λx9 =>
 some (decide (x9<=c.most)))
 (some false))
 (some false))
 (br (decide (c.kind=6)) (bnd (yF a (iV c.options)) λy10 =>
 br y10 (bnd (QL c a) λy11 =>
 some y11)
 (some false))
 (br (decide (c.kind=7)) (bnd (yF a (iV c.options)) λy12 =>
 br y12 (bnd (QL c a) λy13 =>
 some y13)
 (some false))
 (br (decide (c.kind=8)) (jw (yZ c a) (0,0))
 (some false))))))))
def vX (k:jV)(c:jY):Option ((List Int)×jV) :=
 jn (λs1:Bool =>
 br s1 (bnd (yE c) λy5 =>
 some (y5,k))
 (br (decide ((iV k.answers)<=k.n)) (bnd (zJ c) λy6 =>
 bnd (yE c) λy7 =>
 some (y7,{ k with choice:=y6,waits:=true }))
 (bnd (kJ k.answers k.n) λx8 =>
 bnd (Ee c x8) λy9 =>
 br (y9==false) (bnd (yE c) λy10 =>
 some (y10,{ k with wrong:=true,n:=(jq k.n 1) }))
 (bnd (yD x8) λy11 =>
 some (y11,{ k with n:=(jq k.n 1) }))))) λk2 =>
 bnd (IP c) λy4 =>
 br y4 (k2 true)
 (br k.waits (k2 true)
 (k2 k.wrong))
def wG (need:List Int)(l:List Int)(s4:Int×Bool×Int)(k5:(Int×Bool×Int)->Option Bool):Option Bool :=
 br (decide (s4.2.2<(iV l))) (jn (λs7:Int×Bool =>
 k5 (s7.1,s7.2,(jq s4.2.2 1))) λk8 =>
 jn (λs10:Bool =>
 br s10 (some false)
 (bnd (kJ l s4.2.2) λx16 =>
 jn (λs17:Bool =>
 br s17 (k8 ((jS s4.1 x16),false))
 (k8 ((jS s4.1 x16),s4.2.1))) λk18 =>
 br (decide (s4.2.2<(iV need))) (bnd (kJ l s4.2.2) λx20 =>
 bnd (kJ need s4.2.2) λx21 =>
 k18 (decide (x20<x21)))
 (k18 false))) λk11 =>
 bnd (kJ l s4.2.2) λx13 =>
 br (decide (x13<0)) (k11 true)
 (bnd (kJ l s4.2.2) λx14 =>
 br (decide (s4.1<x14)) (k11 true)
 (bnd (kJ l s4.2.2) λx15 =>
 br (decide (0<x15)) (k11 (s4.2.1==false))
 (k11 false))))
 (some (decide (s4.1=0)))
def He (need:List Int)(l:List Int)(sum:Int)(trample:Bool):Option Bool :=
 jn (λs1:Int =>
 br (!decide ((iV l)=s1)) (some false)
 (jw (wG need l) (sum,true,0))) λk2 =>
 br trample (k2 (jq (iV need) 1))
 (k2 (iV need))
def Ef (o:iW)(t:iM)(deadly:Bool):Option Int :=
 br deadly (some 1)
 (bnd (Jp t.jE o.zn) λy1 =>
 some (if 1<y1 then y1 else 1))
def FU (s:iT)(a:Int)(s1:Int×(List Int))(k2:(Int×(List Int))->Option (List Int)):Option (List Int) :=
 br (decide (s1.1<(iV s.objects))) (jn (λs4:(List Int) =>
 k2 ((jq s1.1 1),s4)) λk5 =>
 jn (λs7:Bool =>
 br s7 (bnd (kJ s.objects s1.1) λx12 =>
 jW (s1.2.length+([x12.id]).length) 8 (
 k5 (s1.2++[x12.id])))
 (k5 s1.2)) λk8 =>
 bnd (kJ s.objects s1.1) λx10 =>
 br (decide (x10.jQ=0)) (bnd (kJ s.objects s1.1) λx11 =>
 k8 (decide (x11.blocks=a)))
 (k8 false))
 (some s1.2)
def zf (s:iT)(a:Int):Option (List Int) :=
 jw (FU s a) (0,[])
def Md (s:iT)(id:Int)(s1:Int)(k2:Int->Option Int):Option Int :=
 br (decide (s1<(iV s.objects))) (bnd (kJ s.objects s1) λx4 =>
 br (decide (x4.id=id)) (some s1)
 (k2 (jq s1 1)))
 (some (-1))
def CY (s:iT)(id:Int):Option Int :=
 jw (Md s id) 0
def wU (x1:iW)(s16:(List iL))(y20:(List Int)×jV)(s22:Int×(List iZ))(k23:(Int×(List iZ))->Option ((List iZ)×Bool×jV)):Option ((List iZ)×Bool×jV) :=
 br (decide (s22.1<(iV s16))) (jn (λs25:(List iZ) =>
 k23 ((jq s22.1 1),s25)) λk26 =>
 jn (λs28:Bool =>
 br s28 (bnd (Hz s16.length s22.1) λj34 =>
 bnd (s16[j34]?) λx35 =>
 bnd (kJ y20.1 s22.1) λx36 =>
 bnd (NY x1.id x35.a 0 x36) λy37 =>
 jW (s22.2.length+([y37]).length) 112 (
 k26 (s22.2++[y37])))
 (bnd (kJ y20.1 s22.1) λx38 =>
 br (decide (0<x38)) (bnd (kJ y20.1 s22.1) λx39 =>
 bnd (NY x1.id 0 x1.lG x39) λy40 =>
 jW (s22.2.length+([y40]).length) 112 (
 k26 (s22.2++[y40])))
 (k26 s22.2))) λk29 =>
 bnd (kJ y20.1 s22.1) λx31 =>
 br (decide (0<x31)) (bnd (Hz s16.length s22.1) λj32 =>
 bnd (s16[j32]?) λx33 =>
 k29 (decide (x33.kind=5)))
 (k29 false))
 (some (s22.2,true,y20.2))
def zX (k:jV)(s:iT)(all:List iM)(x1:iW)(y2:iM)(y3:Bool)(y4:Bool)(y5:List Int)(s6:Int×(List iL)×(List Int))(k7:(Int×(List iL)×(List Int))->Option ((List iZ)×Bool×jV)):Option ((List iZ)×Bool×jV) :=
 br (decide (s6.1<(iV y5))) (bnd (kJ y5 s6.1) λx9 =>
 bnd (CY s x9) λy10 =>
 bnd (kJ s.objects y10) λx11 =>
 bnd (pG all y10) λy12 =>
 bnd (Ef x11 y12 y3) λy13 =>
 jW (s6.2.2.length+([y13]).length) 8 (
 bnd (kJ y5 s6.1) λx14 =>
 lt (iL.mk 5 x14 0) λx15 =>
 jW (s6.2.1.length+([x15]).length) 24 (
 k7 ((jq s6.1 1),(s6.2.1++[x15]),(s6.2.2++[y13])))))
 (jn (λs16:(List iL) =>
 br (decide ((iV s16)=0)) (some ([],true,k))
 (bnd (vX k (jY.mk 8 y2.control x1.id 0 0 y2.power s16)) λy20 =>
 bnd (He s6.2.2 y20.1 y2.power y4) λy21 =>
 br (y21==false) (some ([],false,y20.2))
 (jw (wU x1 s16 y20) (0,[])))) λk17 =>
 br y4 (lt (iL.mk 6 x1.lG 0) λx19 =>
 jW (s6.2.1.length+([x19]).length) 24 (
 k17 (s6.2.1++[x19])))
 (k17 s6.2.1))
def CZ (k:jV)(s:iT)(all:List iM)(i:Int):Option ((List iZ)×Bool×jV) :=
 bnd (kJ s.objects i) λx1 =>
 bnd (pG all i) λy2 =>
 bnd (yR y2.keys 128) λy3 =>
 bnd (yR y2.keys 16) λy4 =>
 bnd (zf s x1.id) λy5 =>
 jw (zX k s all x1 y2 y3 y4 y5) (0,[],[])
def EO (s:iT)(all:List iM)(first:Bool)(s1:jV×Int×(List iZ))(s16:Int×(List iZ))(k17:(Int×(List iZ))->Option ((List iZ)×Bool×jV)):Option ((List iZ)×Bool×jV) :=
 br (decide (s16.1<(iV s.objects))) (jn (λs19:(List iZ) =>
 k17 ((jq s16.1 1),s19)) λk20 =>
 bnd (kJ s.objects s16.1) λx22 =>
 jn (λs23:Bool =>
 br s23 (k20 s16.2)
 (bnd (CY s x22.blocks) λy28 =>
 jn (λs29:Bool =>
 br s29 (bnd (kJ all s16.1) λx33 =>
 bnd (NY x22.id x22.blocks 0 x33.power) λy34 =>
 jW (s16.2.length+([y34]).length) 112 (
 k20 (s16.2++[y34])))
 (k20 s16.2)) λk30 =>
 br (decide (0<=y28)) (bnd (kJ s.objects y28) λx32 =>
 k30 (decide (x32.jQ=0)))
 (k30 false))) λk24 =>
 br (!decide (x22.jQ=0)) (k24 true)
 (br (decide (x22.blocks=0)) (k24 true)
 (bnd (pG all s16.1) λy26 =>
 bnd (Ha y26 first) λy27 =>
 k24 (y27==false))))
 (some (s16.2,true,s1.1))
def Ko (s:iT)(all:List iM)(first:Bool)(s1:jV×Int×(List iZ))(k2:(jV×Int×(List iZ))->Option ((List iZ)×Bool×jV)):Option ((List iZ)×Bool×jV) :=
 br (decide (s1.2.1<(iV s.objects))) (jn (λs4:jV×(List iZ) =>
 k2 (s4.1,(jq s1.2.1 1),s4.2)) λk5 =>
 bnd (kJ s.objects s1.2.1) λx7 =>
 jn (λs8:Bool =>
 br s8 (k5 (s1.1,s1.2.2))
 (br (x7.blocked==false) (bnd (kJ all s1.2.1) λx13 =>
 bnd (NY x7.id 0 x7.lG x13.power) λy14 =>
 jW (s1.2.2.length+([y14]).length) 112 (
 k5 (s1.1,(s1.2.2++[y14]))))
 (bnd (CZ s1.1 s all s1.2.1) λy15 =>
 br (y15.2.1==false) (some ([],false,y15.2.2))
 (jW (s1.2.2.length+y15.1.length) 112 (
 k5 (y15.2.2,(s1.2.2++y15.1))))))) λk9 =>
 br (!decide (x7.jQ=0)) (k9 true)
 (br (decide (x7.lG<0)) (k9 true)
 (bnd (pG all s1.2.1) λy11 =>
 bnd (Ha y11 first) λy12 =>
 k9 (y12==false))))
 (jw (EO s all first s1) (0,s1.2.2))
def IQ (k:jV)(s:iT)(all:List iM)(first:Bool):Option ((List iZ)×Bool×jV) :=
 jw (Ko s all first) (k,0,[])
def qy (k:jy):Option (jY×Bool) :=
 br (k.waits==false) (some (wO,false))
 (bnd (lY k.pending.options) λy1 =>
 some ({ k.pending with options:=y1 },true))
def qA (k:jV):Option (jY×Bool) :=
 br (k.waits==false) (some (wO,false))
 (bnd (zJ k.choice) λy1 =>
 some (y1,true))
def xx (a:jY)(b:jY)(s1:Int)(k2:Int->Option Bool):Option Bool :=
 br (decide (s1<(iV a.options))) (bnd (kJ a.options s1) λx4 =>
 bnd (kJ b.options s1) λx5 =>
 lt ((decide (x4.kind=x5.kind)&&(decide (x4.a=x5.a)&&(decide (x4.b=x5.b)&&true)))==false) λv6 =>
 br v6 (some false)
 (k2 (jq s1 1)))
 (br (decide (a.kind=b.kind)) (br (decide (a.l9=b.l9)) (br (decide (a.source=b.source)) (br (decide (a.least=b.least)) (br (decide (a.most=b.most)) (some (decide (a.n=b.n)))
 (some false))
 (some false))
 (some false))
 (some false))
 (some false))
def yG (a:jY)(b:jY):Option Bool :=
 br (!decide ((iV a.options)=(iV b.options))) (some false)
 (jw (xx a b) 0)
def Kq (k:jy):Option Bool :=
 some k.bad
def Kr (k:jV):Option Bool :=
 some k.wrong
def IU (k:jy):Option Int :=
 some k.used
def IV (k:jV):Option Int :=
 some k.n
def zg (k:jy)(w:jV):Option (Bool×Bool) :=
 bnd (qy k) λy1 =>
 bnd (qA w) λy2 =>
 bnd (yG y1.1 y2.1) λy3 =>
 br y3 (br (y1.2==y2.2) (bnd (Kq k) λy4 =>
 bnd (Kr w) λy5 =>
 br (y4==y5) (bnd (IU k) λy6 =>
 bnd (IV w) λy7 =>
 some ((decide (y6=y7)),(y2.2==false)))
 (some (false,(y2.2==false))))
 (some (false,(y2.2==false))))
 (some (false,(y2.2==false)))
def xy (a:List iZ)(b:List iZ)(s1:Int)(k2:Int->Option Bool):Option Bool :=
 br (decide (s1<(iV a))) (bnd (kJ a s1) λx4 =>
 bnd (kJ b s1) λx5 =>
 lt ((decide (x4.kind=x5.kind)&&(decide (x4.source=x5.source)&&(decide (x4.object=x5.object)&&(decide (x4.l9=x5.l9)&&(decide (x4.amount=x5.amount)&&(decide (x4.ZY=x5.ZY)&&(decide (x4.to=x5.to)&&(decide (x4.cause=x5.cause)&&(decide (x4.counter=x5.counter)&&(decide (x4.card=x5.card)&&(x4.Ib==x5.Ib&&(x4.nC==x5.nC&&(decide (x4.extra.a0=x5.extra.a0)&&(decide (x4.extra.a1=x5.extra.a1)&&(decide (x4.extra.a2=x5.extra.a2)&&true)))))))))))))))==false) λv6 =>
 br v6 (some false)
 (k2 (jq s1 1)))
 (some true)
def yH (a:List iZ)(b:List iZ):Option Bool :=
 br (!decide ((iV a)=(iV b))) (some false)
 (jw (xy a b) 0)
def wH (x:nI):Option Bool :=
 bnd (Ad x) λy1 =>
 br (y1==false) (bnd (ry) λy2 =>
 some y2)
 (bnd (zM x.cards x.s) λy3 =>
 bnd (EJ x.answers) λy4 =>
 bnd (NW x.answers) λy5 =>
 bnd (sN { y4 with answers:=y4.answers } x.s y3 x.first) λy6 =>
 bnd (IQ { y5 with answers:=y5.answers } x.s y3 x.first) λy7 =>
 bnd (zg y6.2.2 y7.2.2) λy8 =>
 br y8.1 (br (y6.2.1==y7.2.1) (bnd (yH y6.1 y7.1) λy9 =>
 br y9 (bnd (ry) λy10 =>
 some y10)
 (some false))
 (some false))
 (some false))
end Go.Proofs.YtlacmdnhabblcaaGreat
