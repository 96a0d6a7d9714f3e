import Derived.Test.YtlacmdnhabblcaaGreatB11
import Derived.Test.YtlacmdnhabblcaaGreatB34
set_option linter.all false
namespace Go.Proofs.YtlacmdnhabblcaaGreat
open Go Go.Pv
set_option maxRecDepth 100000
set_option maxHeartbeats 2000000
def ry:Option Bool:=some true
def NK (pe:jX)(s4:Int)(k5:Int->Option Bool):Option Bool :=
 br (decide (s4<(iV pe.mP))) (jn (λs7:Bool =>
 br s7 (some false)
 (k5 (jq s4 1))) λk8 =>
 bnd (kJ pe.mP s4) λx10 =>
 br (decide (100<(x10.sub.size:Int))) (k8 true)
 (bnd (kJ pe.mP s4) λx11 =>
 k8 (decide (100<(x11.filter.sub.size:Int)))))
 (some true)
def LU (pe:jX):Option Bool :=
 jn (λs1:Bool =>
 br s1 (some false)
 (jw (NK pe) 0)) λk2 =>
 br (decide (100<(pe.card.size:Int))) (k2 true)
 (br (decide (100<(pe.ref.filter.sub.size:Int))) (k2 true)
 (br (decide (100<(pe.amount.filter.sub.size:Int))) (k2 true)
 (br (decide (100<(pe.filter.sub.size:Int))) (k2 true)
 (k2 (decide (20<(iV pe.mP)))))))
def D7 (l:List jX)(s1:Int)(k2:Int->Option Bool):Option Bool :=
 br (decide (s1<(iV l))) (bnd (kJ l s1) λx4 =>
 bnd (LU x4) λy5 =>
 br (y5==false) (some false)
 (k2 (jq s1 1)))
 (some (decide ((iV l)<=20)))
def zG (l:List jX):Option Bool :=
 jw (D7 l) 0
def NL (a:kF)(s13:Int)(k14:Int->Option Bool):Option Bool :=
 br (decide (s13<(iV a.specs))) (bnd (kJ a.specs s13) λx16 =>
 br (decide (100<(x16.filter.sub.size:Int))) (some false)
 (k14 (jq s13 1)))
 (some true)
def NM (a:kF)(s5:Int)(k6:Int->Option Bool):Option Bool :=
 br (decide (s5<(iV a.mP))) (jn (λs8:Bool =>
 br s8 (some false)
 (k6 (jq s5 1))) λk9 =>
 bnd (kJ a.mP s5) λx11 =>
 br (decide (100<(x11.sub.size:Int))) (k9 true)
 (bnd (kJ a.mP s5) λx12 =>
 k9 (decide (100<(x12.filter.sub.size:Int)))))
 (jw (NL a) 0)
def D8 (a:kF):Option Bool :=
 jn (λs1:Bool =>
 br s1 (some false)
 (jw (NM a) 0)) λk2 =>
 br (decide (100<(a.filter.sub.size:Int))) (k2 true)
 (br (decide (20<(iV a.mP))) (k2 true)
 (br (decide (100<(a.jg.filter.sub.size:Int))) (k2 true)
 (br (decide (20<(iV a.specs))) (k2 true)
 (br (decide (100<(a.replace.filter.sub.size:Int))) (k2 true)
 (bnd (zG a.nR) λy4 =>
 k2 (y4==false))))))
def Ci (s:iT)(s30:Int)(k31:Int->Option Bool):Option Bool :=
 br (decide (s30<(iV s.oq))) (jn (λs33:Bool =>
 br s33 (some false)
 (k31 (jq s30 1))) λk34 =>
 bnd (kJ s.oq s30) λx36 =>
 br (decide (300<(iV x36.objects))) (k34 true)
 (bnd (kJ s.oq s30) λx37 =>
 bnd (D8 (kF.mk 0 qL x37.mP TN false GZ false ([]) ([]) G5)) λy38 =>
 k34 (y38==false)))
 (some true)
def Cj (s:iT)(s25:Int)(k26:Int->Option Bool):Option Bool :=
 br (decide (s25<(iV s.waiting))) (bnd (kJ s.waiting s25) λx28 =>
 bnd (D8 x28.jd) λy29 =>
 br (y29==false) (some false)
 (k26 (jq s25 1)))
 (jw (Ci s) 0)
def Cm (s:iT)(s16:Int)(k17:Int->Option Bool):Option Bool :=
 br (decide (s16<(iV s.stack))) (jn (λs19:Bool =>
 br s19 (some false)
 (k17 (jq s16 1))) λk20 =>
 bnd (kJ s.stack s16) λx22 =>
 br (decide (20<(iV x22.targets))) (k20 true)
 (bnd (kJ s.stack s16) λx23 =>
 bnd (D8 x23.jd) λy24 =>
 k20 (y24==false)))
 (jw (Cj s) 0)
def Gu (s:iT)(s3:Int×Int)(k4:(Int×Int)->Option Bool):Option Bool :=
 jn (λs6:Bool =>
 br s6 (bnd (kJ s.ji s3.2) λx9 =>
 bnd (kJ s.ji s3.2) λx10 =>
 bnd (kJ s.ji s3.2) λx11 =>
 lt (jq (jq (jq s3.1 (iV x9.library)) (iV x10.hand)) (iV x11.sO)) λv12 =>
 k4 (v12,(jq s3.2 1)))
 (jn (λs13:Bool =>
 br s13 (some false)
 (jw (Cm s) 0)) λk14 =>
 br (decide (300<s3.1)) (k14 true)
 (k14 (decide (10<(iV s.ji)))))) λk7 =>
 br (decide (s3.2<(iV s.ji))) (k7 (decide (s3.2<10)))
 (k7 false)
def LV (s:iT):Option Bool :=
 lt (jq (jq (iV s.objects) (iV s.lq)) (iV s.uU)) λv1 =>
 lt (jq (jq (jq v1 (iV s.extra)) (zu 8 (iV s.stack))) (zu 8 (iV s.waiting))) λv2 =>
 jw (Gu s) ((jq v2 (zu 4 (iV s.oq))),0)
def EG (x:nI)(s5:Int)(k6:Int->Option Bool):Option Bool :=
 br (decide (s5<(iV x.answers))) (bnd (kJ x.answers s5) λx8 =>
 br (decide (50<(iV x8))) (some false)
 (k6 (jq s5 1)))
 (bnd (Ap x.cards) λy9 =>
 br (decide (y9.2=0)) (bnd (uN x.cards x.s) λy10 =>
 some y10)
 (some false))
def Ad (x:nI):Option Bool :=
 jn (λs1:Bool =>
 br s1 (some false)
 (jw (EG x) 0)) λk2 =>
 br (decide (12<(iV x.cards))) (k2 true)
 (br (decide (40<(iV x.s.objects))) (k2 true)
 (br (decide (6<(iV x.s.oq))) (k2 true)
 (br (decide (20<(iV x.answers))) (k2 true)
 (bnd (LV x.s) λy4 =>
 br (y4==false) (k2 true)
 (br (decide (100000<x.s.nextId)) (k2 true)
 (k2 (decide (100000<x.s.nH))))))))
def wE (s:iT)(all:List iM)(s1:Int×(List iP))(k2:(Int×(List iP))->Option (List iP)):Option (List iP) :=
 br (decide (s1.1<(iV s.objects))) (jn (λs4:(List iP) =>
 k2 ((jq s1.1 1),s4)) λk5 =>
 bnd (kJ s.objects s1.1) λx7 =>
 jn (λs8:Bool =>
 br s8 (bnd (kJ all s1.1) λx12 =>
 jW (s1.2.length+([(iP.mk x7 x12)]).length) 304 (
 k5 (s1.2++[(iP.mk x7 x12)])))
 (k5 s1.2)) λk9 =>
 br (decide (s1.1<(iV all))) (br (decide (x7.jQ=0)) (bnd (kJ all s1.1) λx11 =>
 k9 (!decide ((kz .and .i64 x11.line.types 1)=0)))
 (k9 false))
 (k9 false))
 (some s1.2)
def ui (s:iT)(all:List iM):Option (List iP) :=
 jw (wE s all) (0,[])
def nY (f:iP)(first:Bool):Option Bool :=
 bnd (kZ f.t.keys 32) λy1 =>
 bnd (kZ f.t.keys 64) λy2 =>
 br (decide (f.t.power<=0)) (some false)
 (br first (br y1 (some true)
 (some y2))
 (br y2 (some true)
 (some (y1==false))))
def uQ (f:iP)(id:Int)(p:Int)(n:Int):Option iZ :=
 some (iZ.mk 1 f.o.id id p n 0 0 0 0 0 true false UR)
def Uh (n:Int)(s1:Int×(List Int))(k2:(Int×(List Int))->Option (List Int)):Option (List Int) :=
 br (decide (s1.1<n)) (jW (s1.2.length+([s1.1]).length) 8 (
 k2 ((jq s1.1 1),(s1.2++[s1.1]))))
 (some s1.2)
def QG (n:Int):Option (List Int) :=
 jw (Uh n) (0,[])
def sJ (c:jY):Option (List Int) :=
 br (decide (c.kind=1)) (lt 0 λx1 =>
 some ([x1]))
 (br (decide (c.kind=2)) (lt 0 λx2 =>
 some ([x2]))
 (br (decide (c.kind=9)) (lt 0 λx3 =>
 some ([x3]))
 (br (decide (c.kind=10)) (lt 0 λx4 =>
 some ([x4]))
 (br (decide (c.kind=11)) (lt 0 λx5 =>
 some ([x5]))
 (br (decide (c.kind=3)) (bnd (QG (if (iV c.options)<(if c.least<0 then 0 else c.least) then (iV c.options) else (if c.least<0 then 0 else c.least))) λy6 =>
 some y6)
 (br (decide (c.kind=4)) (bnd (QG (iV c.options)) λy7 =>
 some y7)
 (br (decide (c.kind=5)) (some ([c.least]))
 (br (decide (c.kind=8)) (br (decide (0<(iV c.options))) (bnd (XK (iV c.options) (iV c.options) 8) λj8 =>
 lt 0 λx9 =>
 bnd (Hz j8 0) λj10 =>
 bnd ((List.replicate j8 x9)[j10]?) λx11 =>
 some ((List.replicate j8 x9).set j10 c.n))
 (some ([])))
 (some ([]))))))))))
def uj (o:iW)(c1:Int):Option Bool :=
 some (decide (o.id=c1))
def sK (s:iT)(all:List iM)(id:Int):Option iM :=
 bnd (jF s.objects (λa0=>uj a0 id)) λy1 =>
 br (decide (y1<0)) (some rU)
 (br (decide ((iV all)<=y1)) (some rU)
 (bnd (kJ all y1) λx2 =>
 some x2))
def oI (x:Int)(c1:Int):Option (Bool×Int) :=
 br (decide (x<0)) (some (false,c1))
 (br (decide (c1<x)) (some (false,c1))
 (some (true,(jS c1 x))))
def oV (need:List Int)(l:List Int)(s4:Bool×Int×Int)(k5:(Bool×Int×Int)->Option Bool):Option Bool :=
 br (decide (s4.2.1<(iV l))) (jn (λs7:Bool×Int =>
 k5 (s7.1,(jq s4.2.1 1),s7.2)) λk8 =>
 bnd (kJ l s4.2.1) λx10 =>
 jn (λs11:Bool×Int =>
 br s11.1 (some false)
 (jn (λs15:Bool =>
 br s15 (k8 (false,s11.2))
 (k8 (s4.1,s11.2))) λk16 =>
 br (decide (s4.2.1<(iV need))) (bnd (kJ need s4.2.1) λx18 =>
 k16 (decide (x10<x18)))
 (k16 false))) λk12 =>
 bnd (oI x10 s4.2.2) λy14 =>
 br (y14.1==false) (k12 (true,y14.2))
 (br (decide (0<x10)) (k12 ((s4.1==false),y14.2))
 (k12 (false,y14.2))))
 (some (decide (s4.2.2=0)))
def pR (need:List Int)(l:List Int)(sum:Int)(trample:Bool):Option Bool :=
 jn (λs1:Int =>
 br (!decide ((iV l)=s1)) (some false)
 (jw (oV need l) (true,0,sum))) λk2 =>
 br trample (k2 (jq (iV need) 1))
 (k2 (iV need))
def AL (n:Int):Option Int :=
 some (if 1000000<(if n<(-1000000) then (-1000000) else n) then 1000000 else (if n<(-1000000) then (-1000000) else n))
def QH (a:Int)(b:Int):Option Int :=
 bnd (AL a) λy1 =>
 bnd (AL b) λy2 =>
 bnd (AL (jS y1 y2)) λy3 =>
 some y3
def qj (o:iW)(t:iM)(deadly:Bool):Option Int :=
 br deadly (some 1)
 (bnd (QH t.jE o.zn) λy1 =>
 some (if 1<y1 then y1 else 1))
def oh (s:iT)(a:Int)(s1:Int×(List Int))(k2:(Int×(List Int))->Option (List Int)):Option (List Int) :=
 br (decide (s1.1<(iV s.objects))) (jn (λs4:(List Int) =>
 k2 ((jq s1.1 1),s4)) λk5 =>
 bnd (kJ s.objects s1.1) λx7 =>
 jn (λs8:Bool =>
 br s8 (jW (s1.2.length+([x7.id]).length) 8 (
 k5 (s1.2++[x7.id])))
 (k5 s1.2)) λk9 =>
 br (decide (x7.jQ=0)) (k9 (decide (x7.blocks=a)))
 (k9 false))
 (some s1.2)
def mZ (s:iT)(a:Int):Option (List Int) :=
 jw (oh s a) (0,[])
def CB (o:iW)(c1:Int):Option Bool :=
 some (decide (o.id=c1))
def D9 (s:iT)(id:Int):Option Int :=
 bnd (jF s.objects (λa0=>CB a0 id)) λy1 =>
 some y1
def vV (s:iT)(id:Int):Option (iW×Bool) :=
 bnd (D9 s id) λy1 =>
 br (decide (y1<0)) (some (KP,false))
 (bnd (kJ s.objects y1) λx2 =>
 some (x2,true))
def qC (pe:iZ):Option Bool :=
 some (decide (pe.amount=0))
def qH (s:List iZ)(f:iZ->Option Bool)(s1:Int)(k2:Int->Option Int):Option Int :=
 br (decide (s1<(iV s))) (bnd (kJ s s1) λx4 =>
 bnd (f x4) λy5 =>
 br y5 (some s1)
 (k2 (jq s1 1)))
 (some (-1))
def qx (s:List iZ)(f:iZ->Option Bool):Option Int :=
 jw (qH s f) 0
def tH (del:iZ->Option Bool)(s2:Int×Int×(List iZ))(k3:(Int×Int×(List iZ))->Option (List iZ)):Option (List iZ) :=
 br (decide (s2.2.1<(iV s2.2.2))) (jn (λs5:Int×(List iZ) =>
 k3 (s5.1,(jq s2.2.1 1),s5.2)) λk6 =>
 bnd (Hz s2.2.2.length s2.2.1) λj8 =>
 bnd (s2.2.2[j8]?) λx9 =>
 bnd (del x9) λy10 =>
 br (y10==false) (bnd (Hz s2.2.2.length s2.1) λj11 =>
 bnd (s2.2.2[j11]?) λx12 =>
 k6 ((jq s2.1 1),(s2.2.2.set j11 x9)))
 (k6 (s2.1,s2.2.2)))
 (bnd (UO s2.2.2.length s2.1 ((s2.2.2.length:Nat):Int)) λx13 =>
 lt TP λx14 =>
 bnd (UO s2.2.2.length 0 s2.1) λx15 =>
 some (zo (adt s2.2.2 (0+x13.1) (List.replicate (x13.2-x13.1) x14)) (0+x15.1) (x15.2-x15.1)))
def oL (s:List iZ)(del:iZ->Option Bool):Option (List iZ) :=
 bnd (qx s del) λy1 =>
 br (decide (y1=(-1))) (some s)
 (jw (tH del) (y1,(jq y1 1),s))
end Go.Proofs.YtlacmdnhabblcaaGreat
