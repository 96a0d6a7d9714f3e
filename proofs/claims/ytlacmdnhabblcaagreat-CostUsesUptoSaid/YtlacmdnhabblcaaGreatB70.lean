import Derived.Test.YtlacmdnhabblcaaGreatB11
import Derived.Test.YtlacmdnhabblcaaGreatB69
set_option linter.all false
namespace Go.Proofs.YtlacmdnhabblcaaGreat
open Go Go.Pv
set_option maxRecDepth 100000
set_option maxHeartbeats 2000000
def JB (cards:List jI)(s:iT):Option Bool :=
 bnd (Ap cards) λy1 =>
 br (decide (y1.2=0)) (bnd (uN cards s) λy2 =>
 some y2)
 (some false)
def JC:Option Bool:=some true
def zI (o:iW)(c1:Int):Option Bool :=
 some (decide (o.id=c1))
def NT (c:oH)(s1:Int)(k2:Int->Option Bool):Option Bool :=
 br (decide (s1<5)) (jn (λs4:Int =>
 jn (λs8:Bool =>
 br s8 (some false)
 (k2 (jq s1 1))) λk9 =>
 br (decide (s4<0)) (k9 true)
 (k9 (decide (9<s4)))) λk5 =>
 sel s1 5 λj7=>(match j7 with|0=>(k5 c.color.a0)  | 1=>(k5 c.color.a1)  | 2=>(k5 c.color.a2)  | 3=>(k5 c.color.a3)  | _=>(k5 c.color.a4) ))
 (br (decide (0<=c.generic)) (br (decide (c.generic<=99)) (br (decide (0<=c.x)) (some (decide (c.x<=2)))
 (some false))
 (some false))
 (some false))
def Ul (c:oH):Option Bool :=
 jw (NT c) 0
def EM (p:rQ Int)(s1:Int)(k2:Int->Option Bool):Option Bool :=
 br (decide (s1<6)) (jn (λs4:Int =>
 jn (λs8:Bool =>
 br s8 (some false)
 (k2 (jq s1 1))) λk9 =>
 br (decide (s4<0)) (k9 true)
 (k9 (decide (1000000<s4)))) λk5 =>
 sel s1 6 λj7=>(match j7 with|0=>(k5 p.a0)  | 1=>(k5 p.a1)  | 2=>(k5 p.a2)  | 3=>(k5 p.a3)  | 4=>(k5 p.a4)  | _=>(k5 p.a5) ))
 (some true)
def IJ (p:rQ Int):Option Bool :=
 jw (EM p) 0
def JD (c:oH)(x:Int)(s11:(rQ Int)×Int)(k12:((rQ Int)×Int)->Option ((rQ Int)×Int)):Option ((rQ Int)×Int) :=
 br (decide (s11.2<5)) (jn (λs14:Int =>
 jn (λs18:(rQ Int) =>
 jn (λs28:Bool =>
 br s28 (some (Bd,12))
 (k12 (s18,(jq s11.2 1)))) λk29 =>
 sel (jq s11.2 1) 6 λj31=>(match j31 with|0=>(k29 (decide (s18.a0<0)))  | 1=>(k29 (decide (s18.a1<0)))  | 2=>(k29 (decide (s18.a2<0)))  | 3=>(k29 (decide (s18.a3<0)))  | 4=>(k29 (decide (s18.a4<0)))  | _=>(k29 (decide (s18.a5<0))) )) λk19 =>
 sel (jq s11.2 1) 6 λj21=>(match j21 with|0=>(sel (jq s11.2 1) 6 λj22=>(match j22 with|0=>(k19 { s11.1 with a0:=(jS s11.1.a0 s14) })  | 1=>(k19 { s11.1 with a1:=(jS s11.1.a0 s14) })  | 2=>(k19 { s11.1 with a2:=(jS s11.1.a0 s14) })  | 3=>(k19 { s11.1 with a3:=(jS s11.1.a0 s14) })  | 4=>(k19 { s11.1 with a4:=(jS s11.1.a0 s14) })  | _=>(k19 { s11.1 with a5:=(jS s11.1.a0 s14) }) ))  | 1=>(sel (jq s11.2 1) 6 λj23=>(match j23 with|0=>(k19 { s11.1 with a0:=(jS s11.1.a1 s14) })  | 1=>(k19 { s11.1 with a1:=(jS s11.1.a1 s14) })  | 2=>(k19 { s11.1 with a2:=(jS s11.1.a1 s14) })  | 3=>(k19 { s11.1 with a3:=(jS s11.1.a1 s14) })  | 4=>(k19 { s11.1 with a4:=(jS s11.1.a1 s14) })  | _=>(k19 { s11.1 with a5:=(jS s11.1.a1 s14) }) ))  | 2=>(sel (jq s11.2 1) 6 λj24=>(match j24 with|0=>(k19 { s11.1 with a0:=(jS s11.1.a2 s14) })  | 1=>(k19 { s11.1 with a1:=(jS s11.1.a2 s14) })  | 2=>(k19 { s11.1 with a2:=(jS s11.1.a2 s14) })  | 3=>(k19 { s11.1 with a3:=(jS s11.1.a2 s14) })  | 4=>(k19 { s11.1 with a4:=(jS s11.1.a2 s14) })  | _=>(k19 { s11.1 with a5:=(jS s11.1.a2 s14) }) ))  | 3=>(sel (jq s11.2 1) 6 λj25=>(match j25 with|0=>(k19 { s11.1 with a0:=(jS s11.1.a3 s14) })  | 1=>(k19 { s11.1 with a1:=(jS s11.1.a3 s14) })  | 2=>(k19 { s11.1 with a2:=(jS s11.1.a3 s14) })  | 3=>(k19 { s11.1 with a3:=(jS s11.1.a3 s14) })  | 4=>(k19 { s11.1 with a4:=(jS s11.1.a3 s14) })  | _=>(k19 { s11.1 with a5:=(jS s11.1.a3 s14) }) ))  | 4=>(sel (jq s11.2 1) 6 λj26=>(match j26 with|0=>(k19 { s11.1 with a0:=(jS s11.1.a4 s14) })  | 1=>(k19 { s11.1 with a1:=(jS s11.1.a4 s14) })  | 2=>(k19 { s11.1 with a2:=(jS s11.1.a4 s14) })  | 3=>(k19 { s11.1 with a3:=(jS s11.1.a4 s14) })  | 4=>(k19 { s11.1 with a4:=(jS s11.1.a4 s14) })  | _=>(k19 { s11.1 with a5:=(jS s11.1.a4 s14) }) ))  | _=>(sel (jq s11.2 1) 6 λj27=>(match j27 with|0=>(k19 { s11.1 with a0:=(jS s11.1.a5 s14) })  | 1=>(k19 { s11.1 with a1:=(jS s11.1.a5 s14) })  | 2=>(k19 { s11.1 with a2:=(jS s11.1.a5 s14) })  | 3=>(k19 { s11.1 with a3:=(jS s11.1.a5 s14) })  | 4=>(k19 { s11.1 with a4:=(jS s11.1.a5 s14) })  | _=>(k19 { s11.1 with a5:=(jS s11.1.a5 s14) }) )) )) λk15 =>
 sel s11.2 5 λj17=>(match j17 with|0=>(k15 c.color.a0)  | 1=>(k15 c.color.a1)  | 2=>(k15 c.color.a2)  | 3=>(k15 c.color.a3)  | _=>(k15 c.color.a4) ))
 (lt (jS s11.1.a0 (if s11.1.a0<(jq c.generic (zu c.x x)) then s11.1.a0 else (jq c.generic (zu c.x x)))) λv33 =>
 lt (jS (jq c.generic (zu c.x x)) (if s11.1.a0<(jq c.generic (zu c.x x)) then s11.1.a0 else (jq c.generic (zu c.x x)))) λv34 =>
 lt (jS s11.1.a2 (if s11.1.a2<(jS v34 (if s11.1.a1<v34 then s11.1.a1 else v34)) then s11.1.a2 else (jS v34 (if s11.1.a1<v34 then s11.1.a1 else v34)))) λv35 =>
 lt (jS (jS v34 (if s11.1.a1<v34 then s11.1.a1 else v34)) (if s11.1.a2<(jS v34 (if s11.1.a1<v34 then s11.1.a1 else v34)) then s11.1.a2 else (jS v34 (if s11.1.a1<v34 then s11.1.a1 else v34)))) λv36 =>
 lt (jS s11.1.a4 (if s11.1.a4<(jS v36 (if s11.1.a3<v36 then s11.1.a3 else v36)) then s11.1.a4 else (jS v36 (if s11.1.a3<v36 then s11.1.a3 else v36)))) λv37 =>
 lt (jS (jS v36 (if s11.1.a3<v36 then s11.1.a3 else v36)) (if s11.1.a4<(jS v36 (if s11.1.a3<v36 then s11.1.a3 else v36)) then s11.1.a4 else (jS v36 (if s11.1.a3<v36 then s11.1.a3 else v36)))) λv38 =>
 lt (decide (0<(jS v38 (if s11.1.a5<v38 then s11.1.a5 else v38)))) λv39 =>
 br v39 (some (Bd,12))
 (some ((rQ.mk v33 (jS s11.1.a1 (if s11.1.a1<v34 then s11.1.a1 else v34)) v35 (jS s11.1.a3 (if s11.1.a3<v36 then s11.1.a3 else v36)) v37 (jS s11.1.a5 (if s11.1.a5<v38 then s11.1.a5 else v38))),0)))
def Qa (p:rQ Int)(c:oH)(x:Int):Option ((rQ Int)×Int) :=
 jn (λs1:Bool =>
 br s1 (some (Bd,1))
 (jn (λs6:Bool =>
 br s6 (some (p,0))
 (jw (JD c x) (p,0))) λk7 =>
 lt (decide (p.a0=0)&&(decide (p.a1=0)&&(decide (p.a2=0)&&(decide (p.a3=0)&&(decide (p.a4=0)&&(decide (p.a5=0)&&true)))))) λv9 =>
 br v9 (lt (decide (c.generic=0)&&(decide (c.x=0)&&(decide (c.color.a0=0)&&(decide (c.color.a1=0)&&(decide (c.color.a2=0)&&(decide (c.color.a3=0)&&(decide (c.color.a4=0)&&true))))))) λv10 =>
 k7 v10)
 (k7 false))) λk2 =>
 bnd (Ul c) λy4 =>
 br (y4==false) (k2 true)
 (bnd (IJ p) λy5 =>
 br (y5==false) (k2 true)
 (br (decide (x<0)) (k2 true)
 (k2 (decide (1000000<x)))))
def AQ (p:rQ Int)(c:oH)(x:Int):Option Bool :=
 bnd (Qa p c x) λy1 =>
 some (decide (y1.2=0))
def Fv (s:iT)(all:List iM)(p:Int)(id:Int)(price:uh):Option Bool :=
 bnd (jF s.objects (λa0=>zI a0 id)) λy1 =>
 jn (λs2:Bool =>
 br s2 (some false)
 (bnd (kJ s.objects y1) λx5 =>
 jn (λs6:iM =>
 jn (λs10:Bool =>
 br s10 (some false)
 (jn (λs13:Unit =>
 bnd (kJ s.ji p) λx22 =>
 bnd (AQ x22.pool price.og 0) λy23 =>
 br y23 (bnd (kJ s.ji p) λx24 =>
 some (decide (price.life<=x24.life)))
 (some false)) λk14 =>
 br price.vZ (jn (λs16:Bool =>
 jn (λs19:Bool =>
 br s19 (some false)
 (k14 ())) λk20 =>
 br x5.nC (k20 true)
 (k20 s16)) λk17 =>
 br x5.Df (br (!decide ((kz .and .i64 s6.line.types 1)=0)) (k17 (decide ((kz .and .i64 s6.keys 4)=0)))
 (k17 false))
 (k17 false))
 (k14 ()))) λk11 =>
 br (!decide (x5.jQ=0)) (k11 true)
 (k11 (!decide (s6.control=p)))) λk7 =>
 br (decide (y1<(iV all))) (bnd (kJ all y1) λx9 =>
 k7 x9)
 (k7 rU))) λk3 =>
 br (decide (y1<0)) (k3 true)
 (br (decide (p<0)) (k3 true)
 (k3 (decide ((iV s.ji)<=p))))
def J9 (s:iT)(all:List iM)(id:Int)(s1:Int)(k2:Int->Option iM):Option iM :=
 jn (λs4:Bool =>
 br s4 (bnd (kJ s.objects s1) λx7 =>
 br (decide (x7.id=id)) (bnd (kJ all s1) λx8 =>
 some x8)
 (k2 (jq s1 1)))
 (some rU)) λk5 =>
 br (decide (s1<(iV s.objects))) (k5 (decide (s1<(iV all))))
 (k5 false)
def IK (s:iT)(all:List iM)(id:Int):Option iM :=
 jw (J9 s all id) 0
def QJ (mask:Int)(bit:Int):Option Bool :=
 bnd (divO .quo .i64 mask bit) λx1 =>
 bnd (divO .rem .i64 x1 2) λx2 =>
 some (decide (x2=1))
def Um (p:rQ Int)(c:oH)(x:Int):Option ((rQ Int)×Int) :=
 jn (λs1:Bool =>
 br s1 (some (Bd,1))
 (br (decide (p.a1<c.color.a0)) (some (Bd,12))
 (br (decide (p.a2<c.color.a1)) (some (Bd,12))
 (lt (jq (jq p.a0 (jS p.a1 c.color.a0)) (jS p.a2 c.color.a1)) λv7 =>
 br (decide (p.a3<c.color.a2)) (some (Bd,12))
 (br (decide (p.a4<c.color.a3)) (some (Bd,12))
 (lt (jq (jq v7 (jS p.a3 c.color.a2)) (jS p.a4 c.color.a3)) λv8 =>
 br (decide (p.a5<c.color.a4)) (some (Bd,12))
 (lt (decide ((jq v8 (jS p.a5 c.color.a4))<(jq c.generic (zu c.x x)))) λv9 =>
 br v9 (some (Bd,12))
 (lt (jS p.a0 (if p.a0<(jq c.generic (zu c.x x)) then p.a0 else (jq c.generic (zu c.x x)))) λv11 =>
 lt (jS (jq c.generic (zu c.x x)) (if p.a0<(jq c.generic (zu c.x x)) then p.a0 else (jq c.generic (zu c.x x)))) λv12 =>
 lt (jS (jS p.a1 c.color.a0) (if (jS p.a1 c.color.a0)<v12 then (jS p.a1 c.color.a0) else v12)) λv13 =>
 lt (jS v12 (if (jS p.a1 c.color.a0)<v12 then (jS p.a1 c.color.a0) else v12)) λv14 =>
 lt (jS (jS p.a2 c.color.a1) (if (jS p.a2 c.color.a1)<v14 then (jS p.a2 c.color.a1) else v14)) λv15 =>
 lt (jS v14 (if (jS p.a2 c.color.a1)<v14 then (jS p.a2 c.color.a1) else v14)) λv16 =>
 lt (jS (jS p.a3 c.color.a2) (if (jS p.a3 c.color.a2)<v16 then (jS p.a3 c.color.a2) else v16)) λv17 =>
 lt (jS v16 (if (jS p.a3 c.color.a2)<v16 then (jS p.a3 c.color.a2) else v16)) λv18 =>
 lt (jS (jS p.a4 c.color.a3) (if (jS p.a4 c.color.a3)<v18 then (jS p.a4 c.color.a3) else v18)) λv19 =>
 lt (jS v18 (if (jS p.a4 c.color.a3)<v18 then (jS p.a4 c.color.a3) else v18)) λv20 =>
 lt (jS (jS p.a5 c.color.a4) (if (jS p.a5 c.color.a4)<v20 then (jS p.a5 c.color.a4) else v20)) λv21 =>
 lt (jS v20 (if (jS p.a5 c.color.a4)<v20 then (jS p.a5 c.color.a4) else v20)) λv22 =>
 some ((rQ.mk v11 v13 v15 v17 v19 v21),0))))))))) λk2 =>
 bnd (FM c) λy4 =>
 br (y4==false) (k2 true)
 (bnd (Aq p) λy5 =>
 br (y5==false) (k2 true)
 (br (decide (x<0)) (k2 true)
 (k2 (decide (1000000<x)))))
def Ec (p:rQ Int)(c:oH)(x:Int):Option Bool :=
 bnd (Um p c x) λy1 =>
 some (decide (y1.2=0))
def IL (s:iT)(all:List iM)(p:Int)(id:Int)(price:uh):Option Bool :=
 bnd (E8 s id) λy1 =>
 jn (λs2:Bool =>
 br s2 (some false)
 (bnd (IK s all id) λy5 =>
 br (!decide (y5.control=p)) (some false)
 (jn (λs6:Bool =>
 br s6 (some false)
 (bnd (kJ s.ji p) λx11 =>
 bnd (Ec x11.pool price.og 0) λy12 =>
 br y12 (bnd (kJ s.ji p) λx13 =>
 some (decide (price.life<=x13.life)))
 (some false))) λk7 =>
 br price.vZ (br y1.1.nC (k7 true)
 (br y1.1.Df (bnd (QJ y5.line.types 1) λy9 =>
 br y9 (bnd (QJ y5.keys 4) λy10 =>
 k7 (y10==false))
 (k7 false))
 (k7 false)))
 (k7 false)))) λk3 =>
 br (y1.2==false) (k3 true)
 (br (!decide (y1.1.jQ=0)) (k3 true)
 (br (decide (p<0)) (k3 true)
 (k3 (decide ((iV s.ji)<=p)))))
def CX (u:vS):Option Bool :=
 bnd (JB u.cards u.s) λy1 =>
 br (y1==false) (bnd (JC) λy2 =>
 some y2)
 (bnd (zM u.cards u.s) λy3 =>
 bnd (JC) λy4 =>
 br y4 (bnd (Fv u.s y3 u.p u.id u.price) λy5 =>
 bnd (IL u.s y3 u.p u.id u.price) λy6 =>
 some (y5==y6))
 (some false))
end Go.Proofs.YtlacmdnhabblcaaGreat
