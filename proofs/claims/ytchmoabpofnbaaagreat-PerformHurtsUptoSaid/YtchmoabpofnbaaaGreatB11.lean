import Derived.Test.YtchmoabpofnbaaaGreatB10
set_option linter.all false
namespace Go.Proofs.YtchmoabpofnbaaaGreat
open Go Go.Pv
set_option maxRecDepth 100000
set_option maxHeartbeats 20000000
variable [GM]
structure jO where
 life:Int
 YO:Int
 lands:Int
 pool:Qm Int
 failed:Bool
 lost:Bool
 library:List Int
 hand:List Int
 BC:List Int
def xg (M:iO)(x:jO):List PV:=[sI x.life,sI x.YO,sI x.lands,sI x.pool.a0,sI x.pool.a1,sI x.pool.a2,sI x.pool.a3,sI x.pool.a4,sI x.pool.a5,.sb x.failed,.sb x.lost,.sl 1 (mI M x.library) false,.sl 1 (mI M x.hand) false,.sl 1 (mI M x.BC) false]
def adN:jO:=jO.mk 0 0 0 TZ false false ([]) ([]) ([])
structure iy where
 id:Int
 card:Int
 owner:Int
 control:Int
 jB:Int
 token:Bool
 qg:Bool
 aae:Bool
 deadly:Bool
 EX:Int
 counters:Oy Int
 stamp:Int
 copy:Int
 Du:Int
 blocked:Bool
 blocks:Int
 BD:Int
def jY (M:iO)(x:iy):List PV:=[sI x.id,sI x.card,sI x.owner,sI x.control,sI x.jB,.sb x.token,.sb x.qg,.sb x.aae,.sb x.deadly,sI x.EX,sI x.counters.a0,sI x.counters.a1,sI x.counters.a2,sI x.stamp,sI x.copy,sI x.Du,.sb x.blocked,sI x.blocks,sI x.BD]
def CV:iy:=iy.mk 0 0 0 0 0 false false false false 0 G5 0 0 0 false 0 0
structure vI where
 kind:Int
 n:Int
def D8 (M:iO)(x:vI):List PV:=[sI x.kind,sI x.n]
def Sl:vI:=vI.mk 0 0
structure kD where
 jB:Int
 who:Int
 self:Int
 types:Int
 jH:Int
 kz:Int
 jl:Int
 sub:ByteArray
 keys:Int
 BX:Int
 power:vI
 ji:vI
 value:vI
def jU (M:iO)(x:kD):List PV:=[sI x.jB,sI x.who,sI x.self,sI x.types,sI x.jH,sI x.kz,sI x.jl,.str x.sub,sI x.keys,sI x.BX,sI x.power.kind,sI x.power.n,sI x.ji.kind,sI x.ji.n,sI x.value.kind,sI x.value.n]
def lM:kD:=kD.mk 0 0 0 0 0 0 0 (bs []) 0 0 Sl Sl Sl
structure nC where
 kind:Int
 n:Int
 m:Int
 sub:ByteArray
 filter:kD
def zo (M:iO)(x:nC):List PV:=([sI x.kind,sI x.n,sI x.m,.str x.sub]++(jU M x.filter))
def ahO:nC:=nC.mk 0 0 0 (bs []) lM
structure rG where
 generic:Int
 x:Int
 color:Z5 Int
def rV (M:iO)(x:rG):List PV:=[sI x.generic,sI x.x,sI x.color.a0,sI x.color.a1,sI x.color.a2,sI x.color.a3,sI x.color.a4]
def Uf:rG:=rG.mk 0 0 adw
structure I8 where
 Dv:rG
 BX:Bool
 Il:Bool
 life:Int
def zZ (M:iO)(x:I8):List PV:=(rV M x.Dv++[.sb x.BX,.sb x.Il,sI x.life])
def W9:I8:=I8.mk Uf false false 0
structure xh where
 when:Int
 who:Int
 filter:kD
def pX (M:iO)(x:xh):List PV:=([sI x.when,sI x.who]++(jU M x.filter))
def Lc:xh:=xh.mk 0 0 lM
structure rW where
 kE:Bool
 object:Bool
 filter:kD
def I9 (M:iO)(x:rW):List PV:=([.sb x.kE,.sb x.object]++(jU M x.filter))
def agC:rW:=rW.mk false false lM
structure Ug where
 kind:Int
 n:Int
 filter:kD
def VE (M:iO)(x:Ug):List PV:=([sI x.kind,sI x.n]++(jU M x.filter))
def afQ:Ug:=Ug.mk 0 0 lM
structure xO where
 kind:Int
 n:Int
 counter:Int
 filter:kD
def EY (M:iO)(x:xO):List PV:=([sI x.kind,sI x.n,sI x.counter]++(jU M x.filter))
def YP:xO:=xO.mk 0 0 0 lM
structure jh where
 op:Int
 ref:Ug
 amount:xO
 counter:Int
 jB:Int
 card:ByteArray
 filter:kD
 pool:Qm Int
 mQ:List nC
def xk (M:iO)(x:jh):List PV:=(([sI x.op]++(VE M x.ref))++(EY M x.amount++([sI x.counter,sI x.jB,.str x.card]++(jU M x.filter++[sI x.pool.a0,sI x.pool.a1,sI x.pool.a2,sI x.pool.a3,sI x.pool.a4,sI x.pool.a5,.sl 20 (M.m nC (zo M) x.mQ) false]))))
def adO:jh:=jh.mk 0 afQ YP 0 0 (bs []) lM TZ ([])
structure oQ where
 on:Int
 who:Int
 filter:kD
 doF:Int
 n:Int
 jB:Int
 counter:Int
def oU (M:iO)(x:oQ):List PV:=([sI x.on,sI x.who]++(jU M x.filter++[sI x.doF,sI x.n,sI x.jB,sI x.counter]))
def Ld:oQ:=oQ.mk 0 0 lM 0 0 0 0
structure iG where
 kind:Int
 filter:kD
 mQ:List nC
 price:I8
 slow:Bool
 iM:xh
 may:Bool
 specs:List rW
 jX:List jh
 replace:oQ
def jQ (M:iO)(x:iG):List PV:=((([sI x.kind]++(jU M x.filter++([.sl 20 (M.m nC (zo M) x.mQ) false]++(zZ M x.price++[.sb x.slow]))))++(pX M x.iM++[.sb x.may,.sl 18 (M.m rW (I9 M) x.specs) false,.sl 64 (M.m jh (xk M) x.jX) false]))++(oU M x.replace))
def BF:iG:=iG.mk 0 lM ([]) W9 false Lc false ([]) ([]) Ld
structure ru where
 object:Int
 kE:Int
def EZ (M:iO)(x:ru):List PV:=[sI x.object,sI x.kE]
def adP:ru:=ru.mk 0 0
structure jI where
 kind:Int
 source:Int
 object:Int
 kE:Int
 amount:Int
 Jt:Int
 to:Int
 cause:Int
 counter:Int
 card:Int
 JY:Bool
 qg:Bool
 extra:Oy Int
def jm (M:iO)(x:jI):List PV:=[sI x.kind,sI x.source,sI x.object,sI x.kE,sI x.amount,sI x.Jt,sI x.to,sI x.cause,sI x.counter,sI x.card,.sb x.JY,.sb x.qg,sI x.extra.a0,sI x.extra.a1,sI x.extra.a2]
def Ja:jI:=jI.mk 0 0 0 0 0 0 0 0 0 0 false false G5
structure oN where
 id:Int
 kind:Int
 source:Int
 control:Int
 x:Int
 copy:Bool
 jM:iG
 targets:List ru
 event:jI
def Dw (M:iO)(x:oN):List PV:=([sI x.id,sI x.kind,sI x.source,sI x.control,sI x.x,.sb x.copy]++(jQ M x.jM++([.sl 2 (M.m ru (EZ M) x.targets) false]++(jm M x.event))))
def agD:oN:=oN.mk 0 0 0 0 0 false BF ([]) Ja
structure iP where
 source:Int
 control:Int
 jM:iG
 event:jI
def zq (M:iO)(x:iP):List PV:=([sI x.source,sI x.control]++(jQ M x.jM++(jm M x.event)))
def aca:iP:=iP.mk 0 0 BF Ja
structure qc where
 stamp:Int
 control:Int
 source:Int
 aaf:Int
 objects:List Int
 mQ:List nC
def E5 (M:iO)(x:qc):List PV:=[sI x.stamp,sI x.control,sI x.source,sI x.aaf,.sl 1 (mI M x.objects) false,.sl 20 (M.m nC (zo M) x.mQ) false]
def agE:qc:=qc.mk 0 0 0 0 ([]) ([])
structure gW where
 gU:List jO
 objects:List iy
 jk:List Int
 qZ:List Int
 stack:List oN
 waiting:List iP
 mf:List qc
 turn:Int
 qy:Int
 step:Int
 begun:Bool
 priority:Int
 passes:Int
 nextId:Int
 lF:Int
 seed:Int
 extra:List Int
 over:Int
 rX:Int
def iQ (M:iO)(x:gW):List PV:=[.sl 14 (M.m jO (xg M) x.gU) false,.sl 19 (M.m iy (jY M) x.objects) false,.sl 1 (mI M x.jk) false,.sl 1 (mI M x.qZ) false,.sl 94 (M.m oN (Dw M) x.stack) false,.sl 89 (M.m iP (zq M) x.waiting) false,.sl 6 (M.m qc (E5 M) x.mf) false,sI x.turn,sI x.qy,sI x.step,.sb x.begun,sI x.priority,sI x.passes,sI x.nextId,sI x.lF,.si .u64 x.seed,.sl 1 (mI M x.extra) false,sI x.over,sI x.rX]
def iL (M:iO)(x:gW):List PV:=[.sl 14 (M.m jO (xg M) x.gU) false,.sl 19 (M.m iy (jY M) x.objects) false,.sl 1 (mI M x.jk) false,.sl 1 (mI M x.qZ) false,.sl 94 (M.m oN (Dw M) x.stack) false,.hc,.sl 6 (M.m qc (E5 M) x.mf) false,sI x.turn,sI x.qy,sI x.step,.sb x.begun,sI x.priority,sI x.passes,sI x.nextId,sI x.lF,.si .u64 x.seed,.sl 1 (mI M x.extra) false,sI x.over,sI x.rX]
def Sm:gW:=gW.mk ([]) ([]) ([]) ([]) ([]) ([]) ([]) 0 0 0 false 0 0 0 0 0 ([]) 0 0
structure zt where
 Gj:Int
 types:Int
 subs:List ByteArray
def JZ (M:iO)(x:zt):List PV:=[sI x.Gj,sI x.types,.sl 1 (M.m ByteArray eS x.subs) false]
def Xa:zt:=zt.mk 0 0 ([])
structure jc where
 name:ByteArray
 token:Bool
 cost:rG
 color:Int
 line:zt
 power:Int
 ji:Int
 keys:Int
 gQ:List iG
def yY (M:iO)(x:jc):List PV:=([.str x.name,.sb x.token]++(rV M x.cost++[sI x.color,sI x.line.Gj,sI x.line.types,.sl 1 (M.m ByteArray eS x.line.subs) false,sI x.power,sI x.ji,sI x.keys,.sl 72 (M.m iG (jQ M) x.gQ) false]))
def agF:jc:=jc.mk (bs []) false Uf 0 Xa 0 0 0 ([])
structure iU where
 kind:Int
 a:Int
 b:Int
def vV (M:iO)(x:iU):List PV:=[sI x.kind,sI x.a,sI x.b]
def YQ:iU:=iU.mk 0 0 0
structure D9 where
 kind:Int
 kE:Int
 source:Int
 least:Int
 most:Int
 n:Int
 options:List iU
def Aa (M:iO)(x:D9):List PV:=[sI x.kind,sI x.kE,sI x.source,sI x.least,sI x.most,sI x.n,.sl 3 (M.m iU (vV M) x.options) false]
def OE:D9:=D9.mk 0 0 0 0 0 0 ([])
structure jq where
 answers:List (List Int)
 used:Int
 pending:D9
 waits:Bool
 bad:Bool
def jw (M:iO)(x:jq):List PV:=([.sl 1 (M.m (List Int) (eL M 1 (eI .i64)) x.answers) false,sI x.used]++(Aa M x.pending++[.sb x.waits,.sb x.bad]))
def aag:jq:=jq.mk ([]) 0 OE false false
structure gX where
 name:ByteArray
 cost:rG
 kz:Int
 line:zt
 power:Int
 ji:Int
 keys:Int
 gQ:List iG
 control:Int
def lq (M:iO)(x:gX):List PV:=([.str x.name]++(rV M x.cost++[sI x.kz,sI x.line.Gj,sI x.line.types,.sl 1 (M.m ByteArray eS x.line.subs) false,sI x.power,sI x.ji,sI x.keys,.sl 72 (M.m iG (jQ M) x.gQ) false,sI x.control]))
def xm:gX:=gX.mk (bs []) Uf 0 Xa 0 0 0 ([]) 0
structure iF where
 source:Int
 jM:Int
 control:Int
 stamp:Int
 fixed:Bool
 objects:List Int
 filter:kD
 mQ:List nC
def pJ (M:iO)(x:iF):List PV:=([sI x.source,sI x.jM,sI x.control,sI x.stamp,.sb x.fixed,.sl 1 (mI M x.objects) false]++(jU M x.filter++[.sl 20 (M.m nC (zo M) x.mQ) false]))
def Xb:iF:=iF.mk 0 0 0 0 false ([]) lM ([])
structure iC where
 s:gW
 forces:List iF
 iH:List gX
 dropped:List Bool
 done:List Bool
 hits:List (List Int)
def Jb (M:iO)(x:iC):List PV:=(iQ M x.s++[.sl 23 (M.m iF (pJ M) x.forces) false,.sl 17 (M.m gX (lq M) x.iH) false,.sl 1 (M.m Bool eB x.dropped) false,.sl 1 (M.m Bool eB x.done) false,.sl 1 (M.m (List Int) (eL M 1 (eI .i64)) x.hits) false])
def yB (M:iO)(x:iC):List PV:=(iL M x.s++[.sl 23 (M.m iF (pJ M) x.forces) false,.sl 17 (M.m gX (lq M) x.iH) false,.sl 1 (M.m Bool eB x.dropped) false,.sl 1 (M.m Bool eB x.done) false,.sl 1 (M.m (List Int) (eL M 1 (eI .i64)) x.hits) false])
def Xc:iC:=iC.mk Sm ([]) ([]) ([]) ([]) ([])
structure kH where
 qy:Bool
 hits:List Int
 numbers:List Int
def oD (M:iO)(x:kH):List PV:=[.sb x.qy,.sl 1 (mI M x.hits) false,.sl 1 (mI M x.numbers) false]
def Q8:kH:=kH.mk false ([]) ([])
structure gI where
 id:Int
 index:Int
 you:Int
 jM:iG
 earlier:Bool
def jZ (M:iO)(x:gI):List PV:=([sI x.id,sI x.index,sI x.you]++(jQ M x.jM++[.sb x.earlier]))
def Uh:gI:=gI.mk 0 0 0 BF false
structure kL where
 before:gW
 after:gW
 nN:List gX
 oV:List gX
 e:jI
def Jc (M:iO)(x:kL):List PV:=(iQ M x.before++(iQ M x.after++([.sl 17 (M.m gX (lq M) x.nN) false,.sl 17 (M.m gX (lq M) x.oV) false]++(jm M x.e))))
def oK (M:iO)(x:kL):List PV:=(iL M x.before++(iL M x.after++([.sl 17 (M.m gX (lq M) x.nN) false,.sl 17 (M.m gX (lq M) x.oV) false]++(jm M x.e))))
def Xd:kL:=kL.mk Sm Sm ([]) ([]) Ja
def vJ (n:Int)(least:Int)(most:Int):Option Bool :=
 br (decide (least<=n)) (some (decide (n<=most)))
 (some false)
def OG (p:Qm Int)(s1:Int)(k2:Int->Option Bool):Option Bool :=
 br (decide (s1<6)) (jn (λs4:Bool =>
 br s4 (some false)
 (k2 (iI s1 1))) λk5 =>
 qR s1 6 λj7=>(match j7 with|0=>(br (decide (p.a0<0)) (k5 true) (qR s1 6 λj8=>(match j8 with|0=>(k5 (decide (1000000<p.a0)))  | 1=>(k5 (decide (1000000<p.a1)))  | 2=>(k5 (decide (1000000<p.a2)))  | 3=>(k5 (decide (1000000<p.a3)))  | 4=>(k5 (decide (1000000<p.a4)))  | _=>(k5 (decide (1000000<p.a5))) )))  | 1=>(br (decide (p.a1<0)) (k5 true) (qR s1 6 λj9=>(match j9 with|0=>(k5 (decide (1000000<p.a0)))  | 1=>(k5 (decide (1000000<p.a1)))  | 2=>(k5 (decide (1000000<p.a2)))  | 3=>(k5 (decide (1000000<p.a3)))  | 4=>(k5 (decide (1000000<p.a4)))  | _=>(k5 (decide (1000000<p.a5))) )))  | 2=>(br (decide (p.a2<0)) (k5 true) (qR s1 6 λj10=>(match j10 with|0=>(k5 (decide (1000000<p.a0)))  | 1=>(k5 (decide (1000000<p.a1)))  | 2=>(k5 (decide (1000000<p.a2)))  | 3=>(k5 (decide (1000000<p.a3)))  | 4=>(k5 (decide (1000000<p.a4)))  | _=>(k5 (decide (1000000<p.a5))) )))  | 3=>(br (decide (p.a3<0)) (k5 true) (qR s1 6 λj11=>(match j11 with|0=>(k5 (decide (1000000<p.a0)))  | 1=>(k5 (decide (1000000<p.a1)))  | 2=>(k5 (decide (1000000<p.a2)))  | 3=>(k5 (decide (1000000<p.a3)))  | 4=>(k5 (decide (1000000<p.a4)))  | _=>(k5 (decide (1000000<p.a5))) )))  | 4=>(br (decide (p.a4<0)) (k5 true) (qR s1 6 λj12=>(match j12 with|0=>(k5 (decide (1000000<p.a0)))  | 1=>(k5 (decide (1000000<p.a1)))  | 2=>(k5 (decide (1000000<p.a2)))  | 3=>(k5 (decide (1000000<p.a3)))  | 4=>(k5 (decide (1000000<p.a4)))  | _=>(k5 (decide (1000000<p.a5))) )))  | _=>(br (decide (p.a5<0)) (k5 true) (qR s1 6 λj13=>(match j13 with|0=>(k5 (decide (1000000<p.a0)))  | 1=>(k5 (decide (1000000<p.a1)))  | 2=>(k5 (decide (1000000<p.a2)))  | 3=>(k5 (decide (1000000<p.a3)))  | 4=>(k5 (decide (1000000<p.a4)))  | _=>(k5 (decide (1000000<p.a5))) ))) ))
 (some true)
def Le (p:Qm Int):Option Bool :=
 ig (OG p) 0
def OH (s:gW)(id:Int)(s1:Int)(k2:Int->Option Int):Option Int :=
 br (decide (s1<(ik s.objects))) (bnd (jS s.objects s1) λx4 =>
 br (decide (x4.id=id)) (some s1)
 (k2 (iI s1 1)))
 (some (-1))
def Lh (s:gW)(id:Int):Option Int :=
 ig (OH s id) 0
def OI (s:gW)(id:Int):Option (iy×Bool) :=
 bnd (Lh s id) λy1 =>
 br (decide (y1<0)) (some (CV,false))
 (bnd (jS s.objects y1) λx2 =>
 some (x2,true))
def E8 (s:gW)(id:Int):Option (iy×Bool) :=
 bnd (OI s id) λy1 =>
 some (y1.1,y1.2)
def OJ (l:List Int)(n:Int)(s1:Int×Int)(k2:(Int×Int)->Option Int):Option Int :=
 br (decide (s1.2<(ik l))) (jn (λs4:Int =>
 k2 (s4,(iI s1.2 1))) λk5 =>
 bnd (jS l s1.2) λx7 =>
 br (decide (x7=n)) (k5 (iI s1.1 1))
 (k5 s1.1))
 (some s1.1)
def ED (l:List Int)(n:Int):Option Int :=
 ig (OJ l n) (0,0)
def Q9 (s:gW)(l:List Int)(jB:Int)(owner:Int)(s1:Int)(k2:Int->Option Bool):Option Bool :=
 br (decide (s1<(ik l))) (bnd (jS l s1) λx4 =>
 bnd (E8 s x4) λy5 =>
 jn (λs6:Bool =>
 br s6 (some false)
 (k2 (iI s1 1))) λk7 =>
 br (y5.2==false) (k7 true)
 (br (!decide (y5.1.jB=jB)) (k7 true)
 (br (decide (0<=owner)) (br (!decide (y5.1.owner=owner)) (k7 true)
 (bnd (jS l s1) λx9 =>
 bnd (ED l x9) λy10 =>
 k7 (!decide (y10=1))))
 (bnd (jS l s1) λx11 =>
 bnd (ED l x11) λy12 =>
 k7 (!decide (y12=1))))))
 (some true)
def CX (s:gW)(l:List Int)(jB:Int)(owner:Int):Option Bool :=
 ig (Q9 s l jB owner) 0
def Ac (s:gW)(s2:Int)(k3:Int->Option Bool):Option Bool :=
 br (decide (s2<(ik s.gU))) (bnd (jS s.gU s2) λx5 =>
 jn (λs6:Bool =>
 br s6 (some false)
 (jn (λs13:Bool =>
 br s13 (some false)
 (k3 (iI s2 1))) λk14 =>
 bnd (CX s x5.library 2 s2) λy16 =>
 br (y16==false) (k14 true)
 (bnd (CX s x5.hand 1 s2) λy17 =>
 br (y17==false) (k14 true)
 (bnd (CX s x5.BC 3 s2) λy18 =>
 k14 (y18==false))))) λk7 =>
 bnd (vJ x5.life (-1000000) 1000000) λy9 =>
 br (y9==false) (k7 true)
 (bnd (vJ x5.YO 0 1000000) λy10 =>
 br (y10==false) (k7 true)
 (bnd (vJ x5.lands 0 1000000) λy11 =>
 br (y11==false) (k7 true)
 (bnd (Le x5.pool) λy12 =>
 k7 (y12==false)))))
 (bnd (CX s s.jk 0 (-1)) λy19 =>
 br y19 (bnd (CX s s.qZ 4 (-1)) λy20 =>
 some y20)
 (some false))
def zu (s:gW):Option Bool :=
 bnd (vJ (ik s.gU) 2 4) λy1 =>
 br (y1==false) (some false)
 (ig (Ac s) 0)
def ug (s:gW)(p:Int):Option Bool :=
 bnd (vJ p 0 (pF (ik s.gU) 1)) λy1 =>
 some y1
def VF (c:Oy Int)(s1:Int)(k2:Int->Option Bool):Option Bool :=
 br (decide (s1<3)) (jn (λs4:Bool =>
 br s4 (some false)
 (k2 (iI s1 1))) λk5 =>
 qR s1 3 λj7=>(match j7 with|0=>(br (decide (c.a0<0)) (k5 true) (qR s1 3 λj8=>(match j8 with|0=>(k5 (decide (1000000<c.a0)))  | 1=>(k5 (decide (1000000<c.a1)))  | _=>(k5 (decide (1000000<c.a2))) )))  | 1=>(br (decide (c.a1<0)) (k5 true) (qR s1 3 λj9=>(match j9 with|0=>(k5 (decide (1000000<c.a0)))  | 1=>(k5 (decide (1000000<c.a1)))  | _=>(k5 (decide (1000000<c.a2))) )))  | _=>(br (decide (c.a2<0)) (k5 true) (qR s1 3 λj10=>(match j10 with|0=>(k5 (decide (1000000<c.a0)))  | 1=>(k5 (decide (1000000<c.a1)))  | _=>(k5 (decide (1000000<c.a2))) ))) ))
 (some true)
def Xe (c:Oy Int):Option Bool :=
 ig (VF c) 0
def OL (o:iy):Option iy :=
 some { o with Du:=(-1),blocked:=false,blocks:=0 }
def Lj (o:iy):Option iy :=
 some { o with deadly:=false,EX:=0,BD:=0 }
def Nw (o:iy)(cards:Int)(gU:Int):Option Bool :=
 jn (λs1:Bool =>
 br s1 (some false)
 (jn (λs4:Bool =>
 br s4 (some false)
 (jn (λs7:Bool =>
 br s7 (some false)
 (br (decide (o.jB=0)) (some true)
 (bnd (OL o) λy11 =>
 lt (decide (o.id=y11.id)&&(decide (o.card=y11.card)&&(decide (o.owner=y11.owner)&&(decide (o.control=y11.control)&&(decide (o.jB=y11.jB)&&(o.token==y11.token&&(o.qg==y11.qg&&(o.aae==y11.aae&&(o.deadly==y11.deadly&&(decide (o.EX=y11.EX)&&(decide (o.counters.a0=y11.counters.a0)&&(decide (o.counters.a1=y11.counters.a1)&&(decide (o.counters.a2=y11.counters.a2)&&(decide (o.stamp=y11.stamp)&&(decide (o.copy=y11.copy)&&(decide (o.Du=y11.Du)&&(o.blocked==y11.blocked&&(decide (o.blocks=y11.blocks)&&(decide (o.BD=y11.BD)&&true))))))))))))))))))) λv12 =>
 br v12 (bnd (Lj o) λy13 =>
 lt (decide (o.id=y13.id)&&(decide (o.card=y13.card)&&(decide (o.owner=y13.owner)&&(decide (o.control=y13.control)&&(decide (o.jB=y13.jB)&&(o.token==y13.token&&(o.qg==y13.qg&&(o.aae==y13.aae&&(o.deadly==y13.deadly&&(decide (o.EX=y13.EX)&&(decide (o.counters.a0=y13.counters.a0)&&(decide (o.counters.a1=y13.counters.a1)&&(decide (o.counters.a2=y13.counters.a2)&&(decide (o.stamp=y13.stamp)&&(decide (o.copy=y13.copy)&&(decide (o.Du=y13.Du)&&(o.blocked==y13.blocked&&(decide (o.blocks=y13.blocks)&&(decide (o.BD=y13.BD)&&true))))))))))))))))))) λv14 =>
 br v14 (br (o.qg==false) (br (o.aae==false) (lt (decide (o.counters.a0=0)&&(decide (o.counters.a1=0)&&(decide (o.counters.a2=0)&&true))) λv15 =>
 some v15)
 (some false))
 (some false))
 (some false))
 (some false)))) λk8 =>
 bnd (Xe o.counters) λy10 =>
 br (y10==false) (k8 true)
 (br (decide (o.copy<(-1))) (k8 true)
 (br (decide (cards<=o.copy)) (k8 true)
 (br (decide (o.Du<(-1))) (k8 true)
 (k8 (decide (gU<=o.Du)))))))) λk5 =>
 br (decide (o.EX<0)) (k5 true)
 (br (decide (1000000<o.EX)) (k5 true)
 (br (decide (o.stamp<0)) (k5 true)
 (br (decide (1000000<o.stamp)) (k5 true)
 (br (decide (o.blocks<0)) (k5 true)
 (br (decide (1000000<o.blocks)) (k5 true)
 (br (decide (o.BD<0)) (k5 true)
 (k5 (decide (1000000<o.BD))))))))))) λk2 =>
 br (decide (o.id<1)) (k2 true)
 (br (decide (o.card<0)) (k2 true)
 (br (decide (cards<=o.card)) (k2 true)
 (br (decide (o.owner<0)) (k2 true)
 (br (decide (gU<=o.owner)) (k2 true)
 (br (decide (o.control<0)) (k2 true)
 (br (decide (gU<=o.control)) (k2 true)
 (br (decide (o.jB<0)) (k2 true)
 (k2 (decide (5<o.jB))))))))))
def L9 (s:gW)(id:Int)(s1:Int×Int)(k2:(Int×Int)->Option Int):Option Int :=
 br (decide (s1.2<(ik s.stack))) (jn (λs4:Int =>
 k2 (s4,(iI s1.2 1))) λk5 =>
 jn (λs7:Bool =>
 br s7 (k5 (iI s1.1 1))
 (k5 s1.1)) λk8 =>
 bnd (jS s.stack s1.2) λx10 =>
 br (decide (x10.kind=1)) (bnd (jS s.stack s1.2) λx11 =>
 k8 (decide (x11.id=id)))
 (k8 false))
 (some s1.1)
def Jd (s:gW)(id:Int):Option Int :=
 ig (L9 s id) (0,0)
def CY (l:List Int):Option (List Int) :=
 kT (0+l.length) 8 (
 some l)
def OM (s:gW)(jB:Int)(kE:Int):Option (List Int) :=
 br (decide (jB=0)) (bnd (CY s.jk) λy1 =>
 some y1)
 (br (decide (jB=4)) (bnd (CY s.qZ) λy2 =>
 some y2)
 (jn (λs3:Bool =>
 br s3 (some ([]))
 (br (decide (jB=1)) (bnd (jS s.gU kE) λx6 =>
 bnd (CY x6.hand) λy7 =>
 some y7)
 (br (decide (jB=2)) (bnd (jS s.gU kE) λx8 =>
 bnd (CY x8.library) λy9 =>
 some y9)
 (br (decide (jB=3)) (bnd (jS s.gU kE) λx10 =>
 bnd (CY x10.BC) λy11 =>
 some y11)
 (some ([])))))) λk4 =>
 br (decide (kE<0)) (k4 true)
 (k4 (decide ((ik s.gU)<=kE)))))
def Je (s:gW)(o:iy):Option Bool :=
 br (decide (o.jB=5)) (bnd (Jd s o.id) λy1 =>
 some (decide (y1=1)))
 (bnd (OM s o.jB o.owner) λy2 =>
 bnd (ED y2 o.id) λy3 =>
 some (decide (y3=1)))
def uD (cards:List jc)(s:gW)(s1:Int)(k2:Int->Option Bool):Option Bool :=
 br (decide (s1<(ik s.objects))) (bnd (jS s.objects s1) λx4 =>
 jn (λs5:Bool =>
 br s5 (some false)
 (bnd (Je s x4) λy10 =>
 br (y10==false) (some false)
 (k2 (iI s1 1)))) λk6 =>
 bnd (Nw x4 (ik cards) (ik s.gU)) λy8 =>
 br (y8==false) (k6 true)
 (br (decide (s.nextId<=x4.id)) (k6 true)
 (br (decide (s.lF<=x4.stamp)) (k6 true)
 (br (decide (0<s1)) (bnd (jS s.objects (pF s1 1)) λx9 =>
 k6 (decide (x4.id<=x9.id)))
 (k6 false)))))
 (some true)
def tq (cards:List jc)(s:gW):Option Bool :=
 br (decide (2048<(ik s.objects))) (some false)
 (ig (uD cards s) 0)
def OO (c:Int):Option Bool :=
 br (decide (97<=c)) (some (decide (c<=122)))
 (some false)
def VG (s:ByteArray)(s7:Int)(k8:Int->Option Bool):Option Bool :=
 br (decide (s7<(s.size:Int))) (jn (λs10:Bool =>
 br s10 (some false)
 (jn (λs19:Bool =>
 br s19 (some false)
 (k8 (iI s7 1))) λk20 =>
 br (decide (0<s7)) (bnd (kY s s7) λx22 =>
 br (decide (x22=45)) (bnd (kY s (pF s7 1)) λx23 =>
 k20 (decide (x23=45)))
 (k20 false))
 (k20 false))) λk11 =>
 bnd (kY s s7) λx13 =>
 bnd (OO x13) λy14 =>
 br (y14==false) (bnd (kY s s7) λx15 =>
 br (decide (x15<48)) (bnd (kY s s7) λx16 =>
 k11 (!decide (x16=45)))
 (bnd (kY s s7) λx17 =>
 br (decide (57<x17)) (bnd (kY s s7) λx18 =>
 k11 (!decide (x18=45)))
 (k11 false)))
 (k11 false))
 (some true)
def Qr (s:ByteArray):Option Bool :=
 jn (λs1:Bool =>
 br s1 (some false)
 (ig (VG s) 0)) λk2 =>
 br (decide ((s.size:Int)<1)) (k2 true)
 (br (decide (32<(s.size:Int))) (k2 true)
 (bnd (kY s 0) λx4 =>
 bnd (OO x4) λy5 =>
 br (y5==false) (k2 true)
 (bnd (kY s (pF (s.size:Int) 1)) λx6 =>
 k2 (decide (x6=45)))))
def OQ (l:List ByteArray)(s:ByteArray)(s1:Int)(k2:Int->Option Int):Option Int :=
 br (decide (s1<(ik l))) (bnd (jS l s1) λx4 =>
 br (jf .eql x4 s) (some s1)
 (k2 (iI s1 1)))
 (some (-1))
def Io (l:List ByteArray)(s:ByteArray):Option Int :=
 ig (OQ l s) 0
def Ad  : Option (List ByteArray) :=
 some ([(bs [98,97,115,105,99]),(bs [117,110,105,113,117,101])])
def yC  : Option (List ByteArray) :=
 some ([(bs [99,114,101,97,116,117,114,101]),(bs [105,110,115,116,97,110,116]),(bs [114,105,116,117,97,108]),(bs [114,101,108,105,99]),(bs [99,104,97,114,109]),(bs [108,97,110,100])])
def BG (s:ByteArray):Option Bool :=
 bnd (Qr s) λy1 =>
 br y1 (bnd (Ad) λy2 =>
 bnd (Io y2 s) λy3 =>
 br (decide (y3<0)) (bnd (yC) λy4 =>
 bnd (Io y4 s) λy5 =>
 some (decide (y5<0)))
 (some false))
 (some false)
def OT  (s4:Int×Int×Int)(k5:(Int×Int×Int)->Option Bool):Option Bool :=
 br (decide (s4.2.2<6)) (jn (λs7:Bool =>
 br s7 (some false)
 (bnd (divO .quo .i64 s4.1 2) λx12 =>
 bnd (divO .quo .i64 s4.2.1 2) λx13 =>
 k5 (x12,x13,(iI s4.2.2 1)))) λk8 =>
 bnd (divO .rem .i64 s4.1 2) λx10 =>
 br (decide (x10=1)) (bnd (divO .rem .i64 s4.2.1 2) λx11 =>
 k8 (decide (x11=1)))
 (k8 false))
 (some true)
def Ip (a:Int)(b:Int)(most:Int):Option Bool :=
 jn (λs1:Bool =>
 br s1 (some false)
 (ig (OT) (a,b,0))) λk2 =>
 br (decide (a<0)) (k2 true)
 (br (decide (most<a)) (k2 true)
 (br (decide (b<0)) (k2 true)
 (k2 (decide (most<b)))))
def EE (b:vI):Option Bool :=
 jn (λs1:Bool =>
 br s1 (some false)
 (br (!decide (b.kind=0)) (some true)
 (some (decide (b.n=0))))) λk2 =>
 br (decide (b.kind<0)) (k2 true)
 (br (decide (3<b.kind)) (k2 true)
 (br (decide (b.n<0)) (k2 true)
 (k2 (decide (1000000<b.n)))))
def Dx (f:kD):Option Bool :=
 jn (λs1:Bool =>
 br s1 (some false)
 (jn (λs4:Bool =>
 br s4 (some false)
 (jn (λs9:Bool =>
 br s9 (some false)
 (bnd (EE f.power) λy13 =>
 br y13 (bnd (EE f.ji) λy14 =>
 br y14 (bnd (EE f.value) λy15 =>
 some y15)
 (some false))
 (some false))) λk10 =>
 br (jf .neq f.sub (bs [])) (bnd (BG f.sub) λy12 =>
 br (y12==false) (k10 true)
 (br (decide (f.keys<0)) (k10 true)
 (k10 (decide (131071<f.keys)))))
 (br (decide (f.keys<0)) (k10 true)
 (k10 (decide (131071<f.keys)))))) λk5 =>
 bnd (Ip f.types f.jH 63) λy7 =>
 br (y7==false) (k5 true)
 (bnd (Ip f.kz f.jl 31) λy8 =>
 k5 (y8==false)))) λk2 =>
 br (decide (f.jB<0)) (k2 true)
 (br (decide (5<f.jB)) (k2 true)
 (br (decide (f.who<0)) (k2 true)
 (br (decide (2<f.who)) (k2 true)
 (br (decide (f.self<0)) (k2 true)
 (br (decide (2<f.self)) (k2 true)
 (br (decide (f.BX<0)) (k2 true)
 (k2 (decide (2<f.BX)))))))))
def OU (m:nC):Option nC :=
 br (decide (m.kind=2)) (some { m with kind:=0,n:=0 })
 (br (decide (m.kind=3)) (some { m with kind:=0,n:=0 })
 (br (decide (m.kind=6)) (some { m with kind:=0,n:=0 })
 (br (decide (m.kind=7)) (some { m with kind:=0,n:=0 })
 (br (decide (m.kind=8)) (some { m with kind:=0,n:=0 })
 (br (decide (m.kind=9)) (some { m with kind:=0,n:=0 })
 (br (decide (m.kind=4)) (some { m with kind:=0,sub:=(bs []) })
 (br (decide (m.kind=5)) (some { m with kind:=0,sub:=(bs []) })
 (br (decide (m.kind=11)) (some { m with kind:=0,filter:=lM })
 (br (decide (m.kind=12)) (some (nC.mk 0 0 0 m.sub m.filter))
 (br (decide (m.kind=13)) (some (nC.mk 0 0 0 m.sub m.filter))
 (some { m with kind:=0 })))))))))))
def Iq (mask:Int):Option Bool :=
 br (decide (1<=mask)) (br (decide (mask<=63)) (some (decide ((nK .and .i64 mask 6)=0)))
 (some false))
 (some false)
def Ui (m:nC):Option Bool :=
 jn (λs1:Bool =>
 br s1 (some false)
 (br (decide (m.kind=2)) (bnd (Iq m.n) λy6 =>
 some y6)
 (br (decide (m.kind=3)) (bnd (Iq m.n) λy7 =>
 some y7)
 (br (decide (m.kind=4)) (bnd (BG m.sub) λy8 =>
 some y8)
 (br (decide (m.kind=5)) (bnd (BG m.sub) λy9 =>
 some y9)
 (br (decide (m.kind=6)) (br (decide (0<=m.n)) (some (decide (m.n<=31)))
 (some false))
 (br (decide (m.kind=7)) (br (decide (1<=m.n)) (some (decide (m.n<=31)))
 (some false))
 (br (decide (m.kind=8)) (br (decide (1<=m.n)) (some (decide (m.n<=131071)))
 (some false))
 (br (decide (m.kind=9)) (br (decide (1<=m.n)) (some (decide (m.n<=131071)))
 (some false))
 (br (decide (m.kind=11)) (bnd (Dx m.filter) λy10 =>
 some y10)
 (br (decide (m.kind=12)) (br (decide (0<=m.n)) (br (decide (m.n<=99)) (br (decide (0<=m.m)) (some (decide (m.m<=99)))
 (some false))
 (some false))
 (some false))
 (br (decide (m.kind=13)) (br (decide ((-99)<=m.n)) (br (decide (m.n<=99)) (br (decide ((-99)<=m.m)) (some (decide (m.m<=99)))
 (some false))
 (some false))
 (some false))
 (some true))))))))))))) λk2 =>
 br (decide (m.kind<1)) (k2 true)
 (br (decide (14<m.kind)) (k2 true)
 (bnd (OU m) λy4 =>
 lt ((decide (y4.kind=0)&&(decide (y4.n=0)&&(decide (y4.m=0)&&(jf .eql y4.sub (bs [])&&(decide (y4.filter.jB=0)&&(decide (y4.filter.who=0)&&(decide (y4.filter.self=0)&&(decide (y4.filter.types=0)&&(decide (y4.filter.jH=0)&&(decide (y4.filter.kz=0)&&(decide (y4.filter.jl=0)&&(jf .eql y4.filter.sub (bs [])&&(decide (y4.filter.keys=0)&&(decide (y4.filter.BX=0)&&(decide (y4.filter.power.kind=0)&&(decide (y4.filter.power.n=0)&&(decide (y4.filter.ji.kind=0)&&(decide (y4.filter.ji.n=0)&&(decide (y4.filter.value.kind=0)&&(decide (y4.filter.value.n=0)&&true))))))))))))))))))))==false) λv5 =>
 k2 v5))
def Uj (i:Int)(s1:Int×Int)(k2:(Int×Int)->Option Bool):Option Bool :=
 br (decide (s1.2<i)) (bnd (divO .quo .i64 s1.1 2) λx4 =>
 k2 (x4,(iI s1.2 1)))
 (bnd (divO .rem .i64 s1.1 2) λx5 =>
 some (decide (x5=1)))
def Ll (mask:Int)(i:Int):Option Bool :=
 ig (Uj i) (mask,0)
def G7 (l:List ByteArray)(mask:Int)(pby:ByteArray)(s1:ByteArray×Int)(k2:(ByteArray×Int)->Option ByteArray):Option ByteArray :=
 br (decide (s1.2<(ik l))) (jn (λs4:ByteArray =>
 k2 (s4,(iI s1.2 1))) λk5 =>
 bnd (Ll mask s1.2) λy7 =>
 br y7 (jn (λs8:ByteArray =>
 bnd (jS l s1.2) λx12 =>
 bnd (jR s8 x12) λx13 =>
 k5 x13) λk9 =>
 br (jf .neq s1.1 (bs [])) (bnd (jR s1.1 pby) λx11 =>
 k9 x11)
 (k9 s1.1))
 (k5 s1.1))
 (some s1.1)
def Jf (l:List ByteArray)(mask:Int)(pby:ByteArray):Option ByteArray :=
 ig (G7 l mask pby) ((bs []),0)
def wz (mask:Int):Option ByteArray :=
 br (decide (mask<1)) (some (bs []))
 (br (decide (63<mask)) (some (bs []))
 (bnd (yC) λy1 =>
 bnd (Jf y1 mask (bs [43])) λy2 =>
 some y2))
def Xf (mask:Int):Option Bool :=
 br (decide (0<=mask)) (some (decide (mask<=31)))
 (some false)
def Ir (i:Int):Option ByteArray :=
 br (decide (i=0)) (some (bs [97,109,98,101,114]))
 (br (decide (i=1)) (some (bs [99,111,98,97,108,116]))
 (br (decide (i=2)) (some (bs [106,101,116]))
 (br (decide (i=3)) (some (bs [114,117,98,121]))
 (br (decide (i=4)) (some (bs [101,109,101,114,97,108,100]))
 (some (bs []))))))
def J3 (mask:Int)(s2:ByteArray×Int)(k3:(ByteArray×Int)->Option ByteArray):Option ByteArray :=
 br (decide (s2.2<5)) (jn (λs5:ByteArray =>
 k3 (s5,(iI s2.2 1))) λk6 =>
 bnd (lu .shl .i64 1 s2.2) λx8 =>
 bnd (divO .quo .i64 mask x8) λx9 =>
 bnd (divO .rem .i64 x9 2) λx10 =>
 br (decide (x10=1)) (jn (λs11:ByteArray =>
 bnd (Ir s2.2) λy15 =>
 bnd (jR s11 y15) λx16 =>
 k6 x16) λk12 =>
 br (jf .neq s2.1 (bs [])) (bnd (jR s2.1 (bs [43])) λx14 =>
 k12 x14)
 (k12 s2.1))
 (k6 s2.1))
 (some s2.1)
def J4 (mask:Int):Option ByteArray :=
 bnd (Xf mask) λy1 =>
 br (y1==false) (some (bs []))
 (br (decide (mask=0)) (some (bs [110,111,110,101]))
 (ig (J3 mask) ((bs []),0)))
def Ny (mask:Int):Option Bool :=
 br (decide (0<=mask)) (some (decide (mask<=131071)))
 (some false)
def Lm  : Option (List ByteArray) :=
 some ([(bs [102,108,121,105,110,103]),(bs [114,101,97,99,104]),(bs [104,97,115,116,101]),(bs [118,105,103,105,108,97,110,116]),(bs [116,114,97,109,112,108,101]),(bs [102,105,114,115,116,45,115,116,114,105,107,101]),(bs [100,111,117,98,108,101,45,115,116,114,105,107,101]),(bs [100,101,97,100,108,121]),(bs [108,105,102,101,108,105,110,107]),(bs [109,101,110,97,99,101]),(bs [100,101,102,101,110,100,101,114]),(bs [119,97,114,100,101,100]),(bs [115,116,117,114,100,121]),(bs [101,108,117,115,105,118,101]),(bs [110,111,45,97,116,116,97,99,107]),(bs [110,111,45,98,108,111,99,107]),(bs [109,117,115,116,45,97,116,116,97,99,107])])
def J5 (i:Int):Option ByteArray :=
 br (decide (i<0)) (some (bs []))
 (br (decide (16<i)) (some (bs []))
 (bnd (Lm) λy1 =>
 bnd (jS y1 i) λx2 =>
 some x2))
def Rf  (s2:Int×ByteArray×Int)(k3:(Int×ByteArray×Int)->Option ByteArray):Option ByteArray :=
 br (decide (s2.2.2<17)) (jn (λs5:Int×ByteArray =>
 k3 (s5.1,s5.2,(iI s2.2.2 1))) λk6 =>
 jn (λs8:ByteArray =>
 bnd (divO .quo .i64 s2.1 2) λx18 =>
 k6 (x18,s8)) λk9 =>
 bnd (divO .rem .i64 s2.1 2) λx11 =>
 br (decide (x11=1)) (jn (λs12:ByteArray =>
 bnd (J5 s2.2.2) λy16 =>
 bnd (jR s12 y16) λx17 =>
 k9 x17) λk13 =>
 br (jf .neq s2.2.1 (bs [])) (bnd (jR s2.2.1 (bs [43])) λx15 =>
 k13 x15)
 (k13 s2.2.1))
 (k9 s2.2.1))
 (br (jf .eql s2.2.1 (bs [])) (some (bs [110,111,110,101]))
 (some s2.2.1))
def J6 (mask:Int):Option ByteArray :=
 bnd (Ny mask) λy1 =>
 br (y1==false) (some (bs []))
 (ig (Rf) (mask,(bs []),0))
def BZ  : Option (List ByteArray) :=
 some ([(bs []),(bs [105,110,45,104,97,110,100]),(bs [105,110,45,108,105,98,114,97,114,121]),(bs [105,110,45,103,114,97,118,101,121,97,114,100]),(bs [105,110,45,101,120,105,108,101]),(bs [111,110,45,115,116,97,99,107])])
def Ea  : Option (List ByteArray) :=
 some ([(bs []),(bs [121,111,117,114,115]),(bs [116,104,101,105,114,115])])
def Cb  : Option (List ByteArray) :=
 some ([(bs []),(bs [115,101,108,102]),(bs [111,116,104,101,114])])
def Eb  : Option (List ByteArray) :=
 some ([(bs []),(bs [116,97,112,112,101,100]),(bs [117,110,116,97,112,112,101,100])])
def Cc (l:List ByteArray)(s:ByteArray):Option (List ByteArray) :=
 br (jf .eql s (bs [])) (some l)
 (kT (l.length+([s]).length) 16 (
 some (l++[s])))
def Uk (i:Int)(s1:Int×Int)(k2:(Int×Int)->Option Bool):Option Bool :=
 br (decide (s1.2<i)) (bnd (divO .quo .i64 s1.1 2) λx4 =>
 k2 (x4,(iI s1.2 1)))
 (bnd (divO .rem .i64 s1.1 2) λx5 =>
 some (decide (x5=1)))
def Gl (mask:Int)(i:Int):Option Bool :=
 ig (Uk i) (mask,0)
def Ju (i:Int)(s1:Int×Int)(k2:(Int×Int)->Option ByteArray):Option ByteArray :=
 br (decide (s1.2<i)) (k2 ((WN s1.1 2),(iI s1.2 1)))
 (bnd (wz s1.1) λy4 =>
 some y4)
def Ae (i:Int):Option ByteArray :=
 ig (Ju i) (1,0)
def G8  (s4:Int×ByteArray)(k5:(Int×ByteArray)->Option ByteArray):Option ByteArray :=
 br (decide (0<s4.1)) (bnd (divO .rem .u64 s4.1 10) λx7 =>
 bnd (l9 ([(IntKind.wrap .u8 (nK .add .u64 48 x7))])) λx8 =>
 bnd (jR x8 s4.2) λx9 =>
 bnd (divO .quo .u64 s4.1 10) λx10 =>
 k5 (x10,x9))
 (some s4.2)
def BH (u:Int):Option ByteArray :=
 bnd (divO .rem .u64 u 10) λx1 =>
 bnd (l9 ([(IntKind.wrap .u8 (nK .add .u64 48 x1))])) λx2 =>
 bnd (divO .quo .u64 u 10) λx3 =>
 ig (G8) (x3,x2)
def Af (n:Int):Option ByteArray :=
 br (decide (n<0)) (bnd (BH (IntKind.wrap .u64 (0-(IntKind.wrap .u64 n)))) λy1 =>
 bnd (jR (bs [45]) y1) λx2 =>
 some x2)
 (bnd (BH (IntKind.wrap .u64 n)) λy3 =>
 some y3)
def Lp  : Option (List ByteArray) :=
 some ([(bs []),(bs [62,61]),(bs [60,61]),(bs [61])])
def wB (name:ByteArray)(b:vI):Option ByteArray :=
 br (decide (b.kind=0)) (some (bs []))
 (bnd (Lp) λy1 =>
 bnd (jS y1 b.kind) λx2 =>
 bnd (jR name x2) λx3 =>
 bnd (Af b.n) λy4 =>
 bnd (jR x3 y4) λx5 =>
 some x5)
def J7 (l:List ByteArray)(pby:ByteArray)(s1:ByteArray×Int)(k2:(ByteArray×Int)->Option ByteArray):Option ByteArray :=
 br (decide (s1.2<(ik l))) (jn (λs4:ByteArray =>
 k2 (s4,(iI s1.2 1))) λk5 =>
 jn (λs7:ByteArray =>
 bnd (jS l s1.2) λx11 =>
 bnd (jR s7 x11) λx12 =>
 k5 x12) λk8 =>
 br (decide (0<s1.2)) (bnd (jR s1.1 pby) λx10 =>
 k8 x10)
 (k8 s1.1))
 (some s1.1)
def OV (l:List ByteArray)(pby:ByteArray):Option ByteArray :=
 ig (J7 l pby) ((bs []),0)
def Gm (f:kD)(y5:List ByteArray)(s50:Int×(List ByteArray))(k51:(Int×(List ByteArray))->Option ByteArray):Option ByteArray :=
 br (decide (s50.1<17)) (jn (λs53:(List ByteArray) =>
 k51 ((iI s50.1 1),s53)) λk54 =>
 bnd (Gl f.keys s50.1) λy56 =>
 br y56 (bnd (J5 s50.1) λy57 =>
 bnd (jR (bs [119,105,116,104,58]) y57) λx58 =>
 kT (s50.2.length+([x58]).length) 16 (
 k54 (s50.2++[x58])))
 (k54 s50.2))
 (bnd (jS y5 f.BX) λx59 =>
 bnd (Cc s50.2 x59) λy60 =>
 bnd (wB (bs [112,111,119,101,114]) f.power) λy61 =>
 bnd (Cc y60 y61) λy62 =>
 bnd (wB (bs [116,111,117,103,104]) f.ji) λy63 =>
 bnd (Cc y62 y63) λy64 =>
 bnd (wB (bs [118,97,108,117,101]) f.value) λy65 =>
 bnd (Cc y64 y65) λy66 =>
 br (decide ((ik y66)=0)) (some (bs [97,110,121]))
 (bnd (OV y66 (bs [32])) λy67 =>
 some y67))
def Gn (f:kD)(y5:List ByteArray)(s37:Int×(List ByteArray))(k38:(Int×(List ByteArray))->Option ByteArray):Option ByteArray :=
 br (decide (s37.1<5)) (jn (λs40:(List ByteArray) =>
 k38 ((iI s37.1 1),s40)) λk41 =>
 bnd (Gl f.jl s37.1) λy43 =>
 br y43 (bnd (Ir s37.1) λy44 =>
 bnd (jR (bs [110,111,110,45]) y44) λx45 =>
 kT (s37.2.length+([x45]).length) 16 (
 k41 (s37.2++[x45])))
 (k41 s37.2))
 (jn (λs46:(List ByteArray) =>
 ig (Gm f y5) (0,s46)) λk47 =>
 br (jf .neq f.sub (bs [])) (bnd (jR (bs [115,117,98,58]) f.sub) λx49 =>
 kT (s37.2.length+([x49]).length) 16 (
 k47 (s37.2++[x49])))
 (k47 s37.2))
def Gp (f:kD)(y5:List ByteArray)(s29:Int×(List ByteArray))(k30:(Int×(List ByteArray))->Option ByteArray):Option ByteArray :=
 br (decide (s29.1<5)) (jn (λs32:(List ByteArray) =>
 k30 ((iI s29.1 1),s32)) λk33 =>
 bnd (Gl f.kz s29.1) λy35 =>
 br y35 (bnd (Ir s29.1) λy36 =>
 kT (s29.2.length+([y36]).length) 16 (
 k33 (s29.2++[y36])))
 (k33 s29.2))
 (ig (Gn f y5) (0,s29.2))
def Gq (f:kD)(y5:List ByteArray)(s20:Int×(List ByteArray))(k21:(Int×(List ByteArray))->Option ByteArray):Option ByteArray :=
 br (decide (s20.1<6)) (jn (λs23:(List ByteArray) =>
 k21 ((iI s20.1 1),s23)) λk24 =>
 bnd (Gl f.jH s20.1) λy26 =>
 br y26 (bnd (Ae s20.1) λy27 =>
 bnd (jR (bs [110,111,110,45]) y27) λx28 =>
 kT (s20.2.length+([x28]).length) 16 (
 k24 (s20.2++[x28])))
 (k24 s20.2))
 (ig (Gp f y5) (0,s20.2))
def Gs (f:kD)(y5:List ByteArray)(s12:Int×(List ByteArray))(k13:(Int×(List ByteArray))->Option ByteArray):Option ByteArray :=
 br (decide (s12.1<6)) (jn (λs15:(List ByteArray) =>
 k13 ((iI s12.1 1),s15)) λk16 =>
 bnd (Gl f.types s12.1) λy18 =>
 br y18 (bnd (Ae s12.1) λy19 =>
 kT (s12.2.length+([y19]).length) 16 (
 k16 (s12.2++[y19])))
 (k16 s12.2))
 (ig (Gq f y5) (0,s12.2))
def J8 (f:kD):Option ByteArray :=
 bnd (Dx f) λy1 =>
 br (y1==false) (some (bs []))
 (bnd (BZ) λy2 =>
 bnd (Ea) λy3 =>
 bnd (Cb) λy4 =>
 bnd (Eb) λy5 =>
 bnd (jS y2 f.jB) λx6 =>
 bnd (Cc ([]) x6) λy7 =>
 bnd (jS y3 f.who) λx8 =>
 bnd (Cc y7 x8) λy9 =>
 bnd (jS y4 f.self) λx10 =>
 bnd (Cc y9 x10) λy11 =>
 ig (Gs f y5) (0,y11))
def OW (m:nC):Option ByteArray :=
 bnd (Ui m) λy1 =>
 br (y1==false) (some (bs []))
 (br (decide (m.kind=1)) (some (bs [99,111,110,116,114,111,108]))
 (br (decide (m.kind=2)) (bnd (wz m.n) λy2 =>
 bnd (jR (bs [116,121,112,101,115,61]) y2) λx3 =>
 some x3)
 (br (decide (m.kind=3)) (bnd (wz m.n) λy4 =>
 bnd (jR (bs [116,121,112,101,115,43,61]) y4) λx5 =>
 some x5)
 (br (decide (m.kind=4)) (bnd (jR (bs [115,117,98,61]) m.sub) λx6 =>
 some x6)
 (br (decide (m.kind=5)) (bnd (jR (bs [115,117,98,43,61]) m.sub) λx7 =>
 some x7)
 (br (decide (m.kind=6)) (bnd (J4 m.n) λy8 =>
 bnd (jR (bs [99,111,108,111,114,115,61]) y8) λx9 =>
 some x9)
 (br (decide (m.kind=7)) (bnd (J4 m.n) λy10 =>
 bnd (jR (bs [99,111,108,111,114,115,43,61]) y10) λx11 =>
 some x11)
 (br (decide (m.kind=8)) (bnd (J6 m.n) λy12 =>
 bnd (jR (bs [107,101,121,115,43,61]) y12) λx13 =>
 some x13)
 (br (decide (m.kind=9)) (bnd (J6 m.n) λy14 =>
 bnd (jR (bs [107,101,121,115,45,61]) y14) λx15 =>
 some x15)
 (br (decide (m.kind=10)) (some (bs [98,108,97,110,107]))
 (br (decide (m.kind=11)) (bnd (J8 m.filter) λy16 =>
 bnd (jR (bs [112,116,61,99,111,117,110,116,40]) y16) λx17 =>
 bnd (jR x17 (bs [41])) λx18 =>
 some x18)
 (br (decide (m.kind=12)) (bnd (Af m.n) λy19 =>
 bnd (jR (bs [112,116,61]) y19) λx20 =>
 bnd (jR x20 (bs [47])) λx21 =>
 bnd (Af m.m) λy22 =>
 bnd (jR x21 y22) λx23 =>
 some x23)
 (br (decide (m.kind=13)) (bnd (Af m.n) λy24 =>
 bnd (jR (bs [112,116,43,61]) y24) λx25 =>
 bnd (jR x25 (bs [47])) λx26 =>
 bnd (Af m.m) λy27 =>
 bnd (jR x26 y27) λx28 =>
 some x28)
 (some (bs [112,116,45,115,119,105,116,99,104])))))))))))))))
def Dy (l:List nC)(s4:ByteArray×Int)(k5:(ByteArray×Int)->Option ByteArray):Option ByteArray :=
 br (decide (s4.2<(ik l))) (jn (λs7:ByteArray =>
 k5 (s7,(iI s4.2 1))) λk8 =>
 bnd (jS l s4.2) λx10 =>
 bnd (Ui x10) λy11 =>
 br (y11==false) (some (bs []))
 (jn (λs12:ByteArray =>
 bnd (jS l s4.2) λx16 =>
 bnd (OW x16) λy17 =>
 bnd (jR s12 y17) λx18 =>
 k8 x18) λk13 =>
 br (decide (0<s4.2)) (bnd (jR s4.1 (bs [44,32])) λx15 =>
 k13 x15)
 (k13 s4.1)))
 (some s4.1)
def xP (l:List nC):Option ByteArray :=
 jn (λs1:Bool =>
 br s1 (some (bs []))
 (ig (Dy l) ((bs []),0))) λk2 =>
 br (decide ((ik l)=0)) (k2 true)
 (k2 (decide (6<(ik l))))
def Qs (c:rG)(s4:Int)(k5:Int->Option Bool):Option Bool :=
 br (decide (s4<5)) (jn (λs7:Bool =>
 br s7 (some false)
 (k5 (iI s4 1))) λk8 =>
 qR s4 5 λj10=>(match j10 with|0=>(br (decide (c.color.a0<0)) (k8 true) (qR s4 5 λj11=>(match j11 with|0=>(k8 (decide (9<c.color.a0)))  | 1=>(k8 (decide (9<c.color.a1)))  | 2=>(k8 (decide (9<c.color.a2)))  | 3=>(k8 (decide (9<c.color.a3)))  | _=>(k8 (decide (9<c.color.a4))) )))  | 1=>(br (decide (c.color.a1<0)) (k8 true) (qR s4 5 λj12=>(match j12 with|0=>(k8 (decide (9<c.color.a0)))  | 1=>(k8 (decide (9<c.color.a1)))  | 2=>(k8 (decide (9<c.color.a2)))  | 3=>(k8 (decide (9<c.color.a3)))  | _=>(k8 (decide (9<c.color.a4))) )))  | 2=>(br (decide (c.color.a2<0)) (k8 true) (qR s4 5 λj13=>(match j13 with|0=>(k8 (decide (9<c.color.a0)))  | 1=>(k8 (decide (9<c.color.a1)))  | 2=>(k8 (decide (9<c.color.a2)))  | 3=>(k8 (decide (9<c.color.a3)))  | _=>(k8 (decide (9<c.color.a4))) )))  | 3=>(br (decide (c.color.a3<0)) (k8 true) (qR s4 5 λj14=>(match j14 with|0=>(k8 (decide (9<c.color.a0)))  | 1=>(k8 (decide (9<c.color.a1)))  | 2=>(k8 (decide (9<c.color.a2)))  | 3=>(k8 (decide (9<c.color.a3)))  | _=>(k8 (decide (9<c.color.a4))) )))  | _=>(br (decide (c.color.a4<0)) (k8 true) (qR s4 5 λj15=>(match j15 with|0=>(k8 (decide (9<c.color.a0)))  | 1=>(k8 (decide (9<c.color.a1)))  | 2=>(k8 (decide (9<c.color.a2)))  | 3=>(k8 (decide (9<c.color.a3)))  | _=>(k8 (decide (9<c.color.a4))) ))) ))
 (some true)
def Nz (c:rG):Option Bool :=
 jn (λs1:Bool =>
 br s1 (some false)
 (ig (Qs c) 0)) λk2 =>
 br (decide (c.generic<0)) (k2 true)
 (br (decide (99<c.generic)) (k2 true)
 (br (decide (c.x<0)) (k2 true)
 (k2 (decide (2<c.x)))))
def Lr (p:I8):Option Bool :=
 bnd (Nz p.Dv) λy1 =>
 br y1 (br (decide (p.Dv.x=0)) (br (decide (0<=p.life)) (some (decide (p.life<=99)))
 (some false))
 (some false))
 (some false)
def J9 (when:Int):Option ByteArray :=
 br (decide (when=1)) (some (bs [101,110,116,101,114,115]))
 (br (decide (when=2)) (some (bs [108,101,97,118,101,115]))
 (br (decide (when=3)) (some (bs [100,105,101,115]))
 (br (decide (when=4)) (some (bs [97,116,116,97,99,107,115]))
 (br (decide (when=5)) (some (bs [98,108,111,99,107,115]))
 (br (decide (when=6)) (some (bs [100,101,97,108,115]))
 (br (decide (when=7)) (some (bs [100,101,97,108,116]))
 (br (decide (when=8)) (some (bs [100,114,97,119,115]))
 (br (decide (when=9)) (some (bs [99,97,115,116,115]))
 (br (decide (when=10)) (some (bs [117,112,107,101,101,112]))
 (br (decide (when=11)) (some (bs [101,110,100]))
 (br (decide (when=12)) (some (bs [103,97,105,110,115]))
 (br (decide (when=13)) (some (bs [108,111,115,101,115]))
 (br (decide (when=14)) (some (bs [112,108,97,99,101,100]))
 (some (bs [])))))))))))))))
def Fa (when:Int):Option Bool :=
 br (decide (when=8)) (some true)
 (br (decide (when=9)) (some true)
 (br (decide (when=10)) (some true)
 (br (decide (when=11)) (some true)
 (br (decide (when=12)) (some true)
 (some (decide (when=13)))))))
def Ce (when:Int):Option Bool :=
 bnd (J9 when) λy1 =>
 br (jf .neq y1 (bs [])) (bnd (Fa when) λy2 =>
 br (y2==false) (some true)
 (some (decide (when=9))))
 (some false)
def Xg (t:xh):Option Bool :=
 jn (λs1:Bool =>
 br s1 (some false)
 (bnd (Ce t.when) λy6 =>
 br (y6==false) (lt (decide (t.filter.jB=0)&&(decide (t.filter.who=0)&&(decide (t.filter.self=0)&&(decide (t.filter.types=0)&&(decide (t.filter.jH=0)&&(decide (t.filter.kz=0)&&(decide (t.filter.jl=0)&&(jf .eql t.filter.sub (bs [])&&(decide (t.filter.keys=0)&&(decide (t.filter.BX=0)&&(decide (t.filter.power.kind=0)&&(decide (t.filter.power.n=0)&&(decide (t.filter.ji.kind=0)&&(decide (t.filter.ji.n=0)&&(decide (t.filter.value.kind=0)&&(decide (t.filter.value.n=0)&&true)))))))))))))))) λv7 =>
 some v7)
 (jn (λs8:Int =>
 bnd (Dx t.filter) λy11 =>
 br y11 (some (decide (t.filter.jB=s8)))
 (some false)) λk9 =>
 br (decide (t.when=9)) (k9 5)
 (k9 0)))) λk2 =>
 bnd (J9 t.when) λy4 =>
 br (jf .eql y4 (bs [])) (k2 true)
 (br (decide (t.who<0)) (k2 true)
 (br (decide (2<t.who)) (k2 true)
 (bnd (Fa t.when) λy5 =>
 br (y5==false) (k2 (!decide (t.who=0)))
 (k2 false))))
def EF (f:kD):Option Bool :=
 bnd (Dx f) λy1 =>
 br y1 (some (decide (f.jB=0)))
 (some false)
def Ls (pr:oQ):Option Bool :=
 jn (λs1:Bool =>
 br s1 (some false)
 (br (decide (pr.doF=5)) (br (decide (pr.n=0)) (br (decide (pr.counter=0)) (br (decide (pr.jB=1)) (some true)
 (br (decide (pr.jB=2)) (some true)
 (some (decide (pr.jB=4)))))
 (some false))
 (some false))
 (br (decide (pr.doF=6)) (br (decide (pr.n=0)) (br (decide (pr.counter=0)) (some (decide (pr.jB=0)))
 (some false))
 (some false))
 (br (decide (pr.doF=7)) (br (decide (pr.jB=0)) (br (decide (1<=pr.n)) (br (decide (pr.n<=99)) (br (decide (0<=pr.counter)) (some (decide (pr.counter<3)))
 (some false))
 (some false))
 (some false))
 (some false))
 (some false))))) λk2 =>
 br (!decide (pr.who=0)) (k2 true)
 (bnd (EF pr.filter) λy4 =>
 k2 (y4==false))
def Lt (pr:oQ):Option Bool :=
 jn (λs1:Bool =>
 br s1 (some false)
 (jn (λs4:Bool =>
 br s4 (br (decide (1<=pr.n)) (some (decide (pr.n<=99)))
 (some false))
 (some (decide (pr.n=0)))) λk5 =>
 br (decide (pr.doF=2)) (k5 true)
 (k5 (decide (pr.doF=4))))) λk2 =>
 br (!decide (pr.jB=0)) (k2 true)
 (k2 (!decide (pr.counter=0)))
def Xh (pr:oQ):Option Bool :=
 br (decide (pr.on=2)) (bnd (Ls pr) λy1 =>
 some y1)
 (bnd (Lt pr) λy2 =>
 br (y2==false) (some false)
 (lt (decide (pr.filter.jB=0)&&(decide (pr.filter.who=0)&&(decide (pr.filter.self=0)&&(decide (pr.filter.types=0)&&(decide (pr.filter.jH=0)&&(decide (pr.filter.kz=0)&&(decide (pr.filter.jl=0)&&(jf .eql pr.filter.sub (bs [])&&(decide (pr.filter.keys=0)&&(decide (pr.filter.BX=0)&&(decide (pr.filter.power.kind=0)&&(decide (pr.filter.power.n=0)&&(decide (pr.filter.ji.kind=0)&&(decide (pr.filter.ji.n=0)&&(decide (pr.filter.value.kind=0)&&(decide (pr.filter.value.n=0)&&true)))))))))))))))) λv3 =>
 jn (λs4:Bool×Bool =>
 br (decide (pr.on=1)) (jn (λs7:Bool =>
 br s7 (some false)
 (br (decide (pr.who=0)) (bnd (EF pr.filter) λy10 =>
 br y10 (some true)
 (br (decide (pr.who=1)) (some s4.1)
 (br (decide (pr.who=2)) (some s4.1)
 (some false))))
 (br (decide (pr.who=1)) (some s4.1)
 (br (decide (pr.who=2)) (some s4.1)
 (some false))))) λk8 =>
 br (!decide (pr.doF=1)) (br (!decide (pr.doF=2)) (br (!decide (pr.doF=3)) (k8 (!decide (pr.doF=4)))
 (k8 false))
 (k8 false))
 (k8 false))
 (br (decide (pr.on=8)) (br s4.2 (br (decide (pr.who=0)) (bnd (EF pr.filter) λy11 =>
 some y11)
 (some false))
 (some false))
 (br (decide (pr.on=3)) (br (decide (pr.doF=4)) (br (decide (0<=pr.who)) (br (decide (pr.who<=2)) (some s4.1)
 (some false))
 (some false))
 (br (decide (pr.doF=8)) (br (decide (0<=pr.who)) (br (decide (pr.who<=2)) (some s4.1)
 (some false))
 (some false))
 (some false)))
 (br (decide (pr.on=4)) (br s4.2 (br (decide (0<=pr.who)) (br (decide (pr.who<=2)) (some s4.1)
 (some false))
 (some false))
 (some false))
 (br (decide (pr.on=5)) (br s4.2 (br (decide (0<=pr.who)) (br (decide (pr.who<=2)) (some s4.1)
 (some false))
 (some false))
 (some false))
 (br (decide (pr.on=10)) (br s4.2 (br (decide (0<=pr.who)) (br (decide (pr.who<=2)) (some s4.1)
 (some false))
 (some false))
 (some false))
 (some false))))))) λk5 =>
 br (decide (pr.doF=3)) (k5 (v3,true))
 (br (decide (pr.doF=4)) (k5 (v3,true))
 (k5 (v3,(decide (pr.doF=8)))))))
def OX (s:rW):Option Bool :=
 br (s.object==false) (jn (λs1:Bool =>
 some s1) λk2 =>
 br s.kE (lt (decide (s.filter.jB=0)&&(decide (s.filter.who=0)&&(decide (s.filter.self=0)&&(decide (s.filter.types=0)&&(decide (s.filter.jH=0)&&(decide (s.filter.kz=0)&&(decide (s.filter.jl=0)&&(jf .eql s.filter.sub (bs [])&&(decide (s.filter.keys=0)&&(decide (s.filter.BX=0)&&(decide (s.filter.power.kind=0)&&(decide (s.filter.power.n=0)&&(decide (s.filter.ji.kind=0)&&(decide (s.filter.ji.n=0)&&(decide (s.filter.value.kind=0)&&(decide (s.filter.value.n=0)&&true)))))))))))))))) λv4 =>
 k2 v4)
 (k2 false))
 (bnd (Dx s.filter) λy5 =>
 br y5 (br (decide (s.filter.jB=0)) (some true)
 (br (decide (s.filter.jB=3)) (some true)
 (some (decide (s.filter.jB=5)))))
 (some false))
def OY (l:List rW)(s1:Int)(k2:Int->Option Bool):Option Bool :=
 br (decide (s1<(ik l))) (bnd (jS l s1) λx4 =>
 bnd (OX x4) λy5 =>
 br (y5==false) (some false)
 (k2 (iI s1 1)))
 (some (decide ((ik l)<=4)))
def Lu (l:List rW):Option Bool :=
 ig (OY l) 0
def OZ (op:Int):Option ByteArray :=
 jn (λs1:Bool =>
 br s1 (some (bs []))
 (bnd (lK 26 (pF op 1)) λj4 =>
 bnd (([(bs [100,97,109,97,103,101]),(bs [100,101,115,116,114,111,121]),(bs [109,111,118,101]),(bs [100,114,97,119]),(bs [100,105,115,99,97,114,100]),(bs [103,97,105,110]),(bs [108,111,115,101]),(bs [116,97,112]),(bs [117,110,116,97,112]),(bs [112,117,116]),(bs [116,97,107,101]),(bs [99,114,101,97,116,101]),(bs [109,111,100]),(bs [109,97,110,97]),(bs [99,111,117,110,116,101,114]),(bs [99,111,112,121]),(bs [98,101,99,111,109,101]),(bs [115,97,99,114,105,102,105,99,101]),(bs [109,105,108,108]),(bs [115,99,114,121]),(bs [115,101,97,114,99,104]),(bs [115,104,105,101,108,100]),(bs [116,117,114,110]),(bs [119,105,110]),(bs [100,101,102,101,97,116]),(bs [118,101,110,111,109])])[j4]?) λx5 =>
 some x5)) λk2 =>
 br (decide (op<1)) (k2 true)
 (k2 (decide (26<op)))
def O0 (op:Int):Option ByteArray :=
 br (decide (op=2)) (some (bs [114]))
 (br (decide (op=8)) (some (bs [114]))
 (br (decide (op=9)) (some (bs [114]))
 (br (decide (op=15)) (some (bs [114]))
 (br (decide (op=16)) (some (bs [114]))
 (br (decide (op=17)) (some (bs [114]))
 (br (decide (op=25)) (some (bs [114]))
 (br (decide (op=3)) (some (bs [114,122]))
 (br (decide (op=10)) (some (bs [114,107,97]))
 (br (decide (op=11)) (some (bs [114,107,97]))
 (br (decide (op=12)) (some (bs [114,99,97]))
 (br (decide (op=13)) (some (bs [114,109]))
 (br (decide (op=14)) (some (bs [112]))
 (br (decide (op=18)) (some (bs [114,97,102]))
 (br (decide (op=20)) (some (bs [97]))
 (br (decide (op=21)) (some (bs [102]))
 (br (decide (op=23)) (some (bs []))
 (br (decide (op=24)) (some (bs []))
 (some (bs [114,97])))))))))))))))))))
def Rh (field:Int)(y1:ByteArray)(s2:Int)(k3:Int->Option Bool):Option Bool :=
 br (decide (s2<(y1.size:Int))) (bnd (kY y1 s2) λx5 =>
 br (decide (x5=field)) (some true)
 (k3 (iI s2 1)))
 (some false)
def xn (op:Int)(field:Int):Option Bool :=
 bnd (O0 op) λy1 =>
 ig (Rh field y1) 0
def Ec (kind:Int):Option Bool :=
 br (decide (kind=3)) (some true)
 (some (decide (kind=8)))
def Xi (pr:Ug)(specs:Int):Option Bool :=
 jn (λs1:Int =>
 jn (λs4:Bool =>
 br s4 (some false)
 (jn (λs7:Unit =>
 br (decide (pr.kind=4)) (bnd (Dx pr.filter) λy14 =>
 some y14)
 (lt (decide (pr.filter.jB=0)&&(decide (pr.filter.who=0)&&(decide (pr.filter.self=0)&&(decide (pr.filter.types=0)&&(decide (pr.filter.jH=0)&&(decide (pr.filter.kz=0)&&(decide (pr.filter.jl=0)&&(jf .eql pr.filter.sub (bs [])&&(decide (pr.filter.keys=0)&&(decide (pr.filter.BX=0)&&(decide (pr.filter.power.kind=0)&&(decide (pr.filter.power.n=0)&&(decide (pr.filter.ji.kind=0)&&(decide (pr.filter.ji.n=0)&&(decide (pr.filter.value.kind=0)&&(decide (pr.filter.value.n=0)&&true)))))))))))))))) λv15 =>
 some v15)) λk8 =>
 bnd (Ec pr.kind) λy10 =>
 br y10 (jn (λs11:Bool =>
 br s11 (some false)
 (k8 ())) λk12 =>
 br (decide (pr.n<1)) (k12 true)
 (k12 (decide (s1<pr.n))))
 (br (!decide (pr.n=0)) (some false)
 (k8 ())))) λk5 =>
 br (decide (pr.kind<1)) (k5 true)
 (k5 (decide (8<pr.kind)))) λk2 =>
 br (decide (4<specs)) (k2 4)
 (k2 specs)
def Ko (kind:Int):Option ByteArray :=
 br (decide (kind=0)) (some (bs [112,108,117,115]))
 (br (decide (kind=1)) (some (bs [109,105,110,117,115]))
 (br (decide (kind=2)) (some (bs [99,104,97,114,103,101]))
 (some (bs []))))
def Xj (a:xO):Option Bool :=
 jn (λs1:xO =>
 br (decide (0<=a.kind)) (br (decide (a.kind<=7)) (lt (decide (s1.kind=a.kind)&&(decide (s1.n=0)&&(decide (s1.counter=0)&&(decide (s1.filter.jB=0)&&(decide (s1.filter.who=0)&&(decide (s1.filter.self=0)&&(decide (s1.filter.types=0)&&(decide (s1.filter.jH=0)&&(decide (s1.filter.kz=0)&&(decide (s1.filter.jl=0)&&(jf .eql s1.filter.sub (bs [])&&(decide (s1.filter.keys=0)&&(decide (s1.filter.BX=0)&&(decide (s1.filter.power.kind=0)&&(decide (s1.filter.power.n=0)&&(decide (s1.filter.ji.kind=0)&&(decide (s1.filter.ji.n=0)&&(decide (s1.filter.value.kind=0)&&(decide (s1.filter.value.n=0)&&true))))))))))))))))))) λv12 =>
 some v12)
 (some false))
 (some false)) λk2 =>
 br (decide (a.kind=0)) (jn (λs4:Bool =>
 br s4 (some false)
 (k2 { a with n:=0 })) λk5 =>
 br (decide (a.n<0)) (k5 true)
 (k5 (decide (1000000<a.n))))
 (br (decide (a.kind=2)) (jn (λs7:Bool =>
 br s7 (some false)
 (k2 { a with n:=0,filter:=lM })) λk8 =>
 br (decide (a.n<1)) (k8 true)
 (br (decide (99<a.n)) (k8 true)
 (bnd (Dx a.filter) λy10 =>
 k8 (y10==false))))
 (br (decide (a.kind=4)) (bnd (Ko a.counter) λy11 =>
 br (jf .eql y11 (bs [])) (some false)
 (k2 { a with counter:=0 }))
 (k2 a)))
def O1 (l:List nC):Option Bool :=
 bnd (xP l) λy1 =>
 some (jf .neq y1 (bs []))
def Ri (c:rG)(s11:ByteArray×Int)(k12:(ByteArray×Int)->Option ByteArray)(s14:ByteArray×Int)(k15:(ByteArray×Int)->Option ByteArray):Option ByteArray :=
 jn (λs17:Bool =>
 br s17 (bnd (mg (bs [65,67,74,82,69]) s11.2 (iI s11.2 1)) λx21 =>
 bnd (jR s14.1 x21) λx22 =>
 k15 (x22,(iI s14.2 1)))
 (k12 (s14.1,(iI s11.2 1)))) λk18 =>
 qR s11.2 5 λj20=>(match j20 with|0=>(k18 (decide (s14.2<c.color.a0)))  | 1=>(k18 (decide (s14.2<c.color.a1)))  | 2=>(k18 (decide (s14.2<c.color.a2)))  | 3=>(k18 (decide (s14.2<c.color.a3)))  | _=>(k18 (decide (s14.2<c.color.a4))) )
def Kq (c:rG)(s11:ByteArray×Int)(k12:(ByteArray×Int)->Option ByteArray):Option ByteArray :=
 br (decide (s11.2<5)) (ig (Ri c s11 k12) (s11.1,0))
 (br (jf .eql s11.1 (bs [])) (some (bs [48]))
 (some s11.1))
def Kr (c:rG)(s2:ByteArray×Int)(k3:(ByteArray×Int)->Option ByteArray):Option ByteArray :=
 br (decide (s2.2<c.x)) (bnd (jR s2.1 (bs [88])) λx5 =>
 k3 (x5,(iI s2.2 1)))
 (jn (λs6:ByteArray =>
 ig (Kq c) (s6,0)) λk7 =>
 br (!decide (c.generic=0)) (bnd (Af c.generic) λy9 =>
 bnd (jR s2.1 y9) λx10 =>
 k7 x10)
 (k7 s2.1))
def O3 (c:rG):Option ByteArray :=
 bnd (Nz c) λy1 =>
 br (y1==false) (some (bs []))
 (ig (Kr c) ((bs []),0))
def Kt (p:Qm Int):Option rG :=
 some (rG.mk p.a0 0 (Z5.mk p.a1 p.a2 p.a3 p.a4 p.a5))
def Ed (p:Qm Int):Option ByteArray :=
 bnd (Kt p) λy1 =>
 bnd (O3 y1) λy2 =>
 some y2
def Jg (op:Int)(f:kD):Option Bool :=
 jn (λs1:Int =>
 bnd (Dx f) λy4 =>
 br y4 (some (decide (f.jB=s1)))
 (some false)) λk2 =>
 br (decide (op=21)) (k2 2)
 (k2 0)
def Xk (pe:jh)(specs:Int):Option Bool :=
 bnd (OZ pe.op) λy1 =>
 br (jf .eql y1 (bs [])) (some false)
 (lt (decide (pe.ref.kind=0)&&(decide (pe.ref.n=0)&&(decide (pe.ref.filter.jB=0)&&(decide (pe.ref.filter.who=0)&&(decide (pe.ref.filter.self=0)&&(decide (pe.ref.filter.types=0)&&(decide (pe.ref.filter.jH=0)&&(decide (pe.ref.filter.kz=0)&&(decide (pe.ref.filter.jl=0)&&(jf .eql pe.ref.filter.sub (bs [])&&(decide (pe.ref.filter.keys=0)&&(decide (pe.ref.filter.BX=0)&&(decide (pe.ref.filter.power.kind=0)&&(decide (pe.ref.filter.power.n=0)&&(decide (pe.ref.filter.ji.kind=0)&&(decide (pe.ref.filter.ji.n=0)&&(decide (pe.ref.filter.value.kind=0)&&(decide (pe.ref.filter.value.n=0)&&true)))))))))))))))))) λv2 =>
 jn (λs3:Bool =>
 jn (λs8:Bool =>
 jn (λs12:Bool =>
 jn (λs17:Bool =>
 lt (decide (pe.amount.kind=0)&&(decide (pe.amount.n=0)&&(decide (pe.amount.counter=0)&&(decide (pe.amount.filter.jB=0)&&(decide (pe.amount.filter.who=0)&&(decide (pe.amount.filter.self=0)&&(decide (pe.amount.filter.types=0)&&(decide (pe.amount.filter.jH=0)&&(decide (pe.amount.filter.kz=0)&&(decide (pe.amount.filter.jl=0)&&(jf .eql pe.amount.filter.sub (bs [])&&(decide (pe.amount.filter.keys=0)&&(decide (pe.amount.filter.BX=0)&&(decide (pe.amount.filter.power.kind=0)&&(decide (pe.amount.filter.power.n=0)&&(decide (pe.amount.filter.ji.kind=0)&&(decide (pe.amount.filter.ji.n=0)&&(decide (pe.amount.filter.value.kind=0)&&(decide (pe.amount.filter.value.n=0)&&true))))))))))))))))))) λv22 =>
 jn (λs23:Bool =>
 jn (λs28:Bool =>
 lt (decide (pe.pool.a0=0)&&(decide (pe.pool.a1=0)&&(decide (pe.pool.a2=0)&&(decide (pe.pool.a3=0)&&(decide (pe.pool.a4=0)&&(decide (pe.pool.a5=0)&&true)))))) λv33 =>
 jn (λs34:Bool =>
 lt (decide (pe.filter.jB=0)&&(decide (pe.filter.who=0)&&(decide (pe.filter.self=0)&&(decide (pe.filter.types=0)&&(decide (pe.filter.jH=0)&&(decide (pe.filter.kz=0)&&(decide (pe.filter.jl=0)&&(jf .eql pe.filter.sub (bs [])&&(decide (pe.filter.keys=0)&&(decide (pe.filter.BX=0)&&(decide (pe.filter.power.kind=0)&&(decide (pe.filter.power.n=0)&&(decide (pe.filter.ji.kind=0)&&(decide (pe.filter.ji.n=0)&&(decide (pe.filter.value.kind=0)&&(decide (pe.filter.value.n=0)&&true)))))))))))))))) λv39 =>
 jn (λs40:Bool =>
 br s3 (br s8 (br s12 (br s17 (br s23 (br s28 (br s34 (some s40)
 (some false))
 (some false))
 (some false))
 (some false))
 (some false))
 (some false))
 (some false)) λk41 =>
 bnd (xn pe.op 102) λy43 =>
 br y43 (bnd (Jg pe.op pe.filter) λy44 =>
 k41 y44)
 (k41 v39)) λk35 =>
 bnd (xn pe.op 112) λy37 =>
 br y37 (br (v33==false) (bnd (Ed pe.pool) λy38 =>
 k35 (jf .neq y38 (bs [])))
 (k35 false))
 (k35 v33)) λk29 =>
 bnd (xn pe.op 109) λy31 =>
 br y31 (bnd (O1 pe.mQ) λy32 =>
 k29 y32)
 (k29 (decide ((ik pe.mQ)=0)))) λk24 =>
 bnd (xn pe.op 97) λy26 =>
 br y26 (bnd (Xj pe.amount) λy27 =>
 k24 y27)
 (k24 v22)) λk18 =>
 bnd (xn pe.op 99) λy20 =>
 br y20 (bnd (Qr pe.card) λy21 =>
 k18 y21)
 (k18 (jf .eql pe.card (bs [])))) λk13 =>
 br (decide (pe.counter=0)) (k13 true)
 (bnd (xn pe.op 107) λy15 =>
 br y15 (bnd (Ko pe.counter) λy16 =>
 k13 (jf .neq y16 (bs [])))
 (k13 false))) λk9 =>
 br (decide (pe.jB=0)) (k9 true)
 (bnd (xn pe.op 122) λy11 =>
 br y11 (br (decide (0<pe.jB)) (k9 (decide (pe.jB<=4)))
 (k9 false))
 (k9 false))) λk4 =>
 bnd (xn pe.op 114) λy6 =>
 br y6 (bnd (Xi pe.ref specs) λy7 =>
 k4 y7)
 (k4 v2))
def Ku (l:List jh)(n:Int)(s1:Int)(k2:Int->Option Bool):Option Bool :=
 br (decide (s1<(ik l))) (bnd (jS l s1) λx4 =>
 bnd (Xk x4 n) λy5 =>
 br (y5==false) (some false)
 (k2 (iI s1 1)))
 (br (decide (1<=(ik l))) (some (decide ((ik l)<=8)))
 (some false))
def Gt (l:List jh)(n:Int):Option Bool :=
 ig (Ku l n) 0
def NC (a:iG):Option Bool :=
 jn (λs1:Bool =>
 br s1 (some false)
 (jn (λs4:Bool =>
 jn (λs7:Unit =>
 jn (λs19:Unit =>
 jn (λs27:Unit =>
 jn (λs35:Unit =>
 br s4 (jn (λs40:Bool =>
 some s40) λk41 =>
 bnd (Lu a.specs) λy43 =>
 br y43 (bnd (Gt a.jX (ik a.specs)) λy44 =>
 k41 y44)
 (k41 false))
 (br (decide ((ik a.specs)=0)) (some (decide ((ik a.jX)=0)))
 (some false))) λk36 =>
 br (decide (a.kind=5)) (bnd (Xh a.replace) λy38 =>
 br (y38==false) (some false)
 (k36 ()))
 (lt ((decide (a.replace.on=0)&&(decide (a.replace.who=0)&&(decide (a.replace.filter.jB=0)&&(decide (a.replace.filter.who=0)&&(decide (a.replace.filter.self=0)&&(decide (a.replace.filter.types=0)&&(decide (a.replace.filter.jH=0)&&(decide (a.replace.filter.kz=0)&&(decide (a.replace.filter.jl=0)&&(jf .eql a.replace.filter.sub (bs [])&&(decide (a.replace.filter.keys=0)&&(decide (a.replace.filter.BX=0)&&(decide (a.replace.filter.power.kind=0)&&(decide (a.replace.filter.power.n=0)&&(decide (a.replace.filter.ji.kind=0)&&(decide (a.replace.filter.ji.n=0)&&(decide (a.replace.filter.value.kind=0)&&(decide (a.replace.filter.value.n=0)&&(decide (a.replace.doF=0)&&(decide (a.replace.n=0)&&(decide (a.replace.jB=0)&&(decide (a.replace.counter=0)&&true))))))))))))))))))))))==false) λv39 =>
 br v39 (some false)
 (k36 ()))) λk28 =>
 br (decide (a.kind=4)) (bnd (Xg a.iM) λy30 =>
 br (y30==false) (some false)
 (k28 ()))
 (jn (λs31:Bool =>
 br s31 (some false)
 (k28 ())) λk32 =>
 lt ((decide (a.iM.when=0)&&(decide (a.iM.who=0)&&(decide (a.iM.filter.jB=0)&&(decide (a.iM.filter.who=0)&&(decide (a.iM.filter.self=0)&&(decide (a.iM.filter.types=0)&&(decide (a.iM.filter.jH=0)&&(decide (a.iM.filter.kz=0)&&(decide (a.iM.filter.jl=0)&&(jf .eql a.iM.filter.sub (bs [])&&(decide (a.iM.filter.keys=0)&&(decide (a.iM.filter.BX=0)&&(decide (a.iM.filter.power.kind=0)&&(decide (a.iM.filter.power.n=0)&&(decide (a.iM.filter.ji.kind=0)&&(decide (a.iM.filter.ji.n=0)&&(decide (a.iM.filter.value.kind=0)&&(decide (a.iM.filter.value.n=0)&&true))))))))))))))))))==false) λv34 =>
 br v34 (k32 true)
 (k32 a.may))) λk20 =>
 br (decide (a.kind=3)) (bnd (Lr a.price) λy22 =>
 br (y22==false) (some false)
 (k20 ()))
 (jn (λs23:Bool =>
 br s23 (some false)
 (k20 ())) λk24 =>
 lt ((decide (a.price.Dv.generic=0)&&(decide (a.price.Dv.x=0)&&(decide (a.price.Dv.color.a0=0)&&(decide (a.price.Dv.color.a1=0)&&(decide (a.price.Dv.color.a2=0)&&(decide (a.price.Dv.color.a3=0)&&(decide (a.price.Dv.color.a4=0)&&(a.price.BX==false&&(a.price.Il==false&&(decide (a.price.life=0)&&true))))))))))==false) λv26 =>
 br v26 (k24 true)
 (k24 a.slow))) λk8 =>
 br (decide (a.kind=1)) (jn (λs10:Bool =>
 br s10 (some false)
 (k8 ())) λk11 =>
 bnd (Dx a.filter) λy13 =>
 br (y13==false) (k11 true)
 (br (!decide (a.filter.jB=0)) (k11 true)
 (bnd (xP a.mQ) λy14 =>
 k11 (jf .eql y14 (bs [])))))
 (jn (λs15:Bool =>
 br s15 (some false)
 (k8 ())) λk16 =>
 lt ((decide (a.filter.jB=0)&&(decide (a.filter.who=0)&&(decide (a.filter.self=0)&&(decide (a.filter.types=0)&&(decide (a.filter.jH=0)&&(decide (a.filter.kz=0)&&(decide (a.filter.jl=0)&&(jf .eql a.filter.sub (bs [])&&(decide (a.filter.keys=0)&&(decide (a.filter.BX=0)&&(decide (a.filter.power.kind=0)&&(decide (a.filter.power.n=0)&&(decide (a.filter.ji.kind=0)&&(decide (a.filter.ji.n=0)&&(decide (a.filter.value.kind=0)&&(decide (a.filter.value.n=0)&&true))))))))))))))))==false) λv18 =>
 br v18 (k16 true)
 (k16 (decide (0<(ik a.mQ)))))) λk5 =>
 br (decide (a.kind=2)) (k5 true)
 (br (decide (a.kind=3)) (k5 true)
 (k5 (decide (a.kind=4)))))) λk2 =>
 br (decide (a.kind<1)) (k2 true)
 (k2 (decide (5<a.kind)))
def Jv (a:List nC)(b:List nC)(s1:Int)(k2:Int->Option Bool):Option Bool :=
 br (decide (s1<(ik a))) (bnd (jS a s1) λx4 =>
 bnd (jS b s1) λx5 =>
 lt ((decide (x4.kind=x5.kind)&&(decide (x4.n=x5.n)&&(decide (x4.m=x5.m)&&(jf .eql x4.sub x5.sub&&(decide (x4.filter.jB=x5.filter.jB)&&(decide (x4.filter.who=x5.filter.who)&&(decide (x4.filter.self=x5.filter.self)&&(decide (x4.filter.types=x5.filter.types)&&(decide (x4.filter.jH=x5.filter.jH)&&(decide (x4.filter.kz=x5.filter.kz)&&(decide (x4.filter.jl=x5.filter.jl)&&(jf .eql x4.filter.sub x5.filter.sub&&(decide (x4.filter.keys=x5.filter.keys)&&(decide (x4.filter.BX=x5.filter.BX)&&(decide (x4.filter.power.kind=x5.filter.power.kind)&&(decide (x4.filter.power.n=x5.filter.power.n)&&(decide (x4.filter.ji.kind=x5.filter.ji.kind)&&(decide (x4.filter.ji.n=x5.filter.ji.n)&&(decide (x4.filter.value.kind=x5.filter.value.kind)&&(decide (x4.filter.value.n=x5.filter.value.n)&&true))))))))))))))))))))==false) λv6 =>
 br v6 (some false)
 (k2 (iI s1 1)))
 (some true)
def Ag (a:List nC)(b:List nC):Option Bool :=
 br (!decide ((ik a)=(ik b))) (some false)
 (ig (Jv a b) 0)
def O4 (a:jh)(b:jh):Option Bool :=
 br (decide (a.op=b.op)) (lt (decide (a.ref.kind=b.ref.kind)&&(decide (a.ref.n=b.ref.n)&&(decide (a.ref.filter.jB=b.ref.filter.jB)&&(decide (a.ref.filter.who=b.ref.filter.who)&&(decide (a.ref.filter.self=b.ref.filter.self)&&(decide (a.ref.filter.types=b.ref.filter.types)&&(decide (a.ref.filter.jH=b.ref.filter.jH)&&(decide (a.ref.filter.kz=b.ref.filter.kz)&&(decide (a.ref.filter.jl=b.ref.filter.jl)&&(jf .eql a.ref.filter.sub b.ref.filter.sub&&(decide (a.ref.filter.keys=b.ref.filter.keys)&&(decide (a.ref.filter.BX=b.ref.filter.BX)&&(decide (a.ref.filter.power.kind=b.ref.filter.power.kind)&&(decide (a.ref.filter.power.n=b.ref.filter.power.n)&&(decide (a.ref.filter.ji.kind=b.ref.filter.ji.kind)&&(decide (a.ref.filter.ji.n=b.ref.filter.ji.n)&&(decide (a.ref.filter.value.kind=b.ref.filter.value.kind)&&(decide (a.ref.filter.value.n=b.ref.filter.value.n)&&true)))))))))))))))))) λv1 =>
 br v1 (lt (decide (a.amount.kind=b.amount.kind)&&(decide (a.amount.n=b.amount.n)&&(decide (a.amount.counter=b.amount.counter)&&(decide (a.amount.filter.jB=b.amount.filter.jB)&&(decide (a.amount.filter.who=b.amount.filter.who)&&(decide (a.amount.filter.self=b.amount.filter.self)&&(decide (a.amount.filter.types=b.amount.filter.types)&&(decide (a.amount.filter.jH=b.amount.filter.jH)&&(decide (a.amount.filter.kz=b.amount.filter.kz)&&(decide (a.amount.filter.jl=b.amount.filter.jl)&&(jf .eql a.amount.filter.sub b.amount.filter.sub&&(decide (a.amount.filter.keys=b.amount.filter.keys)&&(decide (a.amount.filter.BX=b.amount.filter.BX)&&(decide (a.amount.filter.power.kind=b.amount.filter.power.kind)&&(decide (a.amount.filter.power.n=b.amount.filter.power.n)&&(decide (a.amount.filter.ji.kind=b.amount.filter.ji.kind)&&(decide (a.amount.filter.ji.n=b.amount.filter.ji.n)&&(decide (a.amount.filter.value.kind=b.amount.filter.value.kind)&&(decide (a.amount.filter.value.n=b.amount.filter.value.n)&&true))))))))))))))))))) λv2 =>
 br v2 (br (decide (a.counter=b.counter)) (br (decide (a.jB=b.jB)) (br (jf .eql a.card b.card) (lt (decide (a.filter.jB=b.filter.jB)&&(decide (a.filter.who=b.filter.who)&&(decide (a.filter.self=b.filter.self)&&(decide (a.filter.types=b.filter.types)&&(decide (a.filter.jH=b.filter.jH)&&(decide (a.filter.kz=b.filter.kz)&&(decide (a.filter.jl=b.filter.jl)&&(jf .eql a.filter.sub b.filter.sub&&(decide (a.filter.keys=b.filter.keys)&&(decide (a.filter.BX=b.filter.BX)&&(decide (a.filter.power.kind=b.filter.power.kind)&&(decide (a.filter.power.n=b.filter.power.n)&&(decide (a.filter.ji.kind=b.filter.ji.kind)&&(decide (a.filter.ji.n=b.filter.ji.n)&&(decide (a.filter.value.kind=b.filter.value.kind)&&(decide (a.filter.value.n=b.filter.value.n)&&true)))))))))))))))) λv3 =>
 br v3 (lt (decide (a.pool.a0=b.pool.a0)&&(decide (a.pool.a1=b.pool.a1)&&(decide (a.pool.a2=b.pool.a2)&&(decide (a.pool.a3=b.pool.a3)&&(decide (a.pool.a4=b.pool.a4)&&(decide (a.pool.a5=b.pool.a5)&&true)))))) λv4 =>
 br v4 (bnd (Ag a.mQ b.mQ) λy5 =>
 some y5)
 (some false))
 (some false))
 (some false))
 (some false))
 (some false))
 (some false))
 (some false))
 (some false)
def Jw (a:List jh)(b:List jh)(s1:Int)(k2:Int->Option Bool):Option Bool :=
 br (decide (s1<(ik a))) (bnd (jS a s1) λx4 =>
 bnd (jS b s1) λx5 =>
 bnd (O4 x4 x5) λy6 =>
 br (y6==false) (some false)
 (k2 (iI s1 1)))
 (some true)
def Ee (a:List jh)(b:List jh):Option Bool :=
 br (!decide ((ik a)=(ik b))) (some false)
 (ig (Jw a b) 0)
def Rj (a:iG)(b:iG)(s1:Int)(k2:Int->Option Bool):Option Bool :=
 br (decide (s1<(ik a.specs))) (bnd (jS a.specs s1) λx4 =>
 bnd (jS b.specs s1) λx5 =>
 lt ((x4.kE==x5.kE&&(x4.object==x5.object&&(decide (x4.filter.jB=x5.filter.jB)&&(decide (x4.filter.who=x5.filter.who)&&(decide (x4.filter.self=x5.filter.self)&&(decide (x4.filter.types=x5.filter.types)&&(decide (x4.filter.jH=x5.filter.jH)&&(decide (x4.filter.kz=x5.filter.kz)&&(decide (x4.filter.jl=x5.filter.jl)&&(jf .eql x4.filter.sub x5.filter.sub&&(decide (x4.filter.keys=x5.filter.keys)&&(decide (x4.filter.BX=x5.filter.BX)&&(decide (x4.filter.power.kind=x5.filter.power.kind)&&(decide (x4.filter.power.n=x5.filter.power.n)&&(decide (x4.filter.ji.kind=x5.filter.ji.kind)&&(decide (x4.filter.ji.n=x5.filter.ji.n)&&(decide (x4.filter.value.kind=x5.filter.value.kind)&&(decide (x4.filter.value.n=x5.filter.value.n)&&true))))))))))))))))))==false) λv6 =>
 br v6 (some false)
 (k2 (iI s1 1)))
 (br (decide (a.kind=b.kind)) (lt (decide (a.filter.jB=b.filter.jB)&&(decide (a.filter.who=b.filter.who)&&(decide (a.filter.self=b.filter.self)&&(decide (a.filter.types=b.filter.types)&&(decide (a.filter.jH=b.filter.jH)&&(decide (a.filter.kz=b.filter.kz)&&(decide (a.filter.jl=b.filter.jl)&&(jf .eql a.filter.sub b.filter.sub&&(decide (a.filter.keys=b.filter.keys)&&(decide (a.filter.BX=b.filter.BX)&&(decide (a.filter.power.kind=b.filter.power.kind)&&(decide (a.filter.power.n=b.filter.power.n)&&(decide (a.filter.ji.kind=b.filter.ji.kind)&&(decide (a.filter.ji.n=b.filter.ji.n)&&(decide (a.filter.value.kind=b.filter.value.kind)&&(decide (a.filter.value.n=b.filter.value.n)&&true)))))))))))))))) λv7 =>
 br v7 (bnd (Ag a.mQ b.mQ) λy8 =>
 br y8 (lt (decide (a.price.Dv.generic=b.price.Dv.generic)&&(decide (a.price.Dv.x=b.price.Dv.x)&&(decide (a.price.Dv.color.a0=b.price.Dv.color.a0)&&(decide (a.price.Dv.color.a1=b.price.Dv.color.a1)&&(decide (a.price.Dv.color.a2=b.price.Dv.color.a2)&&(decide (a.price.Dv.color.a3=b.price.Dv.color.a3)&&(decide (a.price.Dv.color.a4=b.price.Dv.color.a4)&&(a.price.BX==b.price.BX&&(a.price.Il==b.price.Il&&(decide (a.price.life=b.price.life)&&true)))))))))) λv9 =>
 br v9 (br (a.slow==b.slow) (lt (decide (a.iM.when=b.iM.when)&&(decide (a.iM.who=b.iM.who)&&(decide (a.iM.filter.jB=b.iM.filter.jB)&&(decide (a.iM.filter.who=b.iM.filter.who)&&(decide (a.iM.filter.self=b.iM.filter.self)&&(decide (a.iM.filter.types=b.iM.filter.types)&&(decide (a.iM.filter.jH=b.iM.filter.jH)&&(decide (a.iM.filter.kz=b.iM.filter.kz)&&(decide (a.iM.filter.jl=b.iM.filter.jl)&&(jf .eql a.iM.filter.sub b.iM.filter.sub&&(decide (a.iM.filter.keys=b.iM.filter.keys)&&(decide (a.iM.filter.BX=b.iM.filter.BX)&&(decide (a.iM.filter.power.kind=b.iM.filter.power.kind)&&(decide (a.iM.filter.power.n=b.iM.filter.power.n)&&(decide (a.iM.filter.ji.kind=b.iM.filter.ji.kind)&&(decide (a.iM.filter.ji.n=b.iM.filter.ji.n)&&(decide (a.iM.filter.value.kind=b.iM.filter.value.kind)&&(decide (a.iM.filter.value.n=b.iM.filter.value.n)&&true)))))))))))))))))) λv10 =>
 br v10 (br (a.may==b.may) (bnd (Ee a.jX b.jX) λy11 =>
 br y11 (lt (decide (a.replace.on=b.replace.on)&&(decide (a.replace.who=b.replace.who)&&(decide (a.replace.filter.jB=b.replace.filter.jB)&&(decide (a.replace.filter.who=b.replace.filter.who)&&(decide (a.replace.filter.self=b.replace.filter.self)&&(decide (a.replace.filter.types=b.replace.filter.types)&&(decide (a.replace.filter.jH=b.replace.filter.jH)&&(decide (a.replace.filter.kz=b.replace.filter.kz)&&(decide (a.replace.filter.jl=b.replace.filter.jl)&&(jf .eql a.replace.filter.sub b.replace.filter.sub&&(decide (a.replace.filter.keys=b.replace.filter.keys)&&(decide (a.replace.filter.BX=b.replace.filter.BX)&&(decide (a.replace.filter.power.kind=b.replace.filter.power.kind)&&(decide (a.replace.filter.power.n=b.replace.filter.power.n)&&(decide (a.replace.filter.ji.kind=b.replace.filter.ji.kind)&&(decide (a.replace.filter.ji.n=b.replace.filter.ji.n)&&(decide (a.replace.filter.value.kind=b.replace.filter.value.kind)&&(decide (a.replace.filter.value.n=b.replace.filter.value.n)&&(decide (a.replace.doF=b.replace.doF)&&(decide (a.replace.n=b.replace.n)&&(decide (a.replace.jB=b.replace.jB)&&(decide (a.replace.counter=b.replace.counter)&&true)))))))))))))))))))))) λv12 =>
 some v12)
 (some false))
 (some false))
 (some false))
 (some false))
 (some false))
 (some false))
 (some false))
 (some false))
def O5 (a:iG)(b:iG):Option Bool :=
 br (!decide ((ik a.specs)=(ik b.specs))) (some false)
 (ig (Rj a b) 0)
def O6 (s:gW)(x:oN):Option Bool :=
 jn (λs1:Bool =>
 br s1 (some false)
 (bnd (E8 s x.id) λy7 =>
 br (decide (x.kind=1)) (bnd (O5 x.jM BF) λy8 =>
 jn (λs9:Bool =>
 some s9) λk10 =>
 br (decide (x.source=x.id)) (br y7.2 (br (decide (y7.1.jB=5)) (br y8 (k10 true)
 (bnd (NC x.jM) λy12 =>
 k10 y12))
 (k10 false))
 (k10 false))
 (k10 false))
 (br (decide (x.kind=2)) (br (y7.2==false) (bnd (NC x.jM) λy13 =>
 some y13)
 (some false))
 (some false)))) λk2 =>
 bnd (vJ x.id 1 (pF s.nextId 1)) λy4 =>
 br (y4==false) (k2 true)
 (bnd (vJ x.x 0 1000000) λy5 =>
 br (y5==false) (k2 true)
 (br (decide (4<(ik x.targets))) (k2 true)
 (bnd (ug s x.control) λy6 =>
 k2 (y6==false))))
def VH (l:List Int)(s1:Int)(k2:Int->Option Bool):Option Bool :=
 br (decide (s1<(ik l))) (bnd (jS l (pF s1 1)) λx4 =>
 bnd (jS l s1) λx5 =>
 br (decide (x5<=x4)) (some false)
 (k2 (iI s1 1)))
 (some true)
def Xl (l:List Int):Option Bool :=
 ig (VH l) 1
def O7 (s:gW)(s4:Int)(k5:Int->Option Bool)(s9:Int)(k10:Int->Option Bool):Option Bool :=
 br (decide (s9<s4)) (bnd (jS s.stack s9) λx12 =>
 bnd (jS s.stack s4) λx13 =>
 br (decide (x12.id=x13.id)) (some false)
 (k10 (iI s9 1)))
 (k5 (iI s4 1))
def O8 (s:gW)(s23:Int)(k24:Int->Option Bool):Option Bool :=
 br (decide (s23<(ik s.mf))) (bnd (jS s.mf s23) λx26 =>
 jn (λs27:Bool =>
 br s27 (some false)
 (k24 (iI s23 1))) λk28 =>
 bnd (ug s x26.control) λy30 =>
 br (y30==false) (k28 true)
 (br (decide (s.lF<=x26.stamp)) (k28 true)
 (bnd (vJ x26.aaf 1 2) λy31 =>
 br (y31==false) (k28 true)
 (bnd (Xl x26.objects) λy32 =>
 br (y32==false) (k28 true)
 (bnd (xP x26.mQ) λy33 =>
 k28 (jf .eql y33 (bs [])))))))
 (some true)
def O9 (s:gW)(s14:Int)(k15:Int->Option Bool):Option Bool :=
 br (decide (s14<(ik s.waiting))) (bnd (jS s.waiting s14) λx17 =>
 jn (λs18:Bool =>
 br s18 (some false)
 (k15 (iI s14 1))) λk19 =>
 bnd (ug s x17.control) λy21 =>
 br (y21==false) (k19 true)
 (br (!decide (x17.jM.kind=4)) (k19 true)
 (bnd (NC x17.jM) λy22 =>
 k19 (y22==false))))
 (ig (O8 s) 0)
def Pg (s:gW)(s4:Int)(k5:Int->Option Bool):Option Bool :=
 br (decide (s4<(ik s.stack))) (bnd (jS s.stack s4) λx7 =>
 bnd (O6 s x7) λy8 =>
 br (y8==false) (some false)
 (ig (O7 s s4 k5) 0))
 (ig (O9 s) 0)
def LC (s:gW):Option Bool :=
 jn (λs1:Bool =>
 br s1 (some false)
 (ig (Pg s) 0)) λk2 =>
 br (decide (64<(ik s.stack))) (k2 true)
 (br (decide (64<(ik s.waiting))) (k2 true)
 (k2 (decide (64<(ik s.mf)))))
def EG (cards:List jc)(s:gW)(s16:Int)(k17:Int->Option Bool):Option Bool :=
 br (decide (s16<(ik s.extra))) (bnd (jS s.extra s16) λx19 =>
 bnd (ug s x19) λy20 =>
 br (y20==false) (some false)
 (k17 (iI s16 1)))
 (jn (λs21:Bool =>
 br s21 (some false)
 (bnd (tq cards s) λy25 =>
 br y25 (bnd (LC s) λy26 =>
 some y26)
 (some false))) λk22 =>
 br (decide (s.over=1)) (bnd (ug s s.rX) λy24 =>
 br (y24==false) (k22 true)
 (br (!decide (s.over=1)) (k22 (!decide (s.rX=(-1))))
 (k22 false)))
 (br (!decide (s.over=1)) (k22 (!decide (s.rX=(-1))))
 (k22 false)))
def yg (cards:List jc)(s:gW):Option Bool :=
 jn (λs1:Bool =>
 br s1 (some false)
 (jn (λs8:Bool =>
 br s8 (some false)
 (ig (EG cards s) 0)) λk9 =>
 bnd (zu s) λy11 =>
 br (y11==false) (k9 true)
 (bnd (ug s s.qy) λy12 =>
 br (y12==false) (k9 true)
 (bnd (ug s s.priority) λy13 =>
 br (y13==false) (k9 true)
 (bnd (vJ s.passes 0 (ik s.gU)) λy14 =>
 br (y14==false) (k9 true)
 (br (decide (500<(ik s.extra))) (k9 true)
 (bnd (vJ s.over 0 2) λy15 =>
 k9 (y15==false)))))))) λk2 =>
 bnd (vJ s.nextId 1 1000000) λy4 =>
 br (y4==false) (k2 true)
 (bnd (vJ s.lF 1 1000000) λy5 =>
 br (y5==false) (k2 true)
 (bnd (vJ s.turn 0 500) λy6 =>
 br (y6==false) (k2 true)
 (bnd (vJ s.step 0 10) λy7 =>
 br (y7==false) (k2 true)
 (k2 (decide (2048<(ik s.objects)))))))
def VI (l:zt)(s4:Int)(k5:Int->Option Bool):Option Bool :=
 br (decide (s4<(ik l.subs))) (jn (λs7:Bool =>
 br s7 (some false)
 (k5 (iI s4 1))) λk8 =>
 bnd (jS l.subs s4) λx10 =>
 bnd (BG x10) λy11 =>
 br (y11==false) (k8 true)
 (br (decide (0<s4)) (bnd (jS l.subs (pF s4 1)) λx12 =>
 bnd (jS l.subs s4) λx13 =>
 k8 (jf .geq x12 x13))
 (k8 false)))
 (br (decide (l.types=2)) (some true)
 (br (decide (l.types=4)) (some true)
 (bnd (Ll l.types 1) λy14 =>
 br (y14==false) (bnd (Ll l.types 2) λy15 =>
 some (y15==false))
 (some false))))
def Jh (l:zt):Option Bool :=
 jn (λs1:Bool =>
 br s1 (some false)
 (ig (VI l) 0)) λk2 =>
 br (decide (l.Gj<0)) (k2 true)
 (br (decide (3<l.Gj)) (k2 true)
 (br (decide (l.types<1)) (k2 true)
 (br (decide (63<l.types)) (k2 true)
 (k2 (decide (4<(ik l.subs)))))))
def Ef (c:jc):Option Bool :=
 some (!decide ((nK .and .i64 c.line.types 1)=0))
def Ph (c:jc):Option Bool :=
 br (decide (c.line.types=2)) (some true)
 (some (decide (c.line.types=4)))
def VJ (c:jc)(s12:Int×Int)(k13:(Int×Int)->Option Bool):Option Bool :=
 br (decide (s12.2<(ik c.gQ))) (jn (λs15:Int =>
 k13 (s15,(iI s12.2 1))) λk16 =>
 bnd (jS c.gQ s12.2) λx18 =>
 bnd (NC x18) λy19 =>
 br (y19==false) (some false)
 (bnd (jS c.gQ s12.2) λx20 =>
 br (decide (x20.kind=2)) (k16 (iI s12.1 1))
 (k16 s12.1)))
 (bnd (Ph c) λy21 =>
 br y21 (jn (λs22:Bool =>
 some s22) λk23 =>
 br (c.token==false) (br (decide (c.keys=0)) (br (decide ((ik c.gQ)=1)) (k23 (decide (s12.1=1)))
 (k23 false))
 (k23 false))
 (k23 false))
 (br (decide (s12.1=0)) (br (c.token==false) (br (decide ((nK .and .i64 c.line.types 32)=0)) (some true)
 (lt (decide (c.cost.generic=0)&&(decide (c.cost.x=0)&&(decide (c.cost.color.a0=0)&&(decide (c.cost.color.a1=0)&&(decide (c.cost.color.a2=0)&&(decide (c.cost.color.a3=0)&&(decide (c.cost.color.a4=0)&&true))))))) λv25 =>
 some v25))
 (lt (decide (c.cost.generic=0)&&(decide (c.cost.x=0)&&(decide (c.cost.color.a0=0)&&(decide (c.cost.color.a1=0)&&(decide (c.cost.color.a2=0)&&(decide (c.cost.color.a3=0)&&(decide (c.cost.color.a4=0)&&true))))))) λv26 =>
 some v26))
 (some false)))
def ND (c:jc):Option Bool :=
 jn (λs1:Bool =>
 br s1 (some false)
 (jn (λs8:Bool =>
 br s8 (some false)
 (ig (VJ c) (0,0))) λk9 =>
 br (decide (c.power<0)) (k9 true)
 (br (decide (99<c.power)) (k9 true)
 (br (decide (c.ji<0)) (k9 true)
 (br (decide (99<c.ji)) (k9 true)
 (bnd (Ef c) λy11 =>
 br (y11==false) (br (!decide (c.power=0)) (k9 true)
 (br (!decide (c.ji=0)) (k9 true)
 (k9 (decide (8<(ik c.gQ))))))
 (k9 (decide (8<(ik c.gQ)))))))))) λk2 =>
 bnd (Qr c.name) λy4 =>
 br (y4==false) (k2 true)
 (bnd (Nz c.cost) λy5 =>
 br (y5==false) (k2 true)
 (bnd (Jh c.line) λy6 =>
 br (y6==false) (k2 true)
 (bnd (Ny c.keys) λy7 =>
 br (y7==false) (k2 true)
 (br (decide (c.color<0)) (k2 true)
 (k2 (decide (31<c.color)))))))
def Rk (l:List jc)(name:ByteArray)(s1:Int)(k2:Int->Option Int):Option Int :=
 br (decide (s1<(ik l))) (bnd (jS l s1) λx4 =>
 br (jf .eql x4.name name) (some s1)
 (k2 (iI s1 1)))
 (some (-1))
def Pj (l:List jc)(name:ByteArray):Option Int :=
 ig (Rk l name) 0
def Pm (l:List jc)(name:ByteArray)(s1:Int)(k2:Int->Option Bool):Option Bool :=
 br (decide (s1<(ik l))) (jn (λs4:Bool =>
 br s4 (some true)
 (k2 (iI s1 1))) λk5 =>
 bnd (jS l s1) λx7 =>
 br (jf .eql x7.name name) (bnd (jS l s1) λx8 =>
 k5 x8.token)
 (k5 false))
 (some false)
def LD (l:List jc)(name:ByteArray):Option Bool :=
 ig (Pm l name) 0
def Fb (l:List jc)(c:jc)(s1:Int)(k2:Int->Option Bool)(s4:Int)(k5:Int->Option Bool):Option Bool :=
 bnd (jS c.gQ s1) λx7 =>
 br (decide (s4<(ik x7.jX))) (bnd (jS c.gQ s1) λx8 =>
 bnd (jS x8.jX s4) λx9 =>
 jn (λs10:Bool =>
 br s10 (some false)
 (k5 (iI s4 1))) λk11 =>
 br (decide (x9.op=12)) (bnd (LD l x9.card) λy13 =>
 k11 (y13==false))
 (k11 false))
 (k2 (iI s1 1))
def Fe (l:List jc)(c:jc)(s1:Int)(k2:Int->Option Bool):Option Bool :=
 br (decide (s1<(ik c.gQ))) (ig (Fb l c s1 k2) 0)
 (some true)
def Gu (l:List jc)(c:jc):Option Bool :=
 ig (Fe l c) 0
def Ji (l:List jc)(s1:Int)(k2:Int->Option (Int×Int)):Option (Int×Int) :=
 br (decide (s1<(ik l))) (bnd (jS l s1) λx4 =>
 bnd (ND x4) λy5 =>
 br (y5==false) (some (s1,9))
 (bnd (jS l s1) λx6 =>
 bnd (Pj l x6.name) λy7 =>
 br (decide (y7<s1)) (some (s1,6))
 (bnd (jS l s1) λx8 =>
 bnd (Gu l x8) λy9 =>
 br (y9==false) (some (s1,7))
 (k2 (iI s1 1)))))
 (some ((-1),0))
def LG (l:List jc):Option (Int×Int) :=
 br (decide (256<(ik l))) (some ((-1),5))
 (ig (Ji l) 0)
def Kv (cards:List jc)(s:gW):Option Bool :=
 bnd (LG cards) λy1 =>
 br (decide (y1.2=0)) (bnd (yg cards s) λy2 =>
 some y2)
 (some false)
def Kw (l:List Int):Option (List Int) :=
 kT l.length 8 (
 some l)
def Ul (answers:List (List Int))(s1:Int×(List (List Int)))(k2:(Int×(List (List Int)))->Option jq):Option jq :=
 br (decide (s1.1<(ik answers))) (bnd (jS answers s1.1) λx4 =>
 bnd (Kw x4) λy5 =>
 kT (s1.2.length+([y5]).length) 24 (
 k2 ((iI s1.1 1),(s1.2++[y5]))))
 (some (jq.mk s1.2 0 OE false false))
def LH (answers:List (List Int)):Option jq :=
 ig (Ul answers) (0,[])
def Jj (s:List iU)(v:iU)(s1:Int)(k2:Int->Option Int):Option Int :=
 br (decide (s1<(ik s))) (bnd (jS s s1) λx4 =>
 lt (decide (v.kind=x4.kind)&&(decide (v.a=x4.a)&&(decide (v.b=x4.b)&&true))) λv5 =>
 br v5 (some s1)
 (k2 (iI s1 1)))
 (some (-1))
def DL (s:List iU)(v:iU):Option Int :=
 ig (Jj s v) 0
def vK (s:List iU)(v:iU):Option Bool :=
 bnd (DL s v) λy1 =>
 some (decide (0<=y1))
def Ah (o:iU)(c1:List iU):Option Bool :=
 bnd (vK c1 o) λy1 =>
 some y1
def Ff (s:List iU)(f:iU->Option Bool)(s1:Int)(k2:Int->Option Int):Option Int :=
 br (decide (s1<(ik s))) (bnd (jS s s1) λx4 =>
 bnd (f x4) λy5 =>
 br y5 (some s1)
 (k2 (iI s1 1)))
 (some (-1))
def zy (s:List iU)(f:iU->Option Bool):Option Int :=
 ig (Ff s f) 0
def wO (del:iU->Option Bool)(s2:Int×Int×(List iU))(k3:(Int×Int×(List iU))->Option (List iU)):Option (List iU) :=
 br (decide (s2.2.1<(ik s2.2.2))) (jn (λs5:Int×(List iU) =>
 k3 (s5.1,(iI s2.2.1 1),s5.2)) λk6 =>
 bnd (lK s2.2.2.length s2.2.1) λj8 =>
 bnd (s2.2.2[j8]?) λx9 =>
 bnd (del x9) λy10 =>
 br (y10==false) (bnd (lK s2.2.2.length s2.1) λj11 =>
 bnd (s2.2.2[j11]?) λx12 =>
 k6 ((iI s2.1 1),(s2.2.2.set j11 x9)))
 (k6 (s2.1,s2.2.2)))
 (bnd (lU s2.2.2.length s2.1 ((s2.2.2.length:Nat):Int)) λx13 =>
 lt YQ λx14 =>
 bnd (lU s2.2.2.length 0 s2.1) λx15 =>
 some (VX (Zp s2.2.2 (0+x13.1) (List.replicate (x13.2-x13.1) x14)) (0+x15.1) (x15.2-x15.1)))
def uh (s:List iU)(del:iU->Option Bool):Option (List iU) :=
 bnd (zy s del) λy1 =>
 br (decide (y1=(-1))) (some s)
 (ig (wO del) (y1,(iI y1 1),s))
def Jk (o:iy)(c1:Int):Option Bool :=
 some (decide (o.id=c1))
def lX (s:List iy)(f:iy->Option Bool)(s1:Int)(k2:Int->Option Int):Option Int :=
 br (decide (s1<(ik s))) (bnd (jS s s1) λx4 =>
 bnd (f x4) λy5 =>
 br y5 (some s1)
 (k2 (iI s1 1)))
 (some (-1))
def iY (s:List iy)(f:iy->Option Bool):Option Int :=
 ig (lX s f) 0
def NF (s:gW)(id:Int):Option Int :=
 bnd (iY s.objects (λa0=>Jk a0 id)) λy1 =>
 some y1
def EH (s:gW)(id:Int):Option (iy×Bool) :=
 bnd (NF s id) λy1 =>
 br (decide (y1<0)) (some (CV,false))
 (bnd (jS s.objects y1) λx2 =>
 some (x2,true))
def ui (s:gW)(id:Int):Option (iy×Bool) :=
 bnd (EH s id) λy1 =>
 br y1.2 (some (y1.1,(decide (y1.1.jB=0))))
 (some (y1.1,false))
def nI (s:gW)(p:Int):Option Bool :=
 br (decide (0<=p)) (br (decide (p<(ik s.gU))) (bnd (jS s.gU p) λx1 =>
 some (x1.lost==false))
 (some false))
 (some false)
def ry (pe:jI):Option Bool :=
 br (decide (1<=pe.amount)) (some (decide (pe.amount<=1000000)))
 (some false)
def Ky (s:gW)(pe:jI):Option Bool :=
 bnd (ry pe) λy1 =>
 br (y1==false) (some false)
 (br (decide (pe.object=0)) (bnd (nI s pe.kE) λy2 =>
 some y2)
 (bnd (ui s pe.object) λy3 =>
 some y3.2))
def Rl (s:gW)(pe:jI):Option Bool :=
 bnd (EH s pe.object) λy1 =>
 br y1.2 (br (decide (y1.1.jB=pe.Jt)) (br (!decide (pe.to=pe.Jt)) (br (decide (0<=pe.to)) (br (decide (pe.to<=4)) (br (decide (0<=pe.kE)) (some (decide (pe.kE<(ik s.gU))))
 (some false))
 (some false))
 (some false))
 (some false))
 (some false))
 (some false)
def Jl (s:gW)(pe:jI):Option Bool :=
 bnd (ui s pe.object) λy1 =>
 br y1.2 (br (decide (0<=pe.counter)) (br (decide (pe.counter<3)) (bnd (ry pe) λy2 =>
 some y2)
 (some false))
 (some false))
 (some false)
def Mc (cards:List jc)(s:gW)(pe:jI):Option Bool :=
 bnd (nI s pe.kE) λy1 =>
 br y1 (br (decide (0<=pe.card)) (br (decide (pe.card<(ik cards))) (bnd (jS cards pe.card) λx2 =>
 br x2.token (bnd (ry pe) λy3 =>
 some y3)
 (some false))
 (some false))
 (some false))
 (some false)
def xq (cards:List jc)(s:gW)(pe:jI):Option Bool :=
 bnd (ui s pe.object) λy1 =>
 br (decide (pe.kind=1)) (bnd (Ky s pe) λy2 =>
 some y2)
 (br (decide (pe.kind=2)) (bnd (Rl s pe) λy3 =>
 some y3)
 (br (decide (pe.kind=3)) (bnd (nI s pe.kE) λy4 =>
 some y4)
 (br (decide (pe.kind=14)) (bnd (nI s pe.kE) λy5 =>
 some y5)
 (br (decide (pe.kind=15)) (bnd (nI s pe.kE) λy6 =>
 some y6)
 (br (decide (pe.kind=17)) (bnd (nI s pe.kE) λy7 =>
 some y7)
 (br (decide (pe.kind=4)) (bnd (nI s pe.kE) λy8 =>
 br y8 (bnd (ry pe) λy9 =>
 some y9)
 (some false))
 (br (decide (pe.kind=5)) (bnd (nI s pe.kE) λy10 =>
 br y10 (bnd (ry pe) λy11 =>
 some y11)
 (some false))
 (br (decide (pe.kind=16)) (bnd (nI s pe.kE) λy12 =>
 br y12 (bnd (ry pe) λy13 =>
 some y13)
 (some false))
 (br (decide (pe.kind=6)) (br y1.2 (some (y1.1.qg==false))
 (some false))
 (br (decide (pe.kind=7)) (br y1.2 (some y1.1.qg)
 (some false))
 (br (decide (pe.kind=8)) (bnd (Jl s pe) λy14 =>
 some y14)
 (br (decide (pe.kind=9)) (bnd (Jl s pe) λy15 =>
 some y15)
 (br (decide (pe.kind=10)) (bnd (Mc cards s pe) λy16 =>
 some y16)
 (br (decide (pe.kind=11)) (bnd (EH s pe.object) λy17 =>
 br y17.2 (br (decide (y17.1.jB=5)) (bnd (nI s pe.kE) λy18 =>
 some y18)
 (some false))
 (some false))
 (br (decide (pe.kind=12)) (br y1.2 (bnd (nI s pe.kE) λy19 =>
 some y19)
 (some false))
 (br (decide (pe.kind=13)) (bnd (ui s pe.source) λy20 =>
 br y1.2 (some y20.2)
 (some false))
 (some false)))))))))))))))))
def Fg (o:iy)(c1:Int):Option Bool :=
 some (decide (o.id=c1))
def pK (s:gW)(all:List gX)(id:Int):Option (iy×gX×Bool) :=
 bnd (iY s.objects (λa0=>Fg a0 id)) λy1 =>
 br (decide (y1<0)) (some (CV,xm,false))
 (br (decide ((ik all)<=y1)) (bnd (jS s.objects y1) λx2 =>
 some (x2,xm,true))
 (bnd (jS s.objects y1) λx3 =>
 bnd (jS all y1) λx4 =>
 some (x3,x4,true)))
def tu (mask:Int)(key:Int):Option Bool :=
 some (decide ((nK .and .i64 mask key)=key))
def strings_Contains (s:ByteArray)(substr:ByteArray):Option Bool:=afo s substr
def NG (x8:List Int)(s9:Int)(k10:Int->Option Bool):Option Bool :=
 br (decide (s9<(ik x8))) (bnd (jS x8 s9) λx12 =>
 jn (λs13:Bool =>
 br s13 (some false)
 (k10 (iI s9 1))) λk14 =>
 br (decide (x12<97)) (br (decide (x12<48)) (k14 (!decide (x12=45)))
 (br (decide (57<x12)) (k14 (!decide (x12=45)))
 (k14 false)))
 (br (decide (122<x12)) (br (decide (x12<48)) (k14 (!decide (x12=45)))
 (br (decide (57<x12)) (k14 (!decide (x12=45)))
 (k14 false)))
 (k14 false)))
 (some true)
def Pn (s:ByteArray):Option Bool :=
 jn (λs1:Bool =>
 br s1 (some false)
 (lt (WO s) λx8 =>
 ig (NG x8) 0)) λk2 =>
 br (decide ((s.size:Int)=0)) (k2 true)
 (br (decide (32<(s.size:Int))) (k2 true)
 (bnd (kY s 0) λx4 =>
 br (decide (x4<97)) (k2 true)
 (bnd (kY s 0) λx5 =>
 br (decide (122<x5)) (k2 true)
 (bnd (kY s (pF (s.size:Int) 1)) λx6 =>
 br (decide (x6=45)) (k2 true)
 (bnd (strings_Contains s (bs [45,45])) λy7 =>
 k2 y7)))))
def uF (i:Int):Option ByteArray :=
 qR i 2 λj1=>(match j1 with|0=>(some (bs [98,97,115,105,99]))  | _=>(some (bs [117,110,105,113,117,101])) )
def Rn (s:ByteArray)(n:Int)(name:Int->Option ByteArray)(s1:Int)(k2:Int->Option Int):Option Int :=
 br (decide (s1<n)) (bnd (name s1) λy4 =>
 br (jf .neq y4 s) (k2 (iI s1 1))
 (bnd (lu .shl .i64 1 s1) λx5 =>
 some x5))
 (some 0)
def Iu (s:ByteArray)(n:Int)(name:Int->Option ByteArray):Option Int :=
 ig (Rn s n name) 0
def wE (i:Int):Option ByteArray :=
 qR i 6 λj1=>(match j1 with|0=>(some (bs [99,114,101,97,116,117,114,101]))  | 1=>(some (bs [105,110,115,116,97,110,116]))  | 2=>(some (bs [114,105,116,117,97,108]))  | 3=>(some (bs [114,101,108,105,99]))  | 4=>(some (bs [99,104,97,114,109]))  | _=>(some (bs [108,97,110,100])) )
def yZ (s:ByteArray):Option Bool :=
 bnd (Pn s) λy1 =>
 br y1 (bnd (Iu s 2 uF) λy2 =>
 br (decide (y2=0)) (bnd (Iu s 6 wE) λy3 =>
 some (decide (y3=0)))
 (some false))
 (some false)
def lJ (n:Int)(most:Int):Option Bool :=
 br (decide (0<=n)) (some (decide (n<=most)))
 (some false)
def uG (b:vI):Option Bool :=
 bnd (lJ b.kind 3) λy1 =>
 br y1 (bnd (lJ b.n 1000000) λy2 =>
 br y2 (br (!decide (b.kind=0)) (some true)
 (some (decide (b.n=0))))
 (some false))
 (some false)
def Iw (f:kD):Option Bool :=
 jn (λs1:Bool =>
 br s1 (some false)
 (jn (λs9:Bool =>
 br s9 (some false)
 (jn (λs14:Bool =>
 br s14 (some false)
 (jn (λs19:Bool =>
 br s19 (some false)
 (bnd (uG f.power) λy23 =>
 br y23 (bnd (uG f.ji) λy24 =>
 br y24 (bnd (uG f.value) λy25 =>
 some y25)
 (some false))
 (some false))) λk20 =>
 br (jf .neq f.sub (bs [])) (bnd (yZ f.sub) λy22 =>
 k20 (y22==false))
 (k20 false))) λk15 =>
 bnd (lJ f.kz 31) λy17 =>
 br (y17==false) (k15 true)
 (bnd (lJ f.jl 31) λy18 =>
 br (y18==false) (k15 true)
 (k15 (!decide ((nK .and .i64 f.kz f.jl)=0)))))) λk10 =>
 bnd (lJ f.types 63) λy12 =>
 br (y12==false) (k10 true)
 (bnd (lJ f.jH 63) λy13 =>
 br (y13==false) (k10 true)
 (k10 (!decide ((nK .and .i64 f.types f.jH)=0)))))) λk2 =>
 bnd (lJ f.jB 5) λy4 =>
 br (y4==false) (k2 true)
 (bnd (lJ f.who 2) λy5 =>
 br (y5==false) (k2 true)
 (bnd (lJ f.self 2) λy6 =>
 br (y6==false) (k2 true)
 (bnd (lJ f.BX 2) λy7 =>
 br (y7==false) (k2 true)
 (bnd (lJ f.keys 131071) λy8 =>
 k2 (y8==false)))))
def nU (phave:Int)(psome:Int)(pnone:Int):Option Bool :=
 br (decide (psome=0)) (some (decide ((nK .and .i64 phave pnone)=0)))
 (br (!decide ((nK .and .i64 phave psome)=0)) (some (decide ((nK .and .i64 phave pnone)=0)))
 (some false))
def Iy (b:vI)(n:Int):Option Bool :=
 br (decide (b.kind=0)) (some true)
 (br (decide (b.kind=1)) (some (decide (b.n<=n)))
 (br (decide (b.kind=2)) (some (decide (n<=b.n)))
 (br (decide (b.kind=3)) (some (decide (n=b.n)))
 (some false))))
def xu (b:vI)(n:Int)(c2:Bool):Option Bool :=
 br (decide (b.kind=0)) (some true)
 (br c2 (bnd (Iy b n) λy1 =>
 some y1)
 (some false))
def Ai (s:List ByteArray)(v:ByteArray)(s1:Int)(k2:Int->Option Int):Option Int :=
 br (decide (s1<(ik s))) (bnd (jS s s1) λx4 =>
 br (jf .eql v x4) (some s1)
 (k2 (iI s1 1)))
 (some (-1))
def slices_Index_string (s:List ByteArray)(v:ByteArray):Option Int :=
 ig (Ai s v) 0
def slices_Contains_string (s:List ByteArray)(v:ByteArray):Option Bool :=
 bnd (slices_Index_string s v) λy1 =>
 some (decide (0<=y1))
def ve (l:zt)(sub:ByteArray):Option Bool :=
 bnd (slices_Contains_string l.subs sub) λy1 =>
 some y1
def oI (n:Int):Option Int :=
 some (if 1000000<(if n<(-1000000) then (-1000000) else n) then 1000000 else (if n<(-1000000) then (-1000000) else n))
def Sr (a:Int)(b:Int):Option Int :=
 bnd (oI a) λy1 =>
 bnd (oI b) λy2 =>
 bnd (oI (WN y1 y2)) λy3 =>
 some y3
def Um (c:rG)(s1:Int)(k2:Int->Option Bool):Option Bool :=
 br (decide (s1<5)) (jn (λs4:Int =>
 jn (λs8:Bool =>
 br s8 (some false)
 (k2 (iI s1 1))) λk9 =>
 br (decide (s4<0)) (k9 true)
 (k9 (decide (9<s4)))) λk5 =>
 qR s1 5 λj7=>(match j7 with|0=>(k5 c.color.a0)  | 1=>(k5 c.color.a1)  | 2=>(k5 c.color.a2)  | 3=>(k5 c.color.a3)  | _=>(k5 c.color.a4) ))
 (br (decide (0<=c.generic)) (br (decide (c.generic<=99)) (br (decide (0<=c.x)) (some (decide (c.x<=2)))
 (some false))
 (some false))
 (some false))
def Po (c:rG):Option Bool :=
 ig (Um c) 0
def Cf (a:Int)(b:Int):Option Int :=
 bnd (oI a) λy1 =>
 bnd (oI b) λy2 =>
 bnd (oI (iI y1 y2)) λy3 =>
 some y3
def Md (c:rG)(x:Int)(s2:Int×Int)(k3:(Int×Int)->Option Int):Option Int :=
 br (decide (s2.2<5)) (jn (λs5:Int =>
 k3 ((iI s2.1 s5),(iI s2.2 1))) λk6 =>
 qR s2.2 5 λj8=>(match j8 with|0=>(k6 c.color.a0)  | 1=>(k6 c.color.a1)  | 2=>(k6 c.color.a2)  | 3=>(k6 c.color.a3)  | _=>(k6 c.color.a4) ))
 (bnd (Sr c.x (if 0<x then x else 0)) λy9 =>
 bnd (Cf s2.1 y9) λy10 =>
 some y10)
def Jm (c:rG)(x:Int):Option Int :=
 bnd (Po c) λy1 =>
 br (y1==false) (some 0)
 (ig (Md c x) (c.generic,0))
def og (o:iy)(t:gX)(you:Int)(source:Int)(f:kD):Option Bool :=
 jn (λs1:Bool =>
 br s1 (some false)
 (jn (λs5:Unit =>
 bnd (xu f.power t.power (!decide ((nK .and .i64 t.line.types 1)=0))) λy57 =>
 br y57 (bnd (xu f.ji t.ji (!decide ((nK .and .i64 t.line.types 1)=0))) λy58 =>
 br y58 (bnd (Jm t.cost 0) λy59 =>
 bnd (Iy f.value y59) λy60 =>
 some y60)
 (some false))
 (some false)) λk6 =>
 jn (λs8:Bool =>
 br s8 (some false)
 (br (decide (f.who=2)) (br (decide (t.control=you)) (some false)
 (jn (λs11:Bool =>
 br s11 (some false)
 (br (decide (f.self=2)) (br (decide (o.id=source)) (some false)
 (bnd (nU t.line.types f.types f.jH) λy14 =>
 br (y14==false) (some false)
 (bnd (nU t.kz f.kz f.jl) λy15 =>
 br (y15==false) (some false)
 (jn (λs16:Bool =>
 br s16 (some false)
 (bnd (tu t.keys f.keys) λy20 =>
 br (y20==false) (some false)
 (jn (λs21:Bool =>
 br s21 (some false)
 (br (decide (f.BX=2)) (br o.qg (some false)
 (k6 ()))
 (k6 ()))) λk22 =>
 br (decide (f.BX=1)) (k22 (o.qg==false))
 (k22 false)))) λk17 =>
 br (jf .neq f.sub (bs [])) (bnd (ve t.line f.sub) λy19 =>
 k17 (y19==false))
 (k17 false)))))
 (bnd (nU t.line.types f.types f.jH) λy24 =>
 br (y24==false) (some false)
 (bnd (nU t.kz f.kz f.jl) λy25 =>
 br (y25==false) (some false)
 (jn (λs26:Bool =>
 br s26 (some false)
 (bnd (tu t.keys f.keys) λy30 =>
 br (y30==false) (some false)
 (jn (λs31:Bool =>
 br s31 (some false)
 (br (decide (f.BX=2)) (br o.qg (some false)
 (k6 ()))
 (k6 ()))) λk32 =>
 br (decide (f.BX=1)) (k32 (o.qg==false))
 (k32 false)))) λk27 =>
 br (jf .neq f.sub (bs [])) (bnd (ve t.line f.sub) λy29 =>
 k27 (y29==false))
 (k27 false)))))) λk12 =>
 br (decide (f.self=1)) (k12 (!decide (o.id=source)))
 (k12 false)))
 (jn (λs34:Bool =>
 br s34 (some false)
 (br (decide (f.self=2)) (br (decide (o.id=source)) (some false)
 (bnd (nU t.line.types f.types f.jH) λy37 =>
 br (y37==false) (some false)
 (bnd (nU t.kz f.kz f.jl) λy38 =>
 br (y38==false) (some false)
 (jn (λs39:Bool =>
 br s39 (some false)
 (bnd (tu t.keys f.keys) λy43 =>
 br (y43==false) (some false)
 (jn (λs44:Bool =>
 br s44 (some false)
 (br (decide (f.BX=2)) (br o.qg (some false)
 (k6 ()))
 (k6 ()))) λk45 =>
 br (decide (f.BX=1)) (k45 (o.qg==false))
 (k45 false)))) λk40 =>
 br (jf .neq f.sub (bs [])) (bnd (ve t.line f.sub) λy42 =>
 k40 (y42==false))
 (k40 false)))))
 (bnd (nU t.line.types f.types f.jH) λy47 =>
 br (y47==false) (some false)
 (bnd (nU t.kz f.kz f.jl) λy48 =>
 br (y48==false) (some false)
 (jn (λs49:Bool =>
 br s49 (some false)
 (bnd (tu t.keys f.keys) λy53 =>
 br (y53==false) (some false)
 (jn (λs54:Bool =>
 br s54 (some false)
 (br (decide (f.BX=2)) (br o.qg (some false)
 (k6 ()))
 (k6 ()))) λk55 =>
 br (decide (f.BX=1)) (k55 (o.qg==false))
 (k55 false)))) λk50 =>
 br (jf .neq f.sub (bs [])) (bnd (ve t.line f.sub) λy52 =>
 k50 (y52==false))
 (k50 false)))))) λk35 =>
 br (decide (f.self=1)) (k35 (!decide (o.id=source)))
 (k35 false)))) λk9 =>
 br (decide (f.who=1)) (k9 (!decide (t.control=you)))
 (k9 false))) λk2 =>
 bnd (Iw f) λy4 =>
 br (y4==false) (k2 true)
 (k2 (!decide (o.jB=f.jB)))
def wP (o:iy)(t:gX)(ok:Bool)(c3:Int)(c4:Int)(c5:oQ):Option Bool :=
 br ok (bnd (og o t c3 c4 c5.filter) λy1 =>
 some y1)
 (some false)
def Aj (s:gW)(p:Int)(you:Int)(who:Int):Option Bool :=
 jn (λs1:Bool =>
 br s1 (some false)
 (br (decide (who=0)) (some true)
 (br (decide (who=1)) (some (decide (p=you)))
 (br (decide (who=2)) (some (!decide (p=you)))
 (some false))))) λk2 =>
 br (decide (p<0)) (k2 true)
 (br (decide ((ik s.gU)<=p)) (k2 true)
 (bnd (jS s.gU p) λx4 =>
 k2 x4.lost))
def qE (c0:gW)(c1:jI)(c2:Int)(c3:oQ):Option Bool :=
 bnd (Aj c0 c1.kE c2 c3.who) λy1 =>
 some y1
def Jy (cards:List jc)(s:gW)(all:List gX)(pe:jI)(pr:oQ)(you:Int)(source:Int):Option Bool :=
 br (!decide (pr.on=pe.kind)) (some false)
 (br (decide (pe.kind=1)) (br (decide (pr.who=0)) (jn (λs1:Bool =>
 some s1) λk2 =>
 br (!decide (pe.object=0)) (bnd (pK s all pe.object) λy4 =>
 bnd (wP y4.1 y4.2.1 y4.2.2 you source pr) λy5 =>
 k2 y5)
 (k2 false))
 (br (decide (pe.object=0)) (bnd (qE s pe you pr) λy6 =>
 some y6)
 (some false)))
 (br (decide (pe.kind=2)) (br (decide (pr.doF=5)) (jn (λs7:Bool =>
 some s7) λk8 =>
 br (decide (pe.Jt=0)) (br (decide (pe.to=3)) (bnd (pK s all pe.object) λy10 =>
 bnd (wP y10.1 y10.2.1 y10.2.2 you source pr) λy11 =>
 k8 y11)
 (k8 false))
 (k8 false))
 (br (decide (pe.to=0)) (none)
 (some false)))
 (br (decide (pe.kind=8)) (bnd (pK s all pe.object) λy12 =>
 bnd (wP y12.1 y12.2.1 y12.2.2 you source pr) λy13 =>
 some y13)
 (br (decide (pe.kind=3)) (bnd (qE s pe you pr) λy14 =>
 some y14)
 (br (decide (pe.kind=4)) (bnd (qE s pe you pr) λy15 =>
 some y15)
 (br (decide (pe.kind=5)) (bnd (qE s pe you pr) λy16 =>
 some y16)
 (br (decide (pe.kind=10)) (bnd (qE s pe you pr) λy17 =>
 some y17)
 (some false))))))))
def zf (cards:List jc)(s:gW)(all:List gX)(pe:jI)(s10:Int×(List iU))(k11:(Int×(List iU))->Option (List iU))(x13:iy)(y14:iy×gX×Bool)(s15:Int×(List iU))(k16:(Int×(List iU))->Option (List iU)):Option (List iU) :=
 br (decide (s15.1<(ik y14.2.1.gQ))) (jn (λs18:(List iU) =>
 k16 ((iI s15.1 1),s18)) λk19 =>
 bnd (jS y14.2.1.gQ s15.1) λx21 =>
 jn (λs22:Bool =>
 br s22 (lt (iU.mk 12 x13.id s15.1) λx26 =>
 kT (s15.2.length+([x26]).length) 24 (
 k19 (s15.2++[x26])))
 (k19 s15.2)) λk23 =>
 br (decide (x13.jB=0)) (br (decide (x21.kind=5)) (bnd (Jy cards s all pe x21.replace y14.2.1.control x13.id) λy25 =>
 k23 y25)
 (k23 false))
 (k23 false))
 (k11 ((iI s10.1 1),s15.2))
def zg (cards:List jc)(s:gW)(all:List gX)(pe:jI)(s10:Int×(List iU))(k11:(Int×(List iU))->Option (List iU)):Option (List iU) :=
 br (decide (s10.1<(ik s.objects))) (bnd (jS s.objects s10.1) λx13 =>
 bnd (pK s all x13.id) λy14 =>
 ig (zf cards s all pe s10 k11 x13 y14) (0,s10.2))
 (jn (λs27:Bool =>
 br s27 (some s10.2)
 (none)) λk28 =>
 br (!decide (pe.kind=2)) (k28 true)
 (k28 (!decide (pe.to=0))))
def sW (cards:List jc)(s:gW)(all:List gX)(pe:jI):Option (List iU) :=
 bnd (xq cards s pe) λy1 =>
 br (y1==false) (some ([]))
 (jn (λs2:(List iU) =>
 ig (zg cards s all pe) (0,s2)) λk3 =>
 bnd (pK s all pe.object) λy5 =>
 jn (λs6:Bool =>
 br s6 (lt (iU.mk 12 y5.1.id (-1)) λx9 =>
 kT (([x9]).length) 24 (
 k3 ([x9])))
 (k3 ([]))) λk7 =>
 br y5.2.2 (br (decide (pe.kind=1)) (br (!decide (pe.object=0)) (k7 (decide (0<y5.1.BD)))
 (k7 false))
 (k7 false))
 (k7 false))
def Eg (cards:List jc)(s:gW)(all:List gX)(pe:jI)(used:List iU):Option (List iU) :=
 bnd (sW cards s all pe) λy1 =>
 bnd (uh y1 (λa0=>Ah a0 used)) λy2 =>
 some y2
def sH (c0:List jc)(c1:gW)(c2:List gX)(c3:jI)(c4:List iU)(c5:Bool):Option (List iU) :=
 bnd (Eg c0 c1 c2 c3 ([])) λy1 =>
 br c5 (some y1)
 (none)
def Gv (pe:jI):Option Bool :=
 br (decide (pe.kind=1)) (some (!decide (pe.object=0)))
 (br (decide (pe.kind=2)) (br (decide (pe.Jt=0)) (some true)
 (some (decide (pe.to=0))))
 (br (decide (pe.kind=6)) (some true)
 (br (decide (pe.kind=7)) (some true)
 (br (decide (pe.kind=8)) (some true)
 (br (decide (pe.kind=9)) (some true)
 (some false))))))
def Qu (s:gW)(all:List gX)(pe:jI)(s2:Int)(k3:Int->Option Int):Option Int :=
 br (decide (s2<(ik s.objects))) (bnd (jS s.objects s2) λx5 =>
 br (!decide (x5.id=pe.object)) (k3 (iI s2 1))
 (br (decide (s2<(ik all))) (bnd (jS all s2) λx6 =>
 some x6.control)
 (some 0)))
 (some pe.kE)
def Me (s:gW)(all:List gX)(pe:jI):Option Int :=
 bnd (Gv pe) λy1 =>
 br (y1==false) (some pe.kE)
 (ig (Qu s all pe) 0)
def Jz (cards:List jc)(s:gW)(all:List gX)(pe:jI)(o:iU):Option oQ :=
 bnd (pK s all o.a) λy1 =>
 br (!decide (y1.1.jB=0)) (none)
 (jn (λs2:Bool =>
 br s2 (some Ld)
 (bnd (jS y1.2.1.gQ o.b) λx5 =>
 some x5.replace)) λk3 =>
 br (decide (o.b<0)) (k3 true)
 (k3 (decide ((ik y1.2.1.gQ)<=o.b))))
def yh (s:List jO):Option (List jO) :=
 rQ (some ([]))
 (kT (0+s.length) 152 (
 some s))
def slices_Clone_int (s:List Int):Option (List Int) :=
 rQ (some ([]))
 (kT (0+s.length) 8 (
 some s))
def yJ (p:jO):Option jO :=
 bnd (slices_Clone_int p.library) λy1 =>
 bnd (slices_Clone_int p.hand) λy2 =>
 bnd (slices_Clone_int p.BC) λy3 =>
 some { p with library:=y1,hand:=y2,BC:=y3 }
def yj (s:List iy):Option (List iy) :=
 rQ (some ([]))
 (kT (0+s.length) 128 (
 some s))
def Ak (s:List oN):Option (List oN) :=
 rQ (some ([]))
 (kT (0+s.length) 824 (
 some s))
def jP (s:List nC):Option (List nC) :=
 rQ (some ([]))
 (kT (0+s.length) 176 (
 some s))
def oC (s:List rW):Option (List rW) :=
 rQ (some ([]))
 (kT (0+s.length) 144 (
 some s))
def pV (s:List jh):Option (List jh) :=
 rQ (some ([]))
 (kT (0+s.length) 560 (
 some s))
def uk (a:iG)(y1:List nC)(y2:List rW)(y3:List jh)(s4:Int×(List jh))(k5:(Int×(List jh))->Option iG):Option iG :=
 br (decide (s4.1<(ik y3))) (bnd (lK s4.2.length s4.1) λj7 =>
 bnd (s4.2[j7]?) λx8 =>
 bnd (jP x8.mQ) λy9 =>
 bnd (lK s4.2.length s4.1) λj10 =>
 bnd (s4.2[j10]?) λx11 =>
 k5 ((iI s4.1 1),(s4.2.set j10 { x11 with mQ:=y9 })))
 (some { a with mQ:=y1,specs:=y2,jX:=s4.2 })
def rJ (a:iG):Option iG :=
 bnd (jP a.mQ) λy1 =>
 bnd (oC a.specs) λy2 =>
 bnd (pV a.jX) λy3 =>
 ig (uk a y1 y2 y3) (0,y3)
def yt (s:List ru):Option (List ru) :=
 rQ (some ([]))
 (kT (0+s.length) 16 (
 some s))
def xw (s:List iP):Option (List iP) :=
 rQ (some ([]))
 (kT (0+s.length) 768 (
 some s))
def Am (s:List qc):Option (List qc) :=
 rQ (some ([]))
 (kT (0+s.length) 80 (
 some s))
def Eh (s:gW)(s2:Int×(List jO))(y10:List iy)(y11:List Int)(y12:List Int)(s14:Int×(List oN))(s28:Int×(List iP))(y36:List qc)(s37:Int×(List qc))(k38:(Int×(List qc))->Option gW):Option gW :=
 br (decide (s37.1<(ik y36))) (bnd (lK s37.2.length s37.1) λj40 =>
 bnd (s37.2[j40]?) λx41 =>
 bnd (slices_Clone_int x41.objects) λy42 =>
 bnd (lK s37.2.length s37.1) λj43 =>
 bnd (s37.2[j43]?) λx44 =>
 bnd (lK s37.2.length s37.1) λj45 =>
 bnd ((s37.2.set j43 { x44 with objects:=y42 })[j45]?) λx46 =>
 bnd (jP x46.mQ) λy47 =>
 bnd (lK s37.2.length s37.1) λj48 =>
 bnd ((s37.2.set j43 { x44 with objects:=y42 })[j48]?) λx49 =>
 k38 ((iI s37.1 1),((s37.2.set j43 { x44 with objects:=y42 }).set j48 { x49 with mQ:=y47 })))
 (bnd (slices_Clone_int s.extra) λy50 =>
 some { s with gU:=s2.2,objects:=y10,jk:=y11,qZ:=y12,stack:=s14.2,waiting:=s28.2,mf:=s37.2,extra:=y50 })
def Ei (s:gW)(s2:Int×(List jO))(y10:List iy)(y11:List Int)(y12:List Int)(s14:Int×(List oN))(y27:List iP)(s28:Int×(List iP))(k29:(Int×(List iP))->Option gW):Option gW :=
 br (decide (s28.1<(ik y27))) (bnd (lK s28.2.length s28.1) λj31 =>
 bnd (s28.2[j31]?) λx32 =>
 bnd (rJ x32.jM) λy33 =>
 bnd (lK s28.2.length s28.1) λj34 =>
 bnd (s28.2[j34]?) λx35 =>
 k29 ((iI s28.1 1),(s28.2.set j34 { x35 with jM:=y33 })))
 (bnd (Am s.mf) λy36 =>
 ig (Eh s s2 y10 y11 y12 s14 s28 y36) (0,y36))
def Ej (s:gW)(s2:Int×(List jO))(y10:List iy)(y11:List Int)(y12:List Int)(y13:List oN)(s14:Int×(List oN))(k15:(Int×(List oN))->Option gW):Option gW :=
 br (decide (s14.1<(ik y13))) (bnd (lK s14.2.length s14.1) λj17 =>
 bnd (s14.2[j17]?) λx18 =>
 bnd (rJ x18.jM) λy19 =>
 bnd (lK s14.2.length s14.1) λj20 =>
 bnd (s14.2[j20]?) λx21 =>
 bnd (lK s14.2.length s14.1) λj22 =>
 bnd ((s14.2.set j20 { x21 with jM:=y19 })[j22]?) λx23 =>
 bnd (yt x23.targets) λy24 =>
 bnd (lK s14.2.length s14.1) λj25 =>
 bnd ((s14.2.set j20 { x21 with jM:=y19 })[j25]?) λx26 =>
 k15 ((iI s14.1 1),((s14.2.set j20 { x21 with jM:=y19 }).set j25 { x26 with targets:=y24 })))
 (bnd (xw s.waiting) λy27 =>
 ig (Ei s s2 y10 y11 y12 s14 y27) (0,y27))
def Em (s:gW)(y1:List jO)(s2:Int×(List jO))(k3:(Int×(List jO))->Option gW):Option gW :=
 br (decide (s2.1<(ik y1))) (bnd (lK s2.2.length s2.1) λj5 =>
 bnd (s2.2[j5]?) λx6 =>
 bnd (yJ x6) λy7 =>
 bnd (lK s2.2.length s2.1) λj8 =>
 bnd (s2.2[j8]?) λx9 =>
 k3 ((iI s2.1 1),(s2.2.set j8 y7)))
 (bnd (yj s.objects) λy10 =>
 bnd (slices_Clone_int s.jk) λy11 =>
 bnd (slices_Clone_int s.qZ) λy12 =>
 bnd (Ak s.stack) λy13 =>
 ig (Ej s s2 y10 y11 y12 y13) (0,y13))
def EI (s:gW):Option gW :=
 bnd (yh s.gU) λy1 =>
 ig (Em s y1) (0,y1)
def MB (cards:List jc)(s:gW)(all:List gX)(pe:jI)(o:iU):Option (gW×jI×Bool) :=
 bnd (EI s) λy1 =>
 bnd (sW cards s all pe) λy2 =>
 bnd (vK y2 o) λy3 =>
 br (y3==false) (some (y1,pe,true))
 (bnd (Jz cards s all pe o) λy4 =>
 jn (λs5:Int×Bool =>
 jn (λs11:Bool =>
 br s11 (some (y1,Ja,false))
 (some (y1,{ pe with to:=s5.1,qg:=s5.2 },true))) λk12 =>
 br false (k12 (decide (pe.amount<=0)))
 (k12 false)) λk6 =>
 br (decide (o.b=(-1))) (none)
 (jn (λs8:Bool =>
 br s8 (some (y1,Ja,false))
 (br (decide (y4.doF=2)) (none)
 (br (decide (y4.doF=3)) (none)
 (br (decide (y4.doF=4)) (none)
 (br (decide (y4.doF=5)) (k6 (y4.jB,pe.qg))
 (br (decide (y4.doF=6)) (k6 (pe.to,true))
 (br (decide (y4.doF=7)) (none)
 (k6 (pe.to,pe.qg))))))))) λk9 =>
 br (decide (y4.doF=1)) (k9 true)
 (k9 (decide (y4.doF=8)))))
def Fh (c:rG)(s6:Int×Int)(k7:(Int×Int)->Option Int):Option Int :=
 br (decide (s6.2<5)) (jn (λs9:Int =>
 k7 (s9,(iI s6.2 1))) λk10 =>
 jn (λs12:Int =>
 br (decide (0<s12)) (bnd (lu .shl .i64 1 s6.2) λx16 =>
 k10 (nK .or .i64 s6.1 x16))
 (k10 s6.1)) λk13 =>
 qR s6.2 5 λj15=>(match j15 with|0=>(k13 c.color.a0)  | 1=>(k13 c.color.a1)  | 2=>(k13 c.color.a2)  | 3=>(k13 c.color.a3)  | _=>(k13 c.color.a4) ))
 (some s6.1)
def C9 (c:rG):Option Int :=
 jn (λs1:Bool =>
 br s1 (some 0)
 (ig (Fh c) (0,0))) λk2 =>
 bnd (Po c) λy4 =>
 br (y4==false) (k2 true)
 (lt (decide (c.color.a0=0)&&(decide (c.color.a1=0)&&(decide (c.color.a2=0)&&(decide (c.color.a3=0)&&(decide (c.color.a4=0)&&true))))) λv5 =>
 k2 v5)
def slices_Clone_string (s:List ByteArray):Option (List ByteArray) :=
 rQ (some ([]))
 (kT (0+s.length) 16 (
 some s))
def um (a:iG)(y1:List nC)(y2:List rW)(y3:List jh)(s4:Int×(List jh))(k5:(Int×(List jh))->Option iG):Option iG :=
 br (decide (s4.1<(ik y3))) (bnd (lK s4.2.length s4.1) λj7 =>
 bnd (s4.2[j7]?) λx8 =>
 bnd (jP x8.mQ) λy9 =>
 bnd (lK s4.2.length s4.1) λj10 =>
 bnd (s4.2[j10]?) λx11 =>
 k5 ((iI s4.1 1),(s4.2.set j10 { x11 with mQ:=y9 })))
 (some { a with mQ:=y1,specs:=y2,jX:=s4.2 })
def uH (a:iG):Option iG :=
 bnd (jP a.mQ) λy1 =>
 bnd (oC a.specs) λy2 =>
 bnd (pV a.jX) λy3 =>
 ig (um a y1 y2 y3) (0,y3)
def yK (c:jc)(y1:Int)(y2:List ByteArray)(s3:Int×(List iG))(k4:(Int×(List iG))->Option gX):Option gX :=
 br (decide (s3.1<(ik c.gQ))) (bnd (jS c.gQ s3.1) λx6 =>
 bnd (uH x6) λy7 =>
 kT (s3.2.length+([y7]).length) 640 (
 k4 ((iI s3.1 1),(s3.2++[y7]))))
 (some { c with kz:=(nK .or .i64 y1 c.color),line:={ c.line with subs:=y2 },gQ:=s3.2,control:=0 })
def Ap (c:jc):Option gX :=
 bnd (C9 c.cost) λy1 =>
 bnd (slices_Clone_string c.line.subs) λy2 =>
 ig (yK c y1 y2) (0,[])
def En (cards:List jc)(o:iy):Option gX :=
 jn (λs1:Int =>
 jn (λs4:gX =>
 br (decide (o.jB=0)) (some { s4 with control:=o.control })
 (br (decide (o.jB=5)) (some { s4 with control:=o.control })
 (some { s4 with control:=o.owner }))) λk5 =>
 jn (λs7:Bool =>
 br s7 (bnd (jS cards s1) λx10 =>
 bnd (Ap x10) λy11 =>
 k5 y11)
 (k5 xm)) λk8 =>
 br (decide (0<=s1)) (k8 (decide (s1<(ik cards))))
 (k8 false)) λk2 =>
 br (decide (o.copy<0)) (k2 o.card)
 (k2 o.copy)
def Dz (k5:(List iF)->Option (List iF))(x7:iy)(y8:gX)(s9:Int×(List iF))(k10:(Int×(List iF))->Option (List iF)):Option (List iF) :=
 br (decide (s9.1<(ik y8.gQ))) (jn (λs12:(List iF) =>
 k10 ((iI s9.1 1),s12)) λk13 =>
 bnd (jS y8.gQ s9.1) λx15 =>
 br (decide (x15.kind=1)) (bnd (jP x15.mQ) λy16 =>
 lt (iF.mk x7.id s9.1 x7.control x7.stamp false ([]) x15.filter y16) λx17 =>
 kT (s9.2.length+([x17]).length) 224 (
 k13 (s9.2++[x17])))
 (k13 s9.2))
 (k5 s9.2)
def DC (s:gW)(s18:Int×(List iF))(k19:(Int×(List iF))->Option (List iF)):Option (List iF) :=
 br (decide (s18.1<(ik s.mf))) (bnd (jS s.mf s18.1) λx21 =>
 bnd (slices_Clone_int x21.objects) λy22 =>
 bnd (jP x21.mQ) λy23 =>
 lt (iF.mk x21.source (-1) x21.control x21.stamp true y22 lM y23) λx24 =>
 kT (s18.2.length+([x24]).length) 224 (
 k19 ((iI s18.1 1),(s18.2++[x24]))))
 (some s18.2)
def DD (cards:List jc)(s:gW)(s1:Int×(List iF))(k2:(Int×(List iF))->Option (List iF)):Option (List iF) :=
 br (decide (s1.1<(ik s.objects))) (jn (λs4:(List iF) =>
 k2 ((iI s1.1 1),s4)) λk5 =>
 bnd (jS s.objects s1.1) λx7 =>
 br (!decide (x7.jB=0)) (k5 s1.2)
 (bnd (En cards x7) λy8 =>
 ig (Dz k5 x7 y8) (0,s1.2)))
 (ig (DC s) (0,s1.2))
def Eo (cards:List jc)(s:gW):Option (List iF) :=
 ig (DD cards s) (0,[])
def Aq (cards:List jc)(s:gW)(y1:List iF)(s4:Int×(List gX)×(List Bool))(k5:(Int×(List gX)×(List Bool))->Option iC):Option iC :=
 br (decide (s4.1<(ik s.objects))) (bnd (jS s.objects s4.1) λx7 =>
 bnd (En cards x7) λy8 =>
 kT (s4.2.1.length+([y8]).length) 176 (
 k5 ((iI s4.1 1),(s4.2.1++[y8]),s4.2.2)))
 (bnd (lD (ik y1) (ik y1) 1) λj9 =>
 lt false λx10 =>
 bnd (lD (ik y1) (ik y1) 24) λj11 =>
 lt ([]) λx12 =>
 some (iC.mk s y1 s4.2.1 s4.2.2 (List.replicate j9 x10) (List.replicate j11 x12)))
def Dc (cards:List jc)(s:gW):Option iC :=
 bnd (Eo cards s) λy1 =>
 bnd (lD (ik s.objects) (ik s.objects) 1) λj2 =>
 lt false λx3 =>
 ig (Aq cards s y1) (0,[],(List.replicate j2 x3))
def uo (k:Int)(c1:Int):Option Bool :=
 some (decide (k=c1))
def uI (s:List Int)(f:Int->Option Bool)(s1:Int)(k2:Int->Option Int):Option Int :=
 br (decide (s1<(ik s))) (bnd (jS s s1) λx4 =>
 bnd (f x4) λy5 =>
 br y5 (some s1)
 (k2 (iI s1 1)))
 (some (-1))
def oW (s:List Int)(f:Int->Option Bool):Option Int :=
 ig (uI s f) 0
def uj (del:Int->Option Bool)(s2:Int×Int×(List Int))(k3:(Int×Int×(List Int))->Option (List Int)):Option (List Int) :=
 br (decide (s2.2.1<(ik s2.2.2))) (jn (λs5:Int×(List Int) =>
 k3 (s5.1,(iI s2.2.1 1),s5.2)) λk6 =>
 bnd (lK s2.2.2.length s2.2.1) λj8 =>
 bnd (s2.2.2[j8]?) λx9 =>
 bnd (del x9) λy10 =>
 br (y10==false) (bnd (lK s2.2.2.length s2.1) λj11 =>
 bnd (s2.2.2[j11]?) λx12 =>
 k6 ((iI s2.1 1),(s2.2.2.set j11 x9)))
 (k6 (s2.1,s2.2.2)))
 (bnd (lU s2.2.2.length s2.1 ((s2.2.2.length:Nat):Int)) λx13 =>
 lt 0 λx14 =>
 bnd (lU s2.2.2.length 0 s2.1) λx15 =>
 some (VX (Zp s2.2.2 (0+x13.1) (List.replicate (x13.2-x13.1) x14)) (0+x15.1) (x15.2-x15.1)))
def ql (s:List Int)(del:Int->Option Bool):Option (List Int) :=
 bnd (oW s del) λy1 =>
 br (decide (y1=(-1))) (some s)
 (ig (uj del) (y1,(iI y1 1),s))
def Jn (a:Int)(b:Int):Option Int :=
 bnd (oI a) λy1 =>
 bnd (oI b) λy2 =>
 bnd (oI (pF y1 y2)) λy3 =>
 some y3
def Ci (c:Oy Int):Option Int :=
 bnd (Jn c.a0 c.a1) λy1 =>
 some y1
def uJ (w:iC)(s1:Int×(List gX))(k2:(Int×(List gX))->Option iC):Option iC :=
 br (decide (s1.1<(ik w.s.objects))) (jn (λs4:(List gX) =>
 k2 ((iI s1.1 1),s4)) λk5 =>
 bnd (jS w.s.objects s1.1) λx7 =>
 bnd (lK s1.2.length s1.1) λj8 =>
 jn (λs9:Bool =>
 br s9 (bnd (Ci x7.counters) λy13 =>
 bnd (s1.2[j8]?) λx14 =>
 bnd (Cf x14.power y13) λy15 =>
 bnd (s1.2[j8]?) λx16 =>
 bnd (Cf x16.ji y13) λy17 =>
 bnd (s1.2[j8]?) λx18 =>
 bnd ((s1.2.set j8 { x18 with power:=y15 })[j8]?) λx19 =>
 k5 ((s1.2.set j8 { x18 with power:=y15 }).set j8 { x19 with ji:=y17 }))
 (k5 s1.2)) λk10 =>
 br (decide (x7.jB=0)) (bnd (s1.2[j8]?) λx12 =>
 k10 (!decide ((nK .and .i64 x12.line.types 1)=0)))
 (k10 false))
 (some { w with iH:=s1.2 })
def tC (w:iC):Option iC :=
 ig (uJ w) (0,w.iH)
def zA (kind:Int):Option Int :=
 br (decide (kind=1)) (some 1)
 (br (decide (kind=2)) (some 2)
 (br (decide (kind=3)) (some 2)
 (br (decide (kind=4)) (some 2)
 (br (decide (kind=5)) (some 2)
 (br (decide (kind=6)) (some 3)
 (br (decide (kind=7)) (some 3)
 (br (decide (kind=8)) (some 4)
 (br (decide (kind=9)) (some 4)
 (br (decide (kind=10)) (some 4)
 (br (decide (kind=11)) (some (pF (iI 5 kind) 11))
 (br (decide (kind=12)) (some (pF (iI 5 kind) 11))
 (br (decide (kind=13)) (some (pF (iI 5 kind) 11))
 (br (decide (kind=14)) (some (pF (iI 5 kind) 11))
 (some 0))))))))))))))
def vW (m:nC)(c1:Int):Option Bool :=
 bnd (zA m.kind) λy1 =>
 some (decide (y1=c1))
def uK (s:List nC)(f:nC->Option Bool)(s1:Int)(k2:Int->Option Int):Option Int :=
 br (decide (s1<(ik s))) (bnd (jS s s1) λx4 =>
 bnd (f x4) λy5 =>
 br y5 (some s1)
 (k2 (iI s1 1)))
 (some (-1))
def xx (s:List nC)(f:nC->Option Bool):Option Int :=
 ig (uK s f) 0
def uM (s:List nC)(f:nC->Option Bool):Option Bool :=
 bnd (xx s f) λy1 =>
 some (decide (0<=y1))
def Cj (f:iF)(stage:Int):Option Bool :=
 bnd (uM f.mQ (λa0=>vW a0 stage)) λy1 =>
 some y1
def yD (needs:List (List Bool))(i:Int)(j:Int):Option Bool :=
 br (decide (0<=i)) (br (decide (0<=j)) (br (decide (i<(ik needs))) (bnd (jS needs i) λx1 =>
 br (decide (j<(ik x1))) (bnd (jS needs i) λx2 =>
 bnd (jS x2 j) λx3 =>
 some x3)
 (some false))
 (some false))
 (some false))
 (some false)
def yu (s:List Int)(v:Int)(s1:Int)(k2:Int->Option Int):Option Int :=
 br (decide (s1<(ik s))) (bnd (jS s s1) λx4 =>
 br (decide (v=x4)) (some s1)
 (k2 (iI s1 1)))
 (some (-1))
def slices_Index_int (s:List Int)(v:Int):Option Int :=
 ig (yu s v) 0
def rY (i:Int)(j:Int)(c2:List Int)(c3:List (List Bool)):Option Bool :=
 bnd (slices_Index_int c2 i) λy1 =>
 bnd (slices_Index_int c2 j) λy2 =>
 br (decide (0<=y1)) (br (decide (0<=y2)) (bnd (jS c3 y1) λx3 =>
 bnd (jS x3 y2) λx4 =>
 some x4)
 (some false))
 (some false)
def xy (j:Int)(c1:Int)(c2:List (List Bool))(c3:Int->Int->Option Bool):Option Bool :=
 br (!decide (j=c1)) (bnd (yD c2 c1 j) λy1 =>
 br y1 (bnd (c3 j c1) λy2 =>
 some (y2==false))
 (some false))
 (some false)
def qF (s:List Int)(f:Int->Option Bool):Option Bool :=
 bnd (oW s f) λy1 =>
 some (decide (0<=y1))
def slices_Contains_int (s:List Int)(v:Int):Option Bool :=
 bnd (slices_Index_int s v) λy1 =>
 some (decide (0<=y1))
def zh (left:List Int)(s1:Int×(List Int))(k2:(Int×(List Int))->Option (List Int)):Option (List Int) :=
 br (decide (s1.1<(ik left))) (jn (λs4:(List Int) =>
 k2 ((iI s1.1 1),s4)) λk5 =>
 bnd (jS left s1.1) λx7 =>
 jn (λs8:Bool =>
 br s8 (kT (s1.2.length+([x7]).length) 8 (
 k5 (s1.2++[x7])))
 (k5 s1.2)) λk9 =>
 br (decide (0<=x7)) (bnd (slices_Contains_int s1.2 x7) λy11 =>
 k9 (y11==false))
 (k9 false))
 (some s1.2)
def yL (left:List Int):Option (List Int) :=
 ig (zh left) (0,[])
def yM (l:List Int)(needs:List (List Bool))(s2:Int×(List (List Bool)))(k3:(Int×(List (List Bool)))->Option ((List Int)×(List (List Bool))))(s11:Int×(List (List Bool)))(k12:(Int×(List (List Bool)))->Option ((List Int)×(List (List Bool)))):Option ((List Int)×(List (List Bool))) :=
 br (decide (s11.1<(ik l))) (bnd (lK s11.2.length s2.1) λj14 =>
 bnd (s11.2[j14]?) λx15 =>
 bnd (jS l s2.1) λx16 =>
 bnd (jS l s11.1) λx17 =>
 bnd (yD needs x16 x17) λy18 =>
 bnd (lK x15.length s11.1) λj19 =>
 bnd (s11.2[j14]?) λx20 =>
 bnd (x20[j19]?) λx21 =>
 k12 ((iI s11.1 1),(s11.2.set j14 (x20.set j19 y18))))
 (k3 ((iI s2.1 1),s11.2))
def yN (l:List Int)(s22:Int×(List (List Bool)))(s25:Int×(List (List Bool)))(k26:(Int×(List (List Bool)))->Option ((List Int)×(List (List Bool))))(s28:Int×(List (List Bool)))(k29:(Int×(List (List Bool)))->Option ((List Int)×(List (List Bool)))):Option ((List Int)×(List (List Bool))) :=
 br (decide (s28.1<(ik l))) (jn (λs31:(List (List Bool)) =>
 k29 ((iI s28.1 1),s31)) λk32 =>
 jn (λs34:Bool =>
 br s34 (bnd (lK s28.2.length s25.1) λj47 =>
 bnd (s28.2[j47]?) λx48 =>
 bnd (lK x48.length s28.1) λj49 =>
 lt true λx50 =>
 bnd (s28.2[j47]?) λx51 =>
 bnd (x51[j49]?) λx52 =>
 k32 (s28.2.set j47 (x51.set j49 x50)))
 (k32 s28.2)) λk35 =>
 bnd (lK s28.2.length s25.1) λj37 =>
 bnd (s28.2[j37]?) λx38 =>
 bnd (lK x38.length s22.1) λj39 =>
 bnd (s28.2[j37]?) λx40 =>
 bnd (x40[j39]?) λx41 =>
 br x41 (bnd (lK s28.2.length s22.1) λj42 =>
 bnd (s28.2[j42]?) λx43 =>
 bnd (lK x43.length s28.1) λj44 =>
 bnd (s28.2[j42]?) λx45 =>
 bnd (x45[j44]?) λx46 =>
 k35 x46)
 (k35 false))
 (k26 ((iI s25.1 1),s28.2))
def yO (l:List Int)(s22:Int×(List (List Bool)))(k23:(Int×(List (List Bool)))->Option ((List Int)×(List (List Bool))))(s25:Int×(List (List Bool)))(k26:(Int×(List (List Bool)))->Option ((List Int)×(List (List Bool)))):Option ((List Int)×(List (List Bool))) :=
 br (decide (s25.1<(ik l))) (ig (yN l s22 s25 k26) (0,s25.2))
 (k23 ((iI s22.1 1),s25.2))
def yP (l:List Int)(s22:Int×(List (List Bool)))(k23:(Int×(List (List Bool)))->Option ((List Int)×(List (List Bool)))):Option ((List Int)×(List (List Bool))) :=
 br (decide (s22.1<(ik l))) (ig (yO l s22 k23) (0,s22.2))
 (some (l,s22.2))
def yQ (l:List Int)(needs:List (List Bool))(j1:Nat)(s2:Int×(List (List Bool)))(k3:(Int×(List (List Bool)))->Option ((List Int)×(List (List Bool)))):Option ((List Int)×(List (List Bool))) :=
 lt (decide (s2.1<(ik (List.replicate j1 ([]:List Bool))))) λv5 =>
 br v5 (bnd (lD (ik l) (ik l) 1) λj6 =>
 lt false λx7 =>
 bnd (lK s2.2.length s2.1) λj8 =>
 bnd (s2.2[j8]?) λx10 =>
 ig (yM l needs s2 k3) (0,(s2.2.set j8 (List.replicate j6 x7))))
 (ig (yP l) (0,s2.2))
def Ar (l:List Int)(needs:List (List Bool)):Option ((List Int)×(List (List Bool))) :=
 bnd (lD (ik l) (ik l) 24) λj1 =>
 ig (yQ l needs j1) (0,(List.replicate j1 ([]:List Bool)))
def DI (needs:List (List Bool))(y1:List Int)(y2:(List Int)×(List (List Bool)))(s3:Int×(List Int))(k4:(Int×(List Int))->Option (List Int)):Option (List Int) :=
 br (decide (s3.1<(ik y1))) (jn (λs6:(List Int) =>
 k4 ((iI s3.1 1),s6)) λk7 =>
 bnd (jS y1 s3.1) λx9 =>
 bnd (qF y1 (λa0=>xy a0 x9 needs (λa0 a1=>rY a0 a1 y2.1 y2.2))) λy10 =>
 br (y10==false) (kT (s3.2.length+([x9]).length) 8 (
 k7 (s3.2++[x9])))
 (k7 s3.2))
 (some s3.2)
def Ep (left:List Int)(needs:List (List Bool)):Option (List Int) :=
 bnd (yL left) λy1 =>
 bnd (Ar y1 needs) λy2 =>
 ig (DI needs y1 y2) (0,[])
def Au (stamps:List Int)(i:Int):Option Int :=
 br (decide (i<(ik stamps))) (bnd (jS stamps i) λx1 =>
 some x1)
 (some 0)
def Fj (stamps:List Int)(y1:List Int)(s2:Int×Int)(k3:(Int×Int)->Option Int):Option Int :=
 br (decide (s2.2<(ik y1))) (jn (λs5:Int =>
 k3 (s5,(iI s2.2 1))) λk6 =>
 bnd (jS y1 s2.2) λx8 =>
 br (decide (s2.1<0)) (k6 x8)
 (bnd (Au stamps x8) λy9 =>
 bnd (Au stamps s2.1) λy10 =>
 jn (λs11:Bool =>
 br s11 (k6 x8)
 (k6 s2.1)) λk12 =>
 br (decide (y9<y10)) (k12 true)
 (br (decide (y9=y10)) (k12 (decide (x8<s2.1)))
 (k12 false))))
 (some s2.1)
def Gw (left:List Int)(stamps:List Int)(needs:List (List Bool)):Option Int :=
 bnd (Ep left needs) λy1 =>
 ig (Fj stamps y1) ((-1),0)
def cmp_isNaN_int (x:Int):Option Bool :=
 some (!decide (x=x))
def cmp_Compare_int (x:Int)(y:Int):Option Int :=
 bnd (cmp_isNaN_int x) λy1 =>
 bnd (cmp_isNaN_int y) λy2 =>
 br y1 (br y2 (some 0)
 (some (-1)))
 (br y2 (some 1)
 (br (decide (x<y)) (some (-1))
 (br (decide (y<x)) (some 1)
 (some 0))))
def wF (o:iy)(id:Int):Option Int :=
 bnd (cmp_Compare_int o.id id) λy1 =>
 some y1
def uN (x:List iy)(target:Int)(cmp:iy->Int->Option Int)(s1:Int×Int)(k2:(Int×Int)->Option (Int×Bool)):Option (Int×Bool) :=
 br (decide (s1.1<s1.2)) (bnd (lu .shr .u64 (IntKind.wrap .u64 (iI s1.1 s1.2)) 1) λx4 =>
 bnd (jS x (IntKind.wrap .i64 x4)) λx5 =>
 bnd (cmp x5 target) λy6 =>
 br (decide (y6<0)) (k2 ((iI (IntKind.wrap .i64 x4) 1),s1.2))
 (k2 (s1.1,(IntKind.wrap .i64 x4))))
 (br (decide (s1.1<(ik x))) (bnd (jS x s1.1) λx7 =>
 bnd (cmp x7 target) λy8 =>
 some (s1.1,(decide (y8=0))))
 (some (s1.1,false)))
def pq (x:List iy)(target:Int)(cmp:iy->Int->Option Int):Option (Int×Bool) :=
 ig (uN x target cmp) (0,(ik x))
def vg (s:gW)(id:Int):Option Int :=
 bnd (pq s.objects id wF) λy1 =>
 br (y1.2==false) (some (-1))
 (some y1.1)
def qU (w:iC)(i:Int):Option Int :=
 bnd (jS w.forces i) λx1 =>
 bnd (vg w.s x1.source) λy2 =>
 jn (λs3:Bool =>
 br s3 (bnd (jS w.iH y2) λx6 =>
 some x6.control)
 (some x1.control)) λk4 =>
 br (x1.fixed==false) (k4 (decide (0<=y2)))
 (k4 false)
def qm (w:iC)(i:Int):Option Bool :=
 bnd (jS w.forces i) λx1 =>
 jn (λs2:Bool =>
 br s2 (some true)
 (bnd (vg w.s x1.source) λy7 =>
 br (decide (y7<0)) (some true)
 (bnd (lK w.dropped.length y7) λj8 =>
 bnd (w.dropped[j8]?) λx9 =>
 some (x9==false)))) λk3 =>
 br x1.fixed (k3 true)
 (bnd (lK w.done.length i) λj5 =>
 bnd (w.done[j5]?) λx6 =>
 k3 x6)
def pM (w:iC)(x6:iF)(y7:Int)(s8:Int×(List Int))(k9:(Int×(List Int))->Option (List Int)):Option (List Int) :=
 br (decide (s8.1<(ik w.s.objects))) (jn (λs11:(List Int) =>
 k9 ((iI s8.1 1),s11)) λk12 =>
 bnd (jS w.s.objects s8.1) λx14 =>
 jn (λs15:Bool =>
 br s15 (kT (s8.2.length+([s8.1]).length) 8 (
 k12 (s8.2++[s8.1])))
 (k12 s8.2)) λk16 =>
 br (decide (x14.jB=0)) (br x6.fixed (bnd (slices_Contains_int x6.objects x14.id) λy18 =>
 br y18 (k16 true)
 (br (x6.fixed==false) (bnd (lK w.iH.length s8.1) λj19 =>
 bnd (w.iH[j19]?) λx20 =>
 bnd (og x14 x20 y7 x6.source x6.filter) λy21 =>
 k16 y21)
 (k16 false)))
 (br (x6.fixed==false) (bnd (lK w.iH.length s8.1) λj22 =>
 bnd (w.iH[j22]?) λx23 =>
 bnd (og x14 x23 y7 x6.source x6.filter) λy24 =>
 k16 y24)
 (k16 false)))
 (k16 false))
 (some s8.2)
def nO (w:iC)(i:Int):Option (List Int) :=
 bnd (lK w.done.length i) λj1 =>
 bnd (w.done[j1]?) λx2 =>
 br x2 (bnd (lK w.hits.length i) λj3 =>
 bnd (w.hits[j3]?) λx4 =>
 some x4)
 (bnd (qm w i) λy5 =>
 br (y5==false) (some ([]))
 (bnd (jS w.forces i) λx6 =>
 bnd (qU w i) λy7 =>
 ig (pM w x6 y7) (0,[])))
def BI (s:gW)(all:List gX)(you:Int)(source:Int)(f:kD)(s1:Int×(List Int))(k2:(Int×(List Int))->Option (List Int)):Option (List Int) :=
 br (decide (s1.1<(ik s.objects))) (jn (λs4:(List Int) =>
 k2 ((iI s1.1 1),s4)) λk5 =>
 bnd (jS s.objects s1.1) λx7 =>
 jn (λs8:iy×gX =>
 bnd (og s8.1 s8.2 you source f) λy13 =>
 br y13 (kT (s1.2.length+([s8.1.id]).length) 8 (
 k5 (s1.2++[s8.1.id])))
 (k5 s1.2)) λk9 =>
 br (decide (s1.1<(ik all))) (bnd (lK all.length s1.1) λj11 =>
 bnd (all[j11]?) λx12 =>
 k9 (x7,x12))
 (k9 (x7,xm)))
 (some s1.2)
def Cm (s:gW)(all:List gX)(you:Int)(source:Int)(f:kD):Option (List Int) :=
 ig (BI s all you source f) (0,[])
def sS (w:iC)(i:Int)(stage:Int)(x1:iF)(s4:Int×(List Int))(k5:(Int×(List Int))->Option (List Int)):Option (List Int) :=
 br (decide (s4.1<(ik x1.mQ))) (jn (λs7:(List Int) =>
 k5 ((iI s4.1 1),s7)) λk8 =>
 bnd (jS x1.mQ s4.1) λx10 =>
 jn (λs11:Bool =>
 br s11 (bnd (qU w i) λy15 =>
 bnd (Cm w.s w.iH y15 x1.source x10.filter) λy16 =>
 bnd (lK s4.2.length s4.1) λj17 =>
 bnd (s4.2[j17]?) λx18 =>
 k8 (s4.2.set j17 ((y16.length:Nat):Int)))
 (k8 s4.2)) λk12 =>
 br (decide (x10.kind=11)) (bnd (zA x10.kind) λy14 =>
 k12 (decide (y14=stage)))
 (k12 false))
 (some s4.2)
def pO (w:iC)(i:Int)(stage:Int):Option (List Int) :=
 bnd (jS w.forces i) λx1 =>
 bnd (lD (ik x1.mQ) (ik x1.mQ) 8) λj2 =>
 lt 0 λx3 =>
 ig (sS w i stage x1) (0,(List.replicate j2 x3))
def vM (w:iC)(i:Int):Option Int :=
 bnd (jS w.forces i) λx1 =>
 bnd (vg w.s x1.source) λy2 =>
 jn (λs3:Bool =>
 br s3 (bnd (lK w.iH.length y2) λj6 =>
 bnd (w.iH[j6]?) λx7 =>
 some x7.control)
 (some x1.control)) λk4 =>
 br (x1.fixed==false) (k4 (decide (0<=y2)))
 (k4 false)
def vN (s:List jh):Option (List jh) :=
 rQ (some ([]))
 (kT (0+s.length) 560 (
 some s))
def xA (s:List iG):Option (List iG) :=
 rQ (some ([]))
 (kT (0+s.length) 640 (
 some s))
def CB (s3:Int×(List iG))(k4:(Int×(List iG))->Option gX)(j6:Nat)(x7:iG)(y8:List nC)(y9:List rW)(y10:List jh)(s11:Int×(List jh))(k12:(Int×(List jh))->Option gX):Option gX :=
 br (decide (s11.1<(ik y10))) (bnd (lK s11.2.length s11.1) λj14 =>
 bnd (s11.2[j14]?) λx15 =>
 bnd (jP x15.mQ) λy16 =>
 bnd (lK s11.2.length s11.1) λj17 =>
 bnd (s11.2[j17]?) λx18 =>
 k12 ((iI s11.1 1),(s11.2.set j17 { x18 with mQ:=y16 })))
 (k4 ((iI s3.1 1),(s3.2.set j6 { x7 with mQ:=y8,specs:=y9,jX:=s11.2 })))
def CE (t:gX)(y1:List ByteArray)(y2:List iG)(s3:Int×(List iG))(k4:(Int×(List iG))->Option gX):Option gX :=
 br (decide (s3.1<(ik y2))) (bnd (lK s3.2.length s3.1) λj6 =>
 bnd (s3.2[j6]?) λx7 =>
 bnd (jP x7.mQ) λy8 =>
 bnd (oC x7.specs) λy9 =>
 bnd (vN x7.jX) λy10 =>
 ig (CB s3 k4 j6 x7 y8 y9 y10) (0,y10))
 (some { t with line:={ t.line with subs:=y1 },gQ:=s3.2 })
def Fp (t:gX):Option gX :=
 bnd (slices_Clone_string t.line.subs) λy1 =>
 bnd (xA t.gQ) λy2 =>
 ig (CE t y1 y2) (0,y2)
def Aw (n:Int)(least:Int)(most:Int):Option Bool :=
 br (decide (least<=n)) (some (decide (n<=most)))
 (some false)
def Pq (m:nC):Option nC :=
 br (decide (m.kind=2)) (some (nC.mk m.kind m.n 0 (bs []) lM))
 (br (decide (m.kind=3)) (some (nC.mk m.kind m.n 0 (bs []) lM))
 (br (decide (m.kind=6)) (some (nC.mk m.kind m.n 0 (bs []) lM))
 (br (decide (m.kind=7)) (some (nC.mk m.kind m.n 0 (bs []) lM))
 (br (decide (m.kind=8)) (some (nC.mk m.kind m.n 0 (bs []) lM))
 (br (decide (m.kind=9)) (some (nC.mk m.kind m.n 0 (bs []) lM))
 (br (decide (m.kind=4)) (some (nC.mk m.kind 0 0 m.sub lM))
 (br (decide (m.kind=5)) (some (nC.mk m.kind 0 0 m.sub lM))
 (br (decide (m.kind=11)) (some (nC.mk m.kind 0 0 (bs []) m.filter))
 (br (decide (m.kind=12)) (some { m with sub:=(bs []),filter:=lM })
 (br (decide (m.kind=13)) (some { m with sub:=(bs []),filter:=lM })
 (some (nC.mk m.kind 0 0 (bs []) lM))))))))))))
def Xm (m:nC):Option Bool :=
 jn (λs1:Bool =>
 br s1 (some false)
 (br (decide (m.kind=2)) (bnd (Aw m.n 1 63) λy7 =>
 br y7 (some (decide ((nK .and .i64 m.n 6)=0)))
 (some false))
 (br (decide (m.kind=3)) (bnd (Aw m.n 1 63) λy8 =>
 br y8 (some (decide ((nK .and .i64 m.n 6)=0)))
 (some false))
 (br (decide (m.kind=4)) (bnd (yZ m.sub) λy9 =>
 some y9)
 (br (decide (m.kind=5)) (bnd (yZ m.sub) λy10 =>
 some y10)
 (br (decide (m.kind=6)) (bnd (Aw m.n 0 31) λy11 =>
 some y11)
 (br (decide (m.kind=7)) (bnd (Aw m.n 1 31) λy12 =>
 some y12)
 (br (decide (m.kind=8)) (bnd (Aw m.n 1 131071) λy13 =>
 some y13)
 (br (decide (m.kind=9)) (bnd (Aw m.n 1 131071) λy14 =>
 some y14)
 (br (decide (m.kind=11)) (bnd (Iw m.filter) λy15 =>
 some y15)
 (br (decide (m.kind=12)) (bnd (Aw m.n 0 99) λy16 =>
 br y16 (bnd (Aw m.m 0 99) λy17 =>
 some y17)
 (some false))
 (br (decide (m.kind=13)) (bnd (Aw m.n (-99) 99) λy18 =>
 br y18 (bnd (Aw m.m (-99) 99) λy19 =>
 some y19)
 (some false))
 (some true))))))))))))) λk2 =>
 bnd (Aw m.kind 1 14) λy4 =>
 br (y4==false) (k2 true)
 (bnd (Pq m) λy5 =>
 lt ((decide (m.kind=y5.kind)&&(decide (m.n=y5.n)&&(decide (m.m=y5.m)&&(jf .eql m.sub y5.sub&&(decide (m.filter.jB=y5.filter.jB)&&(decide (m.filter.who=y5.filter.who)&&(decide (m.filter.self=y5.filter.self)&&(decide (m.filter.types=y5.filter.types)&&(decide (m.filter.jH=y5.filter.jH)&&(decide (m.filter.kz=y5.filter.kz)&&(decide (m.filter.jl=y5.filter.jl)&&(jf .eql m.filter.sub y5.filter.sub&&(decide (m.filter.keys=y5.filter.keys)&&(decide (m.filter.BX=y5.filter.BX)&&(decide (m.filter.power.kind=y5.filter.power.kind)&&(decide (m.filter.power.n=y5.filter.power.n)&&(decide (m.filter.ji.kind=y5.filter.ji.kind)&&(decide (m.filter.ji.n=y5.filter.ji.n)&&(decide (m.filter.value.kind=y5.filter.value.kind)&&(decide (m.filter.value.n=y5.filter.value.n)&&true))))))))))))))))))))==false) λv6 =>
 k2 v6)
def G9 (s:ByteArray)(c1:ByteArray):Option Bool :=
 some (jf .geq s c1)
def rZ (s:List ByteArray)(f:ByteArray->Option Bool)(s1:Int)(k2:Int->Option Int):Option Int :=
 br (decide (s1<(ik s))) (bnd (jS s s1) λx4 =>
 bnd (f x4) λy5 =>
 br y5 (some s1)
 (k2 (iI s1 1)))
 (some (-1))
def qG (s:List ByteArray)(f:ByteArray->Option Bool):Option Int :=
 ig (rZ s f) 0
def Df (s:List ByteArray)(i:Int)(v:List ByteArray):Option (List ByteArray):=ab7 s i v
def Dh (l:zt)(sub:ByteArray):Option zt :=
 bnd (slices_Clone_string l.subs) λy1 =>
 jn (λs2:Bool =>
 br s2 (some { l with subs:=y1 })
 (bnd (qG y1 (λa0=>G9 a0 sub)) λy7 =>
 jn (λs8:Int =>
 bnd (Df y1 s8 ([sub])) λy11 =>
 some { l with subs:=y11 }) λk9 =>
 br (decide (y7<0)) (k9 (ik y1))
 (k9 y7))) λk3 =>
 bnd (yZ sub) λy5 =>
 br (y5==false) (k3 true)
 (bnd (ve { l with subs:=y1 } sub) λy6 =>
 br y6 (k3 true)
 (k3 (decide (4<=(ik y1)))))
def LJ (t:gX)(m:nC)(you:Int)(count:Int):Option gX :=
 bnd (Fp t) λy1 =>
 bnd (Xm m) λy2 =>
 br (y2==false) (some y1)
 (br (decide (m.kind=1)) (some { y1 with control:=you })
 (br (decide (m.kind=2)) (some { y1 with line:={ y1.line with types:=m.n } })
 (br (decide (m.kind=3)) (some { y1 with line:={ y1.line with types:=(nK .or .i64 y1.line.types m.n) } })
 (br (decide (m.kind=4)) (some { y1 with line:={ y1.line with subs:=[m.sub] } })
 (br (decide (m.kind=5)) (bnd (Dh y1.line m.sub) λy3 =>
 some { y1 with line:=y3 })
 (br (decide (m.kind=6)) (some { y1 with kz:=m.n })
 (br (decide (m.kind=7)) (some { y1 with kz:=(nK .or .i64 y1.kz m.n) })
 (br (decide (m.kind=8)) (some { y1 with keys:=(nK .or .i64 y1.keys m.n) })
 (br (decide (m.kind=9)) (some { y1 with keys:=(nK .andNot .i64 y1.keys m.n) })
 (br (decide (m.kind=10)) (some { y1 with keys:=0,gQ:=[] })
 (br (decide (m.kind=11)) (bnd (oI count) λy4 =>
 bnd (oI count) λy5 =>
 some { y1 with power:=y4,ji:=y5 })
 (br (decide (m.kind=12)) (some { y1 with power:=m.n,ji:=m.m })
 (br (decide (m.kind=13)) (bnd (Cf y1.power m.n) λy6 =>
 bnd (Cf y1.ji m.m) λy7 =>
 some { y1 with power:=y6,ji:=y7 })
 (br (decide (m.kind=14)) (some { y1 with power:=y1.ji,ji:=y1.power })
 (some y1)))))))))))))))
def qH (stage:Int)(y2:List Int)(y3:Int)(s4:Int×(List gX)×(List Bool))(k5:(Int×(List gX)×(List Bool))->Option iC)(x7:Int)(x8:iF)(s9:Int×(List gX)×(List Bool))(k10:(Int×(List gX)×(List Bool))->Option iC):Option iC :=
 br (decide (s9.1<(ik x8.mQ))) (jn (λs12:(List gX)×(List Bool) =>
 k10 ((iI s9.1 1),s12.1,s12.2)) λk13 =>
 bnd (jS x8.mQ s9.1) λx15 =>
 bnd (zA x15.kind) λy16 =>
 br (!decide (y16=stage)) (k13 (s9.2.1,s9.2.2))
 (bnd (lK s9.2.1.length x7) λj17 =>
 bnd (s9.2.1[j17]?) λx18 =>
 bnd (lK y2.length s9.1) λj19 =>
 bnd (y2[j19]?) λx20 =>
 bnd (LJ x18 x15 y3 x20) λy21 =>
 bnd (lK s9.2.1.length x7) λj22 =>
 bnd (s9.2.1[j22]?) λx23 =>
 br (decide (x15.kind=10)) (bnd (lK s9.2.2.length x7) λj24 =>
 lt true λx25 =>
 bnd (s9.2.2[j24]?) λx26 =>
 k13 ((s9.2.1.set j22 y21),(s9.2.2.set j24 x25)))
 (k13 ((s9.2.1.set j22 y21),s9.2.2))))
 (k5 ((iI s4.1 1),s9.2.1,s9.2.2))
def qI (w:iC)(i:Int)(stage:Int)(y1:List Int)(y2:List Int)(y3:Int)(s4:Int×(List gX)×(List Bool))(k5:(Int×(List gX)×(List Bool))->Option iC):Option iC :=
 br (decide (s4.1<(ik y1))) (bnd (jS y1 s4.1) λx7 =>
 bnd (jS w.forces i) λx8 =>
 ig (qH stage y2 y3 s4 k5 x7 x8) (0,s4.2.1,s4.2.2))
 (bnd (lK w.done.length i) λj27 =>
 lt true λx28 =>
 bnd (w.done[j27]?) λx29 =>
 bnd (lK w.hits.length i) λj30 =>
 bnd (w.hits[j30]?) λx31 =>
 some (iC.mk w.s w.forces s4.2.1 s4.2.2 (w.done.set j27 x28) (w.hits.set j30 y1)))
def oZ (w:iC)(i:Int)(stage:Int):Option iC :=
 bnd (nO w i) λy1 =>
 bnd (pO w i stage) λy2 =>
 bnd (vM w i) λy3 =>
 ig (qI w i stage y1 y2 y3) (0,w.iH,w.dropped)
def vX (f:kD)(stage:Int):Option Bool :=
 jn (λs1:Bool =>
 br (decide (stage=1)) (some (!decide (f.who=0)))
 (br (decide (stage=2)) (br (!decide ((nK .or .i64 f.types f.jH)=0)) (some true)
 (br (jf .neq f.sub (bs [])) (some true)
 (some s1)))
 (br (decide (stage=3)) (some (!decide ((nK .or .i64 f.kz f.jl)=0)))
 (br (decide (stage=4)) (some (!decide (f.keys=0)))
 (some s1))))) λk2 =>
 br (!decide (f.power.kind=0)) (k2 true)
 (k2 (!decide (f.ji.kind=0)))
def sU (w:iC)(i:Int)(stage:Int)(x1:iF)(s2:Int)(k3:Int->Option Bool):Option Bool :=
 br (decide (s2<(ik x1.mQ))) (bnd (jS x1.mQ s2) λx5 =>
 jn (λs6:Bool =>
 br s6 (some true)
 (k3 (iI s2 1))) λk7 =>
 br (decide (x5.kind=11)) (bnd (zA x5.kind) λy9 =>
 br (decide (y9=stage)) (bnd (vX x5.filter stage) λy10 =>
 k7 y10)
 (k7 false))
 (k7 false))
 (br (x1.fixed==false) (bnd (lK w.done.length i) λj11 =>
 bnd (w.done[j11]?) λx12 =>
 br (x12==false) (br (decide (stage=4)) (some true)
 (bnd (vX x1.filter stage) λy13 =>
 some y13))
 (some false))
 (some false))
def rC (w:iC)(i:Int)(stage:Int):Option Bool :=
 bnd (jS w.forces i) λx1 =>
 ig (sU w i stage x1) 0
def rf (w:iC)(i:Int)(stage:Int):Option kH :=
 bnd (qm w i) λy1 =>
 bnd (nO w i) λy2 =>
 bnd (pO w i stage) λy3 =>
 some (kH.mk y1 y2 y3)
def su (w:iC)(i:Int):Option Bool :=
 bnd (jS w.forces i) λx1 =>
 jn (λs2:Bool =>
 br s2 (some true)
 (bnd (vg w.s x1.source) λy6 =>
 br (decide (y6<0)) (some true)
 (bnd (jS w.dropped y6) λx7 =>
 some (x7==false)))) λk3 =>
 br x1.fixed (k3 true)
 (bnd (jS w.done i) λx5 =>
 k3 x5)
def uO (w:iC)(x4:iF)(y5:Int)(s6:Int×(List Int))(k7:(Int×(List Int))->Option (List Int)):Option (List Int) :=
 br (decide (s6.1<(ik w.s.objects))) (jn (λs9:(List Int) =>
 k7 ((iI s6.1 1),s9)) λk10 =>
 bnd (jS w.s.objects s6.1) λx12 =>
 jn (λs13:Bool =>
 br s13 (kT (s6.2.length+([s6.1]).length) 8 (
 k10 (s6.2++[s6.1])))
 (k10 s6.2)) λk14 =>
 br (decide (x12.jB=0)) (br x4.fixed (bnd (slices_Contains_int x4.objects x12.id) λy16 =>
 br y16 (k14 true)
 (br (x4.fixed==false) (bnd (jS w.iH s6.1) λx17 =>
 bnd (og x12 x17 y5 x4.source x4.filter) λy18 =>
 k14 y18)
 (k14 false)))
 (br (x4.fixed==false) (bnd (jS w.iH s6.1) λx19 =>
 bnd (og x12 x19 y5 x4.source x4.filter) λy20 =>
 k14 y20)
 (k14 false)))
 (k14 false))
 (some s6.2)
def tH (w:iC)(i:Int):Option (List Int) :=
 bnd (jS w.done i) λx1 =>
 br x1 (bnd (jS w.hits i) λx2 =>
 some x2)
 (bnd (su w i) λy3 =>
 br (y3==false) (some ([]))
 (bnd (jS w.forces i) λx4 =>
 bnd (qU w i) λy5 =>
 ig (uO w x4 y5) (0,[])))
def BJ (s:gW)(all:List gX)(you:Int)(source:Int)(f:kD)(s1:Int×(List Int))(k2:(Int×(List Int))->Option (List Int)):Option (List Int) :=
 br (decide (s1.1<(ik s.objects))) (jn (λs4:(List Int) =>
 k2 ((iI s1.1 1),s4)) λk5 =>
 bnd (jS s.objects s1.1) λx7 =>
 jn (λs8:iy×gX =>
 bnd (og s8.1 s8.2 you source f) λy12 =>
 br y12 (kT (s1.2.length+([s8.1.id]).length) 8 (
 k5 (s1.2++[s8.1.id])))
 (k5 s1.2)) λk9 =>
 br (decide (s1.1<(ik all))) (bnd (jS all s1.1) λx11 =>
 k9 (x7,x11))
 (k9 (x7,xm)))
 (some s1.2)
def CG (s:gW)(all:List gX)(you:Int)(source:Int)(f:kD):Option (List Int) :=
 ig (BJ s all you source f) (0,[])
def vO (w:iC)(i:Int)(stage:Int)(x1:iF)(s4:Int×(List Int))(k5:(Int×(List Int))->Option (List Int)):Option (List Int) :=
 br (decide (s4.1<(ik x1.mQ))) (jn (λs7:(List Int) =>
 k5 ((iI s4.1 1),s7)) λk8 =>
 bnd (jS x1.mQ s4.1) λx10 =>
 jn (λs11:Bool =>
 br s11 (bnd (qU w i) λy15 =>
 bnd (CG w.s w.iH y15 x1.source x10.filter) λy16 =>
 bnd (lK s4.2.length s4.1) λj17 =>
 bnd (s4.2[j17]?) λx18 =>
 k8 (s4.2.set j17 ((y16.length:Nat):Int)))
 (k8 s4.2)) λk12 =>
 br (decide (x10.kind=11)) (bnd (zA x10.kind) λy14 =>
 k12 (decide (y14=stage)))
 (k12 false))
 (some s4.2)
def uq (w:iC)(i:Int)(stage:Int):Option (List Int) :=
 bnd (jS w.forces i) λx1 =>
 bnd (lD (ik x1.mQ) (ik x1.mQ) 8) λj2 =>
 lt 0 λx3 =>
 ig (vO w i stage x1) (0,(List.replicate j2 x3))
def xQ (w:iC)(i:Int)(stage:Int):Option kH :=
 bnd (su w i) λy1 =>
 bnd (tH w i) λy2 =>
 bnd (uq w i stage) λy3 =>
 some (kH.mk y1 y2 y3)
def yw (ps1:List Int)(ps2:List Int)(s1:Int)(k2:Int->Option Bool):Option Bool :=
 br (decide (s1<(ik ps1))) (bnd (jS ps1 s1) λx4 =>
 bnd (jS ps2 s1) λx5 =>
 br (!decide (x4=x5)) (some false)
 (k2 (iI s1 1)))
 (some true)
def slices_Equal_int (ps1:List Int)(ps2:List Int):Option Bool :=
 br (!decide ((ik ps1)=(ik ps2))) (some false)
 (ig (yw ps1 ps2) 0)
def uw (a:kH)(b:kH):Option Bool :=
 br ((a.qy==b.qy)==false) (some true)
 (bnd (slices_Equal_int a.hits b.hits) λy1 =>
 br (y1==false) (some true)
 (bnd (slices_Equal_int a.numbers b.numbers) λy2 =>
 some (y2==false)))
def rD (s:List gX):Option (List gX) :=
 rQ (some ([]))
 (kT (0+s.length) 176 (
 some s))
def qA (s:List Bool):Option (List Bool) :=
 rQ (some ([]))
 (kT (0+s.length) 1 (
 some s))
def sJ (s:List (List Int)):Option (List (List Int)) :=
 rQ (some ([]))
 (kT (0+s.length) 24 (
 some s))
def sK (w:iC):Option iC :=
 bnd (rD w.iH) λy1 =>
 bnd (qA w.dropped) λy2 =>
 bnd (qA w.done) λy3 =>
 bnd (sJ w.hits) λy4 =>
 some (iC.mk w.s w.forces y1 y2 y3 y4)
def qJ (left:List Int)(stage:Int)(s11:Int×(List (Int×kH)))(s24:Int×(List (List Bool)))(k25:(Int×(List (List Bool)))->Option (List (List Bool)))(x28:Int)(y30:iC)(s31:Int×(List (List Bool)))(k32:(Int×(List (List Bool)))->Option (List (List Bool))):Option (List (List Bool)) :=
 br (decide (s31.1<(ik left))) (jn (λs34:(List (List Bool)) =>
 k32 ((iI s31.1 1),s34)) λk35 =>
 bnd (lK left.length s31.1) λj37 =>
 bnd (left[j37]?) λx38 =>
 uY s11.2 x38 Q8 λx39 b40 =>
 jn (λs41:Bool =>
 br s41 (bnd (lK s31.2.length x38) λj44 =>
 bnd (s31.2[j44]?) λx45 =>
 bnd (xQ y30 x38 stage) λy46 =>
 bnd (uw x39 y46) λy47 =>
 bnd (lK x45.length x28) λj48 =>
 bnd (s31.2[j44]?) λx49 =>
 bnd (x49[j48]?) λx50 =>
 k35 (s31.2.set j44 (x49.set j48 y47)))
 (k35 s31.2)) λk42 =>
 br b40 (k42 (!decide (x38=x28)))
 (k42 false))
 (k25 ((iI s24.1 1),s31.2))
def qK (w:iC)(left:List Int)(stage:Int)(s11:Int×(List (Int×kH)))(s24:Int×(List (List Bool)))(k25:(Int×(List (List Bool)))->Option (List (List Bool))):Option (List (List Bool)) :=
 br (decide (s24.1<(ik left))) (bnd (lK left.length s24.1) λj27 =>
 bnd (left[j27]?) λx28 =>
 bnd (sK w) λy29 =>
 bnd (oZ y29 x28 stage) λy30 =>
 ig (qJ left stage s11 s24 k25 x28 y30) (0,s24.2))
 (some s24.2)
def qL (w:iC)(left:List Int)(stage:Int)(s2:Int×(List (List Bool)))(s11:Int×(List (Int×kH)))(k12:(Int×(List (Int×kH)))->Option (List (List Bool))):Option (List (List Bool)) :=
 br (decide (s11.1<(ik left))) (jn (λs14:(List (Int×kH)) =>
 k12 ((iI s11.1 1),s14)) λk15 =>
 bnd (lK left.length s11.1) λj17 =>
 bnd (left[j17]?) λx18 =>
 bnd (rC w x18 stage) λy19 =>
 br y19 (bnd (rf w x18 stage) λy20 =>
 k15 (Oz s11.2 x18 y20))
 (k15 s11.2))
 (jn (λs21:Bool =>
 br s21 (some s2.2)
 (ig (qK w left stage s11) (0,s2.2))) λk22 =>
 br (decide ((ik s11.2)=0)) (k22 true)
 (k22 (decide ((ik left)<2))))
def qM (w:iC)(left:List Int)(stage:Int)(j1:Nat)(s2:Int×(List (List Bool)))(k3:(Int×(List (List Bool)))->Option (List (List Bool))):Option (List (List Bool)) :=
 lt (decide (s2.1<(ik (List.replicate j1 ([]:List Bool))))) λv5 =>
 br v5 (bnd (lD (ik w.forces) (ik w.forces) 1) λj6 =>
 lt false λx7 =>
 bnd (lK s2.2.length s2.1) λj8 =>
 bnd (s2.2[j8]?) λx10 =>
 k3 ((iI s2.1 1),(s2.2.set j8 (List.replicate j6 x7))))
 (ig (qL w left stage s2) (0,[]))
def qB (w:iC)(left:List Int)(stage:Int):Option (List (List Bool)) :=
 bnd (lD (ik w.forces) (ik w.forces) 24) λj1 =>
 ig (qM w left stage j1) (0,(List.replicate j1 ([]:List Bool)))
def uP (stage:Int)(s13:iC×(List Int)×(List Int)×(List Int))(k14:(iC×(List Int)×(List Int)×(List Int))->Option ((List Int)×iC)):Option ((List Int)×iC) :=
 br (decide (0<(ik s13.2.1))) (bnd (qB s13.1 s13.2.1 stage) λy16 =>
 bnd (Gw s13.2.1 s13.2.2.2 y16) λy17 =>
 br (decide (y17<0)) (some (s13.2.2.1,s13.1))
 (bnd (oZ s13.1 y17 stage) λy18 =>
 kT (s13.2.2.1.length+([y17]).length) 8 (
 bnd (ql s13.2.1 (λa0=>uo a0 y17)) λy19 =>
 k14 (y18,y19,(s13.2.2.1++[y17]),s13.2.2.2))))
 (some (s13.2.2.1,s13.1))
def qN (stage:Int)(s1:iC)(s5:Int×(List Int)×(List Int))(k6:(Int×(List Int)×(List Int))->Option ((List Int)×iC)):Option ((List Int)×iC) :=
 br (decide (s5.1<(ik s1.forces))) (jn (λs8:(List Int)×(List Int) =>
 k6 ((iI s5.1 1),s8.1,s8.2)) λk9 =>
 bnd (jS s1.forces s5.1) λx11 =>
 kT (s5.2.2.length+([x11.stamp]).length) 8 (
 bnd (Cj x11 stage) λy12 =>
 br y12 (kT (s5.2.1.length+([s5.1]).length) 8 (
 k9 ((s5.2.1++[s5.1]),(s5.2.2++[x11.stamp]))))
 (k9 (s5.2.1,(s5.2.2++[x11.stamp])))))
 (ig (uP stage) (s1,s5.2.1,[],s5.2.2))
def jV (w:iC)(stage:Int):Option ((List Int)×iC) :=
 jn (λs1:iC =>
 ig (qN stage s1) (0,[],[])) λk2 =>
 br (decide (stage=7)) (bnd (tC w) λy4 =>
 k2 y4)
 (k2 w)
def uQ (cards:List jc)(s:gW):Option (List gX) :=
 bnd (Dc cards s) λy1 =>
 bnd (jV y1 1) λy3 =>
 bnd (jV y3.2 2) λy4 =>
 bnd (jV y4.2 3) λy5 =>
 bnd (jV y5.2 4) λy6 =>
 bnd (jV y6.2 5) λy7 =>
 bnd (jV y7.2 6) λy8 =>
 bnd (jV y8.2 7) λy9 =>
 bnd (jV y9.2 8) λy10 =>
 some y10.2.iH
def Un (c:D9):Option Bool :=
 br (decide (c.kind=1)) (some (decide ((ik c.options)<=1)))
 (br (decide (c.kind=2)) (some (decide ((ik c.options)<=1)))
 (br (decide (c.kind=9)) (some (decide ((ik c.options)<=1)))
 (br (decide (c.kind=10)) (some (decide ((ik c.options)<=1)))
 (br (decide (c.kind=11)) (some (decide ((ik c.options)<=1)))
 (br (decide (c.kind=4)) (some (decide ((ik c.options)<=1)))
 (br (decide (c.kind=8)) (some (decide ((ik c.options)<=1)))
 (br (decide (c.kind=6)) (some (decide ((ik c.options)=0)))
 (br (decide (c.kind=7)) (some (decide ((ik c.options)=0)))
 (br (decide (c.kind=3)) (br (decide (c.least=c.most)) (br (decide (c.least=0)) (some true)
 (some (decide (c.least=(ik c.options)))))
 (some false))
 (br (decide (c.kind=5)) (some (decide (c.least=c.most)))
 (some true)))))))))))
def Xn (n:Int)(s1:Int×(List Int))(k2:(Int×(List Int))->Option (List Int)):Option (List Int) :=
 br (decide (s1.1<n)) (kT (s1.2.length+([s1.1]).length) 8 (
 k2 ((iI s1.1 1),(s1.2++[s1.1]))))
 (some s1.2)
def Qv (n:Int):Option (List Int) :=
 ig (Xn n) (0,[])
def Kz (c:D9):Option (List Int) :=
 br (decide (c.kind=1)) (lt 0 λx1 =>
 some ([x1]))
 (br (decide (c.kind=2)) (lt 0 λx2 =>
 some ([x2]))
 (br (decide (c.kind=9)) (lt 0 λx3 =>
 some ([x3]))
 (br (decide (c.kind=10)) (lt 0 λx4 =>
 some ([x4]))
 (br (decide (c.kind=11)) (lt 0 λx5 =>
 some ([x5]))
 (br (decide (c.kind=3)) (bnd (Qv (if (ik c.options)<(if c.least<0 then 0 else c.least) then (ik c.options) else (if c.least<0 then 0 else c.least))) λy6 =>
 some y6)
 (br (decide (c.kind=4)) (bnd (Qv (ik c.options)) λy7 =>
 some y7)
 (br (decide (c.kind=5)) (some ([c.least]))
 (br (decide (c.kind=8)) (br (decide (0<(ik c.options))) (bnd (lD (ik c.options) (ik c.options) 8) λj8 =>
 lt 0 λx9 =>
 bnd (lK j8 0) λj10 =>
 bnd ((List.replicate j8 x9)[j10]?) λx11 =>
 some ((List.replicate j8 x9).set j10 c.n))
 (some ([])))
 (some ([]))))))))))
def Gx (l:List iU):Option (List iU) :=
 kT l.length 24 (
 some l)
def Az (k:jq)(c:D9):Option ((List Int)×jq) :=
 jn (λs1:Bool =>
 br s1 (bnd (Kz c) λy5 =>
 some (y5,k))
 (br (decide (k.used=(ik k.answers))) (bnd (Gx c.options) λy6 =>
 bnd (Kz { c with options:=y6 }) λy7 =>
 some (y7,{ k with pending:={ c with options:=y6 },waits:=true }))
 (bnd (jS k.answers k.used) λx8 =>
 none))) λk2 =>
 br k.waits (k2 true)
 (br k.bad (k2 true)
 (bnd (Un c) λy4 =>
 k2 y4))
def DN (k:jq)(cards:List jc)(s:gW)(pe:jI)(add:Bool)(s1:Unit)(k2:Unit->Option (gW×jI×Bool×jq)):Option (gW×jI×Bool×jq) :=
 bnd (uQ cards s) λy4 =>
 bnd (sH cards s y4 pe ([]) add) λy5 =>
 br (decide ((ik y5)=0)) (some (s,{ pe with extra:=(Oy.mk pe.extra.a0 pe.extra.a1 pe.extra.a2) },true,k))
 (bnd (Me s y4 { pe with extra:=(Oy.mk pe.extra.a0 pe.extra.a1 pe.extra.a2) }) λy6 =>
 bnd (Az k (D9.mk 10 y6 0 0 0 0 y5)) λy7 =>
 bnd (lK y7.1.length 0) λj8 =>
 bnd (y7.1[j8]?) λx9 =>
 bnd (jS y5 x9) λx10 =>
 kT (([x10]).length) 24 (
 bnd (MB cards s y4 { pe with extra:=(Oy.mk pe.extra.a0 pe.extra.a1 pe.extra.a2) } x10) λy11 =>
 br (y11.2.2==false) (some (y11.1,Ja,false,y7.2))
 (none)))
def uS (k:jq)(cards:List jc)(s:gW)(pe:jI)(add:Bool):Option (gW×jI×Bool×jq) :=
 ig (DN k cards s pe add) ()
def xR (o:iy)(c1:jI):Option Bool :=
 some (decide (o.id=c1.source))
def wG (pl:List jO)(pj:Nat)(s:gW)(pe:jI):Option gW :=
 br (decide (pe.kind=4)) (bnd (pl[pj]?) λx1 =>
 bnd (Cf x1.life pe.amount) λy2 =>
 bnd (pl[pj]?) λx3 =>
 some { s with gU:=(pl.set pj { x3 with life:=y2 }) })
 (br (decide (pe.kind=5)) (bnd (pl[pj]?) λx4 =>
 bnd (Jn x4.life pe.amount) λy5 =>
 bnd (pl[pj]?) λx6 =>
 some { s with gU:=(pl.set pj { x6 with life:=y5 }) })
 (br (decide (pe.kind=16)) (bnd (pl[pj]?) λx7 =>
 bnd (Cf x7.YO pe.amount) λy8 =>
 bnd (pl[pj]?) λx9 =>
 some { s with gU:=(pl.set pj { x9 with YO:=y8 }) })
 (br (decide (pe.kind=17)) (bnd (pl[pj]?) λx10 =>
 none)
 (some { s with gU:=pl }))))
def Fq (s:gW)(id:Int)(s1:Int)(k2:Int->Option (Option Nat)):Option (Option Nat) :=
 br (decide (s1<(ik s.objects))) (bnd (lK s.objects.length s1) λj4 =>
 bnd (s.objects[j4]?) λx5 =>
 br (decide (x5.id=id)) (bnd (lK s.objects.length s1) λj6 =>
 some (some j6))
 (k2 (iI s1 1)))
 (some none)
def mr (s:gW)(id:Int):Option (Option Nat) :=
 ig (Fq s id) 0
def NH (cards:List jc)(s:gW)(all:List gX)(pe:jI):Option gW :=
 bnd (EI s) λy1 =>
 bnd (xq cards s pe) λy2 =>
 br (y2==false) (some y1)
 (br (decide (pe.kind=2)) (none)
 (br (decide (pe.kind=10)) (none)
 (br (decide (pe.kind=3)) (none)
 (br (decide (pe.kind=4)) (bnd (lK y1.gU.length pe.kE) λj3 =>
 bnd (wG y1.gU j3 y1 pe) λy4 =>
 some y4)
 (br (decide (pe.kind=5)) (bnd (lK y1.gU.length pe.kE) λj5 =>
 bnd (wG y1.gU j5 y1 pe) λy6 =>
 some y6)
 (br (decide (pe.kind=16)) (bnd (lK y1.gU.length pe.kE) λj7 =>
 bnd (wG y1.gU j7 y1 pe) λy8 =>
 some y8)
 (br (decide (pe.kind=17)) (bnd (lK y1.gU.length pe.kE) λj9 =>
 bnd (wG y1.gU j9 y1 pe) λy10 =>
 some y10)
 (br (decide (pe.kind=1)) (bnd (mr y1 pe.object) λy11 =>
 (match y11 with
 | none=>(bnd (mr y1 pe.source) λy13 =>
 (match y13 with
 | none=>(br (decide (pe.kind=13)) (some y1)
 (some y1))
 | some j14=>(br (decide (pe.kind=13)) (lt true λx15 =>
 bnd (y1.objects[j14]?) λx16 =>
 some { y1 with objects:=(y1.objects.set j14 { x16 with blocked:=x15 }) })
 (some y1))))
 | some j12=>(none)))
 (br (decide (pe.kind=6)) (bnd (mr y1 pe.object) λy17 =>
 (match y17 with
 | none=>(bnd (mr y1 pe.source) λy19 =>
 (match y19 with
 | none=>(br (decide (pe.kind=13)) (some y1)
 (some y1))
 | some j20=>(br (decide (pe.kind=13)) (lt true λx21 =>
 bnd (y1.objects[j20]?) λx22 =>
 some { y1 with objects:=(y1.objects.set j20 { x22 with blocked:=x21 }) })
 (some y1))))
 | some j18=>(none)))
 (br (decide (pe.kind=7)) (bnd (mr y1 pe.object) λy23 =>
 (match y23 with
 | none=>(bnd (mr y1 pe.source) λy25 =>
 (match y25 with
 | none=>(br (decide (pe.kind=13)) (some y1)
 (some y1))
 | some j26=>(br (decide (pe.kind=13)) (lt true λx27 =>
 bnd (y1.objects[j26]?) λx28 =>
 some { y1 with objects:=(y1.objects.set j26 { x28 with blocked:=x27 }) })
 (some y1))))
 | some j24=>(none)))
 (br (decide (pe.kind=8)) (bnd (mr y1 pe.object) λy29 =>
 (match y29 with
 | none=>(bnd (mr y1 pe.source) λy31 =>
 (match y31 with
 | none=>(br (decide (pe.kind=13)) (some y1)
 (some y1))
 | some j32=>(br (decide (pe.kind=13)) (lt true λx33 =>
 bnd (y1.objects[j32]?) λx34 =>
 some { y1 with objects:=(y1.objects.set j32 { x34 with blocked:=x33 }) })
 (some y1))))
 | some j30=>(none)))
 (br (decide (pe.kind=9)) (bnd (mr y1 pe.object) λy35 =>
 (match y35 with
 | none=>(bnd (mr y1 pe.source) λy37 =>
 (match y37 with
 | none=>(br (decide (pe.kind=13)) (some y1)
 (some y1))
 | some j38=>(br (decide (pe.kind=13)) (lt true λx39 =>
 bnd (y1.objects[j38]?) λx40 =>
 some { y1 with objects:=(y1.objects.set j38 { x40 with blocked:=x39 }) })
 (some y1))))
 | some j36=>(none)))
 (br (decide (pe.kind=12)) (bnd (mr y1 pe.object) λy41 =>
 (match y41 with
 | none=>(bnd (mr y1 pe.source) λy43 =>
 (match y43 with
 | none=>(br (decide (pe.kind=13)) (some y1)
 (some y1))
 | some j44=>(br (decide (pe.kind=13)) (lt true λx45 =>
 bnd (y1.objects[j44]?) λx46 =>
 some { y1 with objects:=(y1.objects.set j44 { x46 with blocked:=x45 }) })
 (some y1))))
 | some j42=>(none)))
 (br (decide (pe.kind=13)) (bnd (mr y1 pe.object) λy47 =>
 (match y47 with
 | none=>(bnd (mr y1 pe.source) λy49 =>
 (match y49 with
 | none=>(br (decide (pe.kind=13)) (some y1)
 (some y1))
 | some j50=>(br (decide (pe.kind=13)) (lt true λx51 =>
 bnd (y1.objects[j50]?) λx52 =>
 some { y1 with objects:=(y1.objects.set j50 { x52 with blocked:=x51 }) })
 (some y1))))
 | some j48=>(none)))
 (some y1)))))))))))))))
def yR (s:gW)(all:List gX)(earlier:Bool):Option (gW×(List gX)×Bool) :=
 some (s,all,earlier)
def Ha (vals:List Int)(s1:Int)(k2:Int->Option Int):Option Int :=
 br (decide (s1<(ik vals))) (bnd (jS vals s1) λx4 =>
 br (!decide (x4=0)) (some x4)
 (k2 (iI s1 1)))
 (some 0)
def NI (vals:List Int):Option Int :=
 ig (Ha vals) 0
def oL (a:gI)(b:gI):Option Int :=
 bnd (cmp_Compare_int a.id b.id) λy1 =>
 bnd (cmp_Compare_int a.index b.index) λy2 =>
 bnd (NI ([y1,y2])) λy3 =>
 some y3
def nV (a:Int)(cmp:gI->gI->Option Int)(s1:Int×(List gI))(k2:(Int×(List gI))->Option (List gI))(s4:Int×(List gI))(k5:(Int×(List gI))->Option (List gI)):Option (List gI) :=
 jn (λs7:Bool =>
 br s7 (bnd (lK s4.2.length (pF s4.1 1)) λj15 =>
 bnd (s4.2[j15]?) λx16 =>
 bnd (lK s4.2.length s4.1) λj17 =>
 bnd (s4.2[j17]?) λx18 =>
 bnd (lK s4.2.length s4.1) λj19 =>
 bnd (s4.2[j19]?) λx20 =>
 bnd (lK s4.2.length (pF s4.1 1)) λj21 =>
 bnd ((s4.2.set j19 x16)[j21]?) λx22 =>
 k5 ((pF s4.1 1),((s4.2.set j19 x16).set j21 x18)))
 (k2 ((iI s1.1 1),s4.2))) λk8 =>
 br (decide (a<s4.1)) (bnd (lK s4.2.length s4.1) λj10 =>
 bnd (s4.2[j10]?) λx11 =>
 bnd (lK s4.2.length (pF s4.1 1)) λj12 =>
 bnd (s4.2[j12]?) λx13 =>
 bnd (cmp x11 x13) λy14 =>
 k8 (decide (y14<0)))
 (k8 false)
def nX (a:Int)(b:Int)(cmp:gI->gI->Option Int)(s1:Int×(List gI))(k2:(Int×(List gI))->Option (List gI)):Option (List gI) :=
 br (decide (s1.1<b)) (ig (nV a cmp s1 k2) (s1.1,s1.2))
 (some s1.2)
def jE (data:List gI)(a:Int)(b:Int)(cmp:gI->gI->Option Int):Option (List gI) :=
 ig (nX a b cmp) ((iI a 1),data)
def mM (a:Int)(b:Int)(n:Int)(s1:Int×(List gI))(k2:(Int×(List gI))->Option (List gI)):Option (List gI) :=
 br (decide (s1.1<n)) (bnd (lK s1.2.length (iI b s1.1)) λj4 =>
 bnd (s1.2[j4]?) λx5 =>
 bnd (lK s1.2.length (iI a s1.1)) λj6 =>
 bnd (s1.2[j6]?) λx7 =>
 bnd (lK s1.2.length (iI a s1.1)) λj8 =>
 bnd (s1.2[j8]?) λx9 =>
 bnd (lK s1.2.length (iI b s1.1)) λj10 =>
 bnd ((s1.2.set j8 x5)[j10]?) λx11 =>
 k2 ((iI s1.1 1),((s1.2.set j8 x5).set j10 x7)))
 (some s1.2)
def jF (data:List gI)(a:Int)(b:Int)(n:Int)(cmp:gI->gI->Option Int):Option (List gI) :=
 ig (mM a b n) (0,data)
def nP (m:Int)(cmp:gI->gI->Option Int)(s1:Int×Int×(List gI))(k2:(Int×Int×(List gI))->Option (List gI)):Option (List gI) :=
 br (!decide (s1.1=s1.2.1)) (br (decide (s1.2.1<s1.1)) (bnd (jF s1.2.2 (pF m s1.1) m s1.2.1 cmp) λy4 =>
 k2 ((pF s1.1 s1.2.1),s1.2.1,y4))
 (bnd (jF s1.2.2 (pF m s1.1) (pF (iI m s1.2.1) s1.1) s1.1 cmp) λy5 =>
 k2 (s1.1,(pF s1.2.1 s1.1),y5)))
 (bnd (jF s1.2.2 (pF m s1.1) m s1.1 cmp) λy6 =>
 some y6)
def kJ (data:List gI)(a:Int)(m:Int)(b:Int)(cmp:gI->gI->Option Int):Option (List gI) :=
 ig (nP m cmp) ((pF m a),(pF b m),data)
def mX (s1:Int×Int)(s10:Int×(List gI))(k11:(Int×(List gI))->Option (List gI)):Option (List gI) :=
 br (decide (s10.1<(pF s1.1 1))) (bnd (lK s10.2.length (iI s10.1 1)) λj13 =>
 bnd (s10.2[j13]?) λx14 =>
 bnd (lK s10.2.length s10.1) λj15 =>
 bnd (s10.2[j15]?) λx16 =>
 bnd (lK s10.2.length s10.1) λj17 =>
 bnd (s10.2[j17]?) λx18 =>
 bnd (lK s10.2.length (iI s10.1 1)) λj19 =>
 bnd ((s10.2.set j17 x14)[j19]?) λx20 =>
 k11 ((iI s10.1 1),((s10.2.set j17 x14).set j19 x16)))
 (some s10.2)
def mY (data:List gI)(a:Int)(cmp:gI->gI->Option Int)(s1:Int×Int)(k2:(Int×Int)->Option (List gI)):Option (List gI) :=
 br (decide (s1.1<s1.2)) (bnd (lu .shr .u64 (IntKind.wrap .u64 (iI s1.1 s1.2)) 1) λx4 =>
 bnd (lK data.length (IntKind.wrap .i64 x4)) λj5 =>
 bnd (data[j5]?) λx6 =>
 bnd (lK data.length a) λj7 =>
 bnd (data[j7]?) λx8 =>
 bnd (cmp x6 x8) λy9 =>
 br (decide (y9<0)) (k2 ((iI (IntKind.wrap .i64 x4) 1),s1.2))
 (k2 (s1.1,(IntKind.wrap .i64 x4))))
 (ig (mX s1) (a,data))
def mZ (s21:Int×Int)(s30:Int×(List gI))(k31:(Int×(List gI))->Option (List gI)):Option (List gI) :=
 br (decide (s21.1<s30.1)) (bnd (lK s30.2.length (pF s30.1 1)) λj33 =>
 bnd (s30.2[j33]?) λx34 =>
 bnd (lK s30.2.length s30.1) λj35 =>
 bnd (s30.2[j35]?) λx36 =>
 bnd (lK s30.2.length s30.1) λj37 =>
 bnd (s30.2[j37]?) λx38 =>
 bnd (lK s30.2.length (pF s30.1 1)) λj39 =>
 bnd ((s30.2.set j37 x34)[j39]?) λx40 =>
 k31 ((pF s30.1 1),((s30.2.set j37 x34).set j39 x36)))
 (some s30.2)
def ng (data:List gI)(m:Int)(cmp:gI->gI->Option Int)(s21:Int×Int)(k22:(Int×Int)->Option (List gI)):Option (List gI) :=
 br (decide (s21.1<s21.2)) (bnd (lu .shr .u64 (IntKind.wrap .u64 (iI s21.1 s21.2)) 1) λx24 =>
 bnd (lK data.length m) λj25 =>
 bnd (data[j25]?) λx26 =>
 bnd (lK data.length (IntKind.wrap .i64 x24)) λj27 =>
 bnd (data[j27]?) λx28 =>
 bnd (cmp x26 x28) λy29 =>
 br ((decide (y29<0))==false) (k22 ((iI (IntKind.wrap .i64 x24) 1),s21.2))
 (k22 (s21.1,(IntKind.wrap .i64 x24))))
 (ig (mZ s21) (m,data))
def ni (slices_symMergeCmpFunc_watcher_r:(List gI)->(Int)->(Int)->(Int)->(gI->gI->Option Int)->Option (List gI))(data:List gI)(a:Int)(m:Int)(b:Int)(cmp:gI->gI->Option Int)(x41:Int)(s45:Int×Int)(k46:(Int×Int)->Option (List gI)):Option (List gI) :=
 br (decide (s45.1<s45.2)) (bnd (lu .shr .u64 (IntKind.wrap .u64 (iI s45.1 s45.2)) 1) λx48 =>
 lt (pF (pF (iI (IntKind.wrap .i64 x41) m) 1) (IntKind.wrap .i64 x48)) λv49 =>
 bnd (lK data.length v49) λj50 =>
 bnd (data[j50]?) λx51 =>
 bnd (lK data.length (IntKind.wrap .i64 x48)) λj52 =>
 bnd (data[j52]?) λx53 =>
 bnd (cmp x51 x53) λy54 =>
 br ((decide (y54<0))==false) (k46 ((iI (IntKind.wrap .i64 x48) 1),s45.2))
 (k46 (s45.1,(IntKind.wrap .i64 x48))))
 (jn (λs55:(List gI) =>
 jn (λs62:(List gI) =>
 lt (decide ((IntKind.wrap .i64 x41)<(pF (iI (IntKind.wrap .i64 x41) m) s45.1))) λv69 =>
 br v69 (br (decide ((pF (iI (IntKind.wrap .i64 x41) m) s45.1)<b)) (bnd (slices_symMergeCmpFunc_watcher_r s62 (IntKind.wrap .i64 x41) (pF (iI (IntKind.wrap .i64 x41) m) s45.1) b cmp) λy70 =>
 some y70)
 (some s62))
 (some s62)) λk63 =>
 jn (λs65:Bool =>
 br s65 (bnd (slices_symMergeCmpFunc_watcher_r s55 a s45.1 (IntKind.wrap .i64 x41) cmp) λy68 =>
 k63 y68)
 (k63 s55)) λk66 =>
 br (decide (a<s45.1)) (k66 (decide (s45.1<(IntKind.wrap .i64 x41))))
 (k66 false)) λk56 =>
 jn (λs58:Bool =>
 br s58 (bnd (kJ data s45.1 m (pF (iI (IntKind.wrap .i64 x41) m) s45.1) cmp) λy61 =>
 k56 y61)
 (k56 data)) λk59 =>
 br (decide (s45.1<m)) (k59 (decide (m<(pF (iI (IntKind.wrap .i64 x41) m) s45.1))))
 (k59 false))
def nJ (slices_symMergeCmpFunc_watcher_r:(List gI)->(Int)->(Int)->(Int)->(gI->gI->Option Int)->Option (List gI))(data:List gI)(a:Int)(m:Int)(b:Int)(cmp:gI->gI->Option Int):Option (List gI) :=
 br (decide ((pF m a)=1)) (ig (mY data a cmp) (m,b))
 (br (decide ((pF b m)=1)) (ig (ng data m cmp) (a,m))
 (bnd (lu .shr .u64 (IntKind.wrap .u64 (iI a b)) 1) λx41 =>
 jn (λs42:Int×Int =>
 ig (ni slices_symMergeCmpFunc_watcher_r data a m b cmp x41) (s42.1,s42.2)) λk43 =>
 br (decide ((IntKind.wrap .i64 x41)<m)) (k43 ((pF (iI (IntKind.wrap .i64 x41) m) b),(IntKind.wrap .i64 x41)))
 (k43 (a,m))))
def jo:Nat->(List gI)->(Int)->(Int)->(Int)->(gI->gI->Option Int)->Option (List gI)
 | 0=>λ_ _ _ _ _=>none
 | n+1=>nJ (jo n)
def lY:(List gI)->(Int)->(Int)->(Int)->(gI->gI->Option Int)->Option (List gI):=jo 70
def nR (n:Int)(cmp:gI->gI->Option Int)(s6:Int×(List gI))(k7:(Int×(List gI))->Option (List gI))(s9:Int×Int×(List gI))(k10:(Int×Int×(List gI))->Option (List gI)):Option (List gI) :=
 br (decide (s9.2.1<=n)) (bnd (lY s9.2.2 s9.1 (iI s9.1 s6.1) s9.2.1 cmp) λy12 =>
 k10 (s9.2.1,(iI s9.2.1 (WN 2 s6.1)),y12))
 (jn (λs13:(List gI) =>
 k7 ((WN s6.1 2),s13)) λk14 =>
 br (decide ((iI s9.1 s6.1)<n)) (bnd (lY s9.2.2 s9.1 (iI s9.1 s6.1) n cmp) λy16 =>
 k14 y16)
 (k14 s9.2.2))
def nS (n:Int)(cmp:gI->gI->Option Int)(s6:Int×(List gI))(k7:(Int×(List gI))->Option (List gI)):Option (List gI) :=
 br (decide (s6.1<n)) (ig (nR n cmp s6 k7) (0,(WN 2 s6.1),s6.2))
 (some s6.2)
def nT (n:Int)(cmp:gI->gI->Option Int)(s1:Int×Int×(List gI))(k2:(Int×Int×(List gI))->Option (List gI)):Option (List gI) :=
 br (decide (s1.2.1<=n)) (bnd (jE s1.2.2 s1.1 s1.2.1 cmp) λy4 =>
 k2 (s1.2.1,(iI s1.2.1 20),y4))
 (bnd (jE s1.2.2 s1.1 n cmp) λy5 =>
 ig (nS n cmp) (20,y5))
def kK (data:List gI)(n:Int)(cmp:gI->gI->Option Int):Option (List gI) :=
 ig (nT n cmp) (0,20,data)
def kF (x:List gI)(cmp:gI->gI->Option Int):Option (List gI) :=
 bnd (kK x (ik x) cmp) λy1 =>
 some y1
def tJ (a:iG)(y1:List nC)(y2:List rW)(y3:List jh)(s4:Int×(List jh))(k5:(Int×(List jh))->Option iG):Option iG :=
 br (decide (s4.1<(ik y3))) (bnd (lK s4.2.length s4.1) λj7 =>
 bnd (s4.2[j7]?) λx8 =>
 bnd (jP x8.mQ) λy9 =>
 bnd (lK s4.2.length s4.1) λj10 =>
 bnd (s4.2[j10]?) λx11 =>
 k5 ((iI s4.1 1),(s4.2.set j10 { x11 with mQ:=y9 })))
 (some { a with mQ:=y1,specs:=y2,jX:=s4.2 })
def qO (a:iG):Option iG :=
 bnd (jP a.mQ) λy1 =>
 bnd (oC a.specs) λy2 =>
 bnd (pV a.jX) λy3 =>
 ig (tJ a y1 y2 y3) (0,y3)
def Es (when:Int):Option Int :=
 br (decide (when=8)) (some 3)
 (br (decide (when=10)) (some 14)
 (br (decide (when=11)) (some 15)
 (br (decide (when=12)) (some 4)
 (br (decide (when=13)) (some 5)
 (br (decide (when=9)) (some 11)
 (some 0))))))
def AA (all:List gX)(i:Int):Option gX :=
 br (decide (i<(ik all))) (bnd (jS all i) λx1 =>
 some x1)
 (some xm)
def He (s:gW)(all:List gX)(w:gI)(id:Int)(s1:Int)(k2:Int->Option Bool):Option Bool :=
 br (decide (s1<(ik s.objects))) (bnd (jS s.objects s1) λx4 =>
 br (decide (x4.id=id)) (bnd (AA all s1) λy5 =>
 bnd (og x4 y5 w.you w.id w.jM.iM.filter) λy6 =>
 some y6)
 (k2 (iI s1 1)))
 (some false)
def Fv (s:gW)(all:List gX)(w:gI)(id:Int):Option Bool :=
 ig (He s all w id) 0
def nD (kind:Int)(id:Int)(s:gW)(all:List gX)(c4:kL)(c5:gI):Option (List Int) :=
 br (decide (c4.e.kind=kind)) (bnd (Fv s all c5 id) λy1 =>
 br y1 (some ([id]))
 (some ([])))
 (some ([]))
def AB (o:iy)(c1:kL):Option Bool :=
 br (decide (o.id=c1.e.object)) (some (decide (o.jB=0)))
 (some false)
def lZ (s:List iy)(f:iy->Option Bool):Option Bool :=
 bnd (iY s f) λy1 =>
 some (decide (0<=y1))
def AL (o:iy)(c1:kL):Option Bool :=
 some (decide (o.id=c1.e.object))
def Fz (c:kL):Option Bool :=
 bnd (lZ c.before.objects (λa0=>AB a0 c)) λy1 =>
 bnd (lZ c.after.objects (λa0=>AL a0 c)) λy2 =>
 br (decide (c.e.kind=2)) (br y1 (some (y2==false))
 (some false))
 (some false)
def AO (c:kL)(w:gI):Option (List Int) :=
 br (decide (w.jM.iM.when=1)) (jn (λs1:Bool =>
 br s1 (some ([]))
 (none)) λk2 =>
 br (!decide (c.e.kind=2)) (k2 (!decide (c.e.kind=10)))
 (k2 false))
 (br (decide (w.jM.iM.when=2)) (bnd (Fz c) λy4 =>
 br y4 (bnd (nD 2 c.e.object c.before c.nN c w) λy5 =>
 some y5)
 (some ([])))
 (br (decide (w.jM.iM.when=3)) (jn (λs6:Bool =>
 br s6 (bnd (nD 2 c.e.object c.before c.nN c w) λy10 =>
 some y10)
 (some ([]))) λk7 =>
 bnd (Fz c) λy9 =>
 br y9 (k7 (decide (c.e.to=3)))
 (k7 false))
 (br (decide (w.jM.iM.when=4)) (bnd (nD 12 c.e.object c.after c.oV c w) λy11 =>
 some y11)
 (br (decide (w.jM.iM.when=5)) (bnd (nD 13 c.e.object c.after c.oV c w) λy12 =>
 some y12)
 (br (decide (w.jM.iM.when=14)) (bnd (nD 8 c.e.object c.after c.oV c w) λy13 =>
 some y13)
 (br (decide (w.jM.iM.when=6)) (bnd (nD 1 c.e.source c.before c.nN c w) λy14 =>
 some y14)
 (br (decide (w.jM.iM.when=7)) (br (!decide (c.e.object=0)) (bnd (nD 1 c.e.object c.before c.nN c w) λy15 =>
 some y15)
 (some ([])))
 (some ([])))))))))
def xU (c:kL)(w:gI)(y11:List Int)(s12:Int×(List iP))(k13:(Int×(List iP))->Option (List iP)):Option (List iP) :=
 br (decide (s12.1<(ik y11))) (jn (λs15:(List iP) =>
 k13 ((iI s12.1 1),s15)) λk16 =>
 bnd (jS y11 s12.1) λx18 =>
 bnd (qO w.jM) λy19 =>
 jn (λs20:Int =>
 kT (s12.2.length+([(iP.mk w.id w.you y19 { c.e with object:=s20 })]).length) 768 (
 k16 (s12.2++[(iP.mk w.id w.you y19 { c.e with object:=s20 })]))) λk21 =>
 jn (λs23:Bool =>
 br s23 (k21 x18)
 (k21 c.e.object)) λk24 =>
 br (decide (w.jM.iM.when=1)) (k24 true)
 (k24 (decide (w.jM.iM.when=6))))
 (some s12.2)
def yE (c:kL)(w:gI):Option (List iP) :=
 bnd (qO w.jM) λy1 =>
 bnd (Es w.jM.iM.when) λy2 =>
 br (!decide (y2=0)) (jn (λs3:Bool =>
 jn (λs7:Bool =>
 br s7 (some ([]))
 (some ([(iP.mk w.id w.you y1 c.e)]))) λk8 =>
 br (s3==false) (k8 true)
 (br (decide (w.jM.iM.when=9)) (bnd (Fv c.after c.oV w c.e.object) λy10 =>
 k8 (y10==false))
 (k8 false))) λk4 =>
 br (decide (c.e.kind=y2)) (bnd (Aj c.after c.e.kE w.you w.jM.iM.who) λy6 =>
 k4 y6)
 (k4 false))
 (bnd (AO c w) λy11 =>
 ig (xU c w y11) (0,[]))
def yS (when:Int):Option Bool :=
 br (decide (when=2)) (some true)
 (br (decide (when=3)) (some true)
 (br (decide (when=6)) (some true)
 (some (decide (when=7)))))
def uT (a0:List gI)(a1:gI):Option (Bool×(List gI)) :=
 kT (a0.length+([a1]).length) 672 (
 some (true,(a0++[a1])))
def uU (c3:Bool)(k5:(List gI)->Option (List gI))(y8:gX)(s9:iy×Int×(List gI))(k10:(iy×Int×(List gI))->Option (List gI)):Option (List gI) :=
 br (decide (s9.2.1<(ik y8.gQ))) (jn (λs12:iy×(List gI) =>
 k10 (s12.1,(iI s9.2.1 1),s12.2)) λk13 =>
 bnd (jS y8.gQ s9.2.1) λx15 =>
 jn (λs16:Bool =>
 br s16 (k13 (s9.1,s9.2.2))
 (bnd (uT s9.2.2 (gI.mk s9.1.id s9.2.1 y8.control x15 c3)) λy20 =>
 br (y20.1==false) (some y20.2)
 (k13 (s9.1,y20.2)))) λk17 =>
 br (!decide (x15.kind=4)) (k17 true)
 (bnd (yS x15.iM.when) λy19 =>
 k17 ((y19==c3)==false)))
 (k5 s9.2.2)
def qP (c1:gW)(c2:List gX)(c3:Bool)(s1:Int×(List gI))(k2:(Int×(List gI))->Option (List gI)):Option (List gI) :=
 br (decide (s1.1<(ik c1.objects))) (jn (λs4:(List gI) =>
 k2 ((iI s1.1 1),s4)) λk5 =>
 bnd (jS c1.objects s1.1) λx7 =>
 br (!decide (x7.jB=0)) (k5 s1.2)
 (bnd (AA c2 s1.1) λy8 =>
 ig (uU c3 k5 y8) (x7,0,s1.2)))
 (some s1.2)
def pg (yield:List gI)(c1:gW)(c2:List gX)(c3:Bool):Option (List gI) :=
 ig (qP c1 c2 c3) (0,yield)
def AP (before:gW)(nN:List gX)(after:gW)(oV:List gX)(pe:jI)(y5:List gI)(s6:Int×(List iP)×(List gI))(k7:(Int×(List iP)×(List gI))->Option (List iP)):Option (List iP) :=
 br (decide (s6.1<(ik y5))) (bnd (lK s6.2.2.length s6.1) λj9 =>
 bnd (s6.2.2[j9]?) λx10 =>
 bnd (yE (kL.mk before after nN oV pe) x10) λy11 =>
 kT (s6.2.1.length+y11.length) 768 (
 k7 ((iI s6.1 1),(s6.2.1++y11),s6.2.2)))
 (some s6.2.1)
def xB (before:gW)(nN:List gX)(after:gW)(oV:List gX)(pe:jI):Option (List iP) :=
 bnd (yR before nN true) λy1 =>
 bnd (pg ([]) y1.1 y1.2.1 y1.2.2) λy2 =>
 bnd (yR after oV false) λy3 =>
 bnd (pg y2 y3.1 y3.2.1 y3.2.2) λy4 =>
 bnd (kF y4 oL) λy5 =>
 ig (AP before nN after oV pe y5) (0,[],y5)
def tK (s:gW)(pe:jI)(y1:List gX)(y2:gW)(y4:List iP)(s5:Int×(List iP))(k6:(Int×(List iP))->Option gW):Option gW :=
 br (decide (s5.1<(ik y4))) (jn (λs8:(List iP) =>
 k6 ((iI s5.1 1),s8)) λk9 =>
 bnd (jS y4 s5.1) λx11 =>
 br (decide ((ik s5.2)<64)) (kT (s5.2.length+([x11]).length) 768 (
 k9 (s5.2++[x11])))
 (k9 s5.2))
 (br (!decide (pe.kind=1)) (some { y2 with waiting:=s5.2 })
 (br (decide (pe.object=0)) (none)
 (bnd (iY s.objects (λa0=>xR a0 pe)) λy12 =>
 jn (λs13:Bool =>
 br s13 (bnd (lK y1.length y12) λj19 =>
 bnd (y1[j19]?) λx20 =>
 none)
 (some { y2 with waiting:=s5.2 })) λk14 =>
 br (decide (0<=y12)) (bnd (lK y1.length y12) λj16 =>
 bnd (y1[j16]?) λx17 =>
 bnd (tu x17.keys 256) λy18 =>
 k14 y18)
 (k14 false))))
def tV (k:jq)(cards:List jc)(s:gW)(pe:jI):Option gW :=
 bnd (uQ cards s) λy1 =>
 bnd (NH cards s y1 pe) λy2 =>
 bnd (uQ cards y2) λy3 =>
 bnd (xB s y1 y2 y3 pe) λy4 =>
 ig (tK s pe y1 y2 y4) (0,y2.waiting)
def AQ (y1:gW×jI×Bool×jq)(s6:Int×Int)(y13:gW)(s14:Unit)(k15:Unit->Option (gW×jq)):Option (gW×jq) :=
 br (decide (0<s6.1)) (none)
 (some (y13,y1.2.2.2))
def AU (k:jq)(cards:List jc)(s:gW)(pe:jI)(add:Bool):Option (gW×jq) :=
 bnd (uS k cards s pe add) λy1 =>
 jn (λs2:Bool =>
 br s2 (some (y1.1,y1.2.2.2))
 (jn (λs6:Int×Int =>
 bnd (tV y1.2.2.2 cards y1.1 { y1.2.1 with amount:=s6.2 }) λy13 =>
 ig (AQ y1 s6 y13) ()) λk7 =>
 jn (λs9:Bool =>
 br s9 (lt (pF (if 2048<y1.2.1.amount then 2048 else y1.2.1.amount) 1) λv12 =>
 k7 (v12,1))
 (k7 (0,y1.2.1.amount))) λk10 =>
 br (decide (y1.2.1.kind=3)) (k10 (decide (1<y1.2.1.amount)))
 (k10 false))) λk3 =>
 br (y1.2.2.1==false) (k3 true)
 (bnd (xq cards y1.1 y1.2.1) λy5 =>
 k3 (y5==false))
def xC (k:jq)(cards:List jc)(s:gW)(pe:jI):Option (gW×jq) :=
 bnd (AU k cards s pe true) λy1 =>
 some (y1.1,y1.2)
def tX (k:jq)(cards:List jc)(s:gW)(pe:jI)(y1:List gX)(y2:gW)(y4:List iP)(s5:Int×(List iP))(k6:(Int×(List iP))->Option (gW×jq)):Option (gW×jq) :=
 br (decide (s5.1<(ik y4))) (jn (λs8:(List iP) =>
 k6 ((iI s5.1 1),s8)) λk9 =>
 bnd (jS y4 s5.1) λx11 =>
 br (decide ((ik s5.2)<64)) (kT (s5.2.length+([x11]).length) 768 (
 k9 (s5.2++[x11])))
 (k9 s5.2))
 (br (!decide (pe.kind=1)) (some ({ y2 with waiting:=s5.2 },k))
 (jn (λs12:jq×gW =>
 bnd (iY s.objects (λa0=>xR a0 pe)) λy16 =>
 jn (λs17:Bool =>
 br s17 (bnd (lK y1.length y16) λj23 =>
 bnd (y1[j23]?) λx24 =>
 bnd (xC s12.1 cards s12.2 (jI.mk 4 pe.source 0 x24.control pe.amount 0 0 0 0 0 false false G5)) λy25 =>
 some (y25.1,y25.2))
 (some (s12.2,s12.1))) λk18 =>
 br (decide (0<=y16)) (bnd (lK y1.length y16) λj20 =>
 bnd (y1[j20]?) λx21 =>
 bnd (tu x21.keys 256) λy22 =>
 k18 y22)
 (k18 false)) λk13 =>
 br (decide (pe.object=0)) (bnd (xC k cards { y2 with waiting:=s5.2 } (jI.mk 5 pe.source 0 pe.kE pe.amount 0 0 0 0 0 false false G5)) λy15 =>
 k13 (y15.2,y15.1))
 (k13 (k,{ y2 with waiting:=s5.2 }))))
def tY (k:jq)(cards:List jc)(s:gW)(pe:jI):Option (gW×jq) :=
 bnd (uQ cards s) λy1 =>
 bnd (NH cards s y1 pe) λy2 =>
 bnd (uQ cards y2) λy3 =>
 bnd (xB s y1 y2 y3 pe) λy4 =>
 ig (tX k cards s pe y1 y2 y4) (0,y2.waiting)
def AV (s6:Int×Int)(y13:gW×jq)(s14:Unit)(k15:Unit->Option (gW×jq)):Option (gW×jq) :=
 br (decide (0<s6.1)) (none)
 (some (y13.1,y13.2))
def AX (k:jq)(cards:List jc)(s:gW)(pe:jI)(add:Bool):Option (gW×jq) :=
 bnd (uS k cards s pe add) λy1 =>
 jn (λs2:Bool =>
 br s2 (some (y1.1,y1.2.2.2))
 (jn (λs6:Int×Int =>
 bnd (tY y1.2.2.2 cards y1.1 { y1.2.1 with amount:=s6.2 }) λy13 =>
 ig (AV s6 y13) ()) λk7 =>
 jn (λs9:Bool =>
 br s9 (lt (pF (if 2048<y1.2.1.amount then 2048 else y1.2.1.amount) 1) λv12 =>
 k7 (v12,1))
 (k7 (0,y1.2.1.amount))) λk10 =>
 br (decide (y1.2.1.kind=3)) (k10 (decide (1<y1.2.1.amount)))
 (k10 false))) λk3 =>
 br (y1.2.2.1==false) (k3 true)
 (bnd (xq cards y1.1 y1.2.1) λy5 =>
 k3 (y5==false))
def zB (k:jq)(cards:List jc)(s:gW)(pe:jI):Option (gW×jq) :=
 bnd (AX k cards s pe true) λy1 =>
 some (y1.1,y1.2)
def KA (l:List iy)(s1:Int×(List iy)×(List Int))(k2:(Int×(List iy)×(List Int))->Option gW):Option gW :=
 br (decide (s1.1<(ik l))) (bnd (jS l s1.1) λx4 =>
 lt { x4 with id:=(iI s1.1 1),stamp:=(iI s1.1 1),copy:=(-1),Du:=(-1) } λx5 =>
 kT (s1.2.1.length+([x5]).length) 128 (
 kT (s1.2.2.length+([(iI s1.1 1)]).length) 8 (
 k2 ((iI s1.1 1),(s1.2.1++[x5]),(s1.2.2++[(iI s1.1 1)])))))
 (some (gW.mk ([(jO.mk 20 0 0 TZ false false ([]) ([]) ([])),(jO.mk 20 0 0 TZ false false ([]) ([]) ([]))]) s1.2.1 s1.2.2 ([]) ([]) ([]) ([]) 1 0 3 true 0 0 (iI (ik l) 1) (iI (ik l) 1) 0 ([]) 0 (-1)))
def KC (l:List iy):Option gW :=
 ig (KA l) (0,[],[])
def Di  : Option Bool :=
 lt (iG.mk 5 lM ([]) W9 false Lc false ([]) ([]) (oQ.mk 1 1 lM 1 0 0 0)) λx1 =>
 lt (jc.mk (bs [97]) false Uf 0 (zt.mk 0 16 ([])) 0 0 0 ([x1])) λx2 =>
 lt CV λx3 =>
 bnd (KC ([x3])) λy4 =>
 bnd (LH ([])) λy5 =>
 bnd (zB y5 ([x2]) y4 (jI.mk 4 0 0 1 3 0 0 0 0 0 false false G5)) λy6 =>
 bnd (LH ([])) λy7 =>
 bnd (zB y7 ([x2]) y4 (jI.mk 1 0 0 0 3 0 0 0 0 0 false false G5)) λy8 =>
 br (decide ((ik y6.1.gU)=2)) (bnd (jS y6.1.gU 1) λx9 =>
 br (decide (x9.life=23)) (br (decide ((ik y8.1.gU)=2)) (bnd (jS y8.1.gU 0) λx10 =>
 some (decide (x10.life=20)))
 (some false))
 (some false))
 (some false)
def Hf (c:rG)(s2:Int×Int×Int)(k3:(Int×Int×Int)->Option Int):Option Int :=
 br (decide (s2.2.2<5)) (jn (λs5:Int =>
 k3 (s5,(WN 2 s2.2.1),(iI s2.2.2 1))) λk6 =>
 jn (λs8:Int =>
 k6 s8) λk9 =>
 jn (λs11:Bool =>
 br s11 (k9 (iI s2.1 s2.2.1))
 (k9 s2.1)) λk12 =>
 qR s2.2.2 5 λj14=>(match j14 with|0=>(k12 (decide (0<c.color.a0)))  | 1=>(k12 (decide (0<c.color.a1)))  | 2=>(k12 (decide (0<c.color.a2)))  | 3=>(k12 (decide (0<c.color.a3)))  | _=>(k12 (decide (0<c.color.a4))) ))
 (some s2.1)
def FB (c:rG):Option Int :=
 bnd (Nz c) λy1 =>
 br (y1==false) (some 0)
 (ig (Hf c) (0,1,0))
def FC (a:iG)(s1:Int×(List jh))(k2:(Int×(List jh))->Option iG):Option iG :=
 br (decide (s1.1<(ik a.jX))) (bnd (jS a.jX s1.1) λx4 =>
 kT (0+x4.mQ.length) 176 (
 kT (s1.2.length+([x4]).length) 560 (
 k2 ((iI s1.1 1),(s1.2++[x4])))))
 (some { a with jX:=s1.2 })
def Gy (a:iG):Option iG :=
 kT (0+a.mQ.length) 176 (
 kT (0+a.specs.length) 144 (
 ig (FC a) (0,[])))
def AY (c:jc)(y1:Int)(s2:Int×(List iG))(k3:(Int×(List iG))->Option gX):Option gX :=
 br (decide (s2.1<(ik c.gQ))) (bnd (jS c.gQ s2.1) λx5 =>
 bnd (Gy x5) λy6 =>
 kT (s2.2.length+([y6]).length) 640 (
 k3 ((iI s2.1 1),(s2.2++[y6]))))
 (some { c with kz:=(nK .or .i64 y1 c.color),gQ:=s2.2,control:=0 })
def Dj (c:jc):Option gX :=
 bnd (FB c.cost) λy1 =>
 kT (0+c.line.subs.length) 16 (
 ig (AY c y1) (0,[]))
def Xo (cards:List jc)(o:iy):Option gX :=
 jn (λs1:Int =>
 jn (λs4:gX =>
 br (decide (o.jB=0)) (some { s4 with control:=o.control })
 (br (decide (o.jB=5)) (some { s4 with control:=o.control })
 (some { s4 with control:=o.owner }))) λk5 =>
 jn (λs7:Bool =>
 br s7 (bnd (jS cards s1) λx10 =>
 bnd (Dj x10) λy11 =>
 k5 y11)
 (k5 xm)) λk8 =>
 br (decide (0<=s1)) (k8 (decide (s1<(ik cards))))
 (k8 false)) λk2 =>
 br (decide (o.copy<0)) (k2 o.card)
 (k2 o.copy)
def FD (kind:Int)(k5:Int->Option Int)(y14:gX)(s15:Int×Int)(k16:(Int×Int)->Option Int):Option Int :=
 br (decide (s15.2<(ik y14.gQ))) (jn (λs18:Int =>
 k16 (s18,(iI s15.2 1))) λk19 =>
 bnd (jS y14.gQ s15.2) λx21 =>
 br (decide (x21.kind=kind)) (k19 (iI s15.1 1))
 (k19 s15.1))
 (k5 s15.1)
def FH (cards:List jc)(s:gW)(kind:Int)(id:Int)(s1:Int×Int)(k2:(Int×Int)->Option Int):Option Int :=
 br (decide (s1.2<(ik s.objects))) (jn (λs4:Int =>
 k2 (s4,(iI s1.2 1))) λk5 =>
 bnd (jS s.objects s1.2) λx7 =>
 jn (λs8:Bool =>
 br s8 (k5 s1.1)
 (jn (λs11:Int =>
 bnd (Xo cards x7) λy14 =>
 ig (FD kind k5 y14) (s11,0)) λk12 =>
 br (decide (0<x7.BD)) (k12 (iI s1.1 1))
 (k12 s1.1))) λk9 =>
 br (!decide (x7.jB=0)) (k9 (!decide (x7.id=id)))
 (k9 false))
 (some s1.1)
def Gz (cards:List jc)(s:gW)(kind:Int)(id:Int):Option Int :=
 ig (FH cards s kind id) (0,0)
def sN (cards:List jc)(s:gW)(amount:Int)(s7:Int)(k8:Int->Option Bool):Option Bool :=
 br (decide (s7<(ik s.gU))) (jn (λs10:Unit =>
 k8 (iI s7 1)) λk11 =>
 bnd (jS s.gU s7) λx13 =>
 br x13.lost (k11 ())
 (bnd (LH ([])) λy14 =>
 bnd (zB y14 cards s (jI.mk 1 0 0 s7 amount 0 0 0 0 0 false false G5)) λy15 =>
 jn (λs16:Bool =>
 br s16 (some false)
 (k11 ())) λk17 =>
 br (!decide ((ik y15.1.gU)=(ik s.gU))) (k17 true)
 (bnd (jS y15.1.gU s7) λx19 =>
 bnd (jS s.gU s7) λx20 =>
 lt (!decide (x19.life=(if (pF x20.life amount)<(-1000000) then (-1000000) else (pF x20.life amount)))) λv21 =>
 k17 v21)))
 (bnd (Di) λy22 =>
 some y22)
def sD (cards:List jc)(s:gW)(amount:Int):Option Bool :=
 jn (λs1:Bool =>
 br s1 (bnd (Di) λy6 =>
 some y6)
 (ig (sN cards s amount) 0)) λk2 =>
 bnd (Kv cards s) λy4 =>
 br (y4==false) (k2 true)
 (br (decide (amount<1)) (k2 true)
 (br (decide (1000000<amount)) (k2 true)
 (bnd (Gz cards s 5 0) λy5 =>
 k2 (decide (0<y5)))))
abbrev uV (M:iO) (l:List iG):List (List PV):=M.m iG (jQ M) l
abbrev GG (M:iO) (l:List qc):List (List PV):=M.m qc (E5 M) l
abbrev AZ (M:iO) (l:List jh):List (List PV):=M.m jh (xk M) l
abbrev Bq (M:iO) (l:List oN):List (List PV):=M.m oN (Dw M) l
abbrev xE (M:iO) (l:List iF):List (List PV):=M.m iF (pJ M) l
abbrev UN (M:iO) (l:List nC):List (List PV):=M.m nC (zo M) l
abbrev mO (M:iO) (l:List iy):List (List PV):=M.m iy (jY M) l
abbrev uy (M:iO) (l:List iU):List (List PV):=M.m iU (vV M) l
abbrev qQ (M:iO) (l:List jO):List (List PV):=M.m jO (xg M) l
abbrev mSpec (M:iO) (l:List rW):List (List PV):=M.m rW (I9 M) l
abbrev iK (M:iO) (l:List gX):List (List PV):=M.m gX (lq M) l
abbrev jW (M:iO) (l:List iP):List (List PV):=M.m iP (zq M) l
abbrev gY (M:iO) (l:List gI):List (List PV):=M.m gI (jZ M) l
abbrev KD (M:iO) (l:List iG):PV:=.sl 72 (M.m iG (jQ M) l) false
abbrev mD (M:iO) (l:List jc):PV:=.sl 17 (M.m jc (yY M) l) false
abbrev VK (M:iO) (l:List qc):PV:=.sl 6 (M.m qc (E5 M) l) false
abbrev Px (M:iO) (l:List jh):PV:=.sl 64 (M.m jh (xk M) l) false
abbrev abm (M:iO) (l:List oN):PV:=.sl 94 (M.m oN (Dw M) l) false
abbrev iJ (M:iO) (l:List iF):PV:=.sl 23 (M.m iF (pJ M) l) false
abbrev RF (M:iO) (l:List nC):PV:=.sl 20 (M.m nC (zo M) l) false
abbrev pR (M:iO) (l:List iy):PV:=.sl 19 (M.m iy (jY M) l) false
abbrev xW (M:iO) (l:List iU):PV:=.sl 3 (M.m iU (vV M) l) false
abbrev Xp (M:iO) (l:List jO):PV:=.sl 14 (M.m jO (xg M) l) false
abbrev YR (M:iO) (l:List rW):PV:=.sl 18 (M.m rW (I9 M) l) false
abbrev abn (M:iO) (l:List ru):PV:=.sl 2 (M.m ru (EZ M) l) false
abbrev ny (M:iO) (l:List gX):PV:=.sl 17 (M.m gX (lq M) l) false
abbrev yF (M:iO) (l:List iP):PV:=.sl 89 (M.m iP (zq M) l) false
theorem jC {p:Prop}(h:p:=by (try simp only[xg,jY,D8,jU,zo,rV,zZ,pX,I9,VE,EY,xk,oU,jQ,EZ,jm,Dw,zq,E5,iQ,JZ,yY,vV,Aa,jw,lq,pJ,Jb,oD,jZ,Jc,adN,CV,Sl,lM,ahO,Uf,W9,Lc,agC,afQ,YP,adO,Ld,BF,adP,Ja,agD,aca,agE,Sm,Xa,agF,YQ,OE,aag,xm,Xb,Xc,Q8,Uh,Xd,agn,G5,adw,TZ,List.cons_append,List.nil_append,q]);repeat' constructor):p:=h
theorem LU {u v:List PV}(e:u=v:=by simp only[q];try first|rfl|(simp only[xg,jY,D8,jU,zo,rV,zZ,pX,I9,VE,EY,xk,oU,jQ,EZ,jm,Dw,zq,E5,iQ,JZ,yY,vV,Aa,jw,lq,pJ,Jb,oD,jZ,Jc,List.cons_append,List.nil_append,q];done)|simp[zL,eI,eB,eL,eS,List.cons_append,List.nil_append,q]):Gi u v:=le_eq e
instance {M:iO}:EC M jO (xg M):=⟨⟩
instance {M:iO}:EC M iy (jY M):=⟨⟩
instance {M:iO}:EC M vI (D8 M):=⟨⟩
instance {M:iO}:EC M kD (jU M):=⟨⟩
instance {M:iO}:EC M nC (zo M):=⟨⟩
instance {M:iO}:EC M rG (rV M):=⟨⟩
instance {M:iO}:EC M I8 (zZ M):=⟨⟩
instance {M:iO}:EC M xh (pX M):=⟨⟩
instance {M:iO}:EC M rW (I9 M):=⟨⟩
instance {M:iO}:EC M Ug (VE M):=⟨⟩
instance {M:iO}:EC M xO (EY M):=⟨⟩
instance {M:iO}:EC M jh (xk M):=⟨⟩
instance {M:iO}:EC M oQ (oU M):=⟨⟩
instance {M:iO}:EC M iG (jQ M):=⟨⟩
instance {M:iO}:EC M ru (EZ M):=⟨⟩
instance {M:iO}:EC M jI (jm M):=⟨⟩
instance {M:iO}:EC M oN (Dw M):=⟨⟩
instance {M:iO}:EC M iP (zq M):=⟨⟩
instance {M:iO}:EC M qc (E5 M):=⟨⟩
instance {M:iO}:EC M gW (iQ M):=⟨⟩
instance {M:iO}:EC M zt (JZ M):=⟨⟩
instance {M:iO}:EC M jc (yY M):=⟨⟩
instance {M:iO}:EC M iU (vV M):=⟨⟩
instance {M:iO}:EC M D9 (Aa M):=⟨⟩
instance {M:iO}:EC M jq (jw M):=⟨⟩
instance {M:iO}:EC M gX (lq M):=⟨⟩
instance {M:iO}:EC M iF (pJ M):=⟨⟩
instance {M:iO}:EC M iC (Jb M):=⟨⟩
instance {M:iO}:EC M kH (oD M):=⟨⟩
instance {M:iO}:EC M gI (jZ M):=⟨⟩
instance {M:iO}:EC M kL (Jc M):=⟨⟩
end Go.Proofs.YtchmoabpofnbaaaGreat
