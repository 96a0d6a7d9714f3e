import Derived.Test.YtchmoabpofnbaaaGreatC10
set_option linter.all false
namespace Go.Proofs.YtchmoabpofnbaaaGreat
open Go Go.Pv
set_option maxRecDepth 100000
set_option maxHeartbeats 20000000
variable [GM]
structure gX where
 kind:Int
 a:Int
 b:Int
def sJ (M:iG)(x:gX):List PV:=[sI x.kind,sI x.a,sI x.b]
def aai:gX:=gX.mk 0 0 0
structure pO where
 kind:Int
 mV:Int
 source:Int
 least:Int
 most:Int
 n:Int
 options:List gX
def lN (M:iG)(x:pO):List PV:=[sI x.kind,sI x.mV,sI x.source,sI x.least,sI x.most,sI x.n,.sl 3 (M.m gX (sJ M) x.options) false]
def Jh:pO:=pO.mk 0 0 0 0 0 0 ([])
structure iH where
 answers:List (List Int)
 used:Int
 pending:pO
 waits:Bool
 bad:Bool
def lV (M:iG)(x:iH):List PV:=([.sl 1 (M.m (List Int) (eL M 1 (eI .i64)) x.answers) false,sI x.used]++(lN M x.pending++[.sb x.waits,.sb x.bad]))
def abq:iH:=iH.mk ([]) 0 Jh false false
structure jP where
 life:Int
 aag:Int
 lands:Int
 pool:Rt Int
 failed:Bool
 lost:Bool
 library:List Int
 hand:List Int
 wK:List Int
def uK (M:iG)(x:jP):List PV:=[sI x.life,sI x.aag,sI x.lands,sI x.pool.a0,sI x.pool.a1,sI x.pool.a2,sI x.pool.a3,sI x.pool.a4,sI x.pool.a5,.sb x.failed,.sb x.lost,.sl 1 (mI M x.library) false,.sl 1 (mI M x.hand) false,.sl 1 (mI M x.wK) false]
def afq:jP:=jP.mk 0 0 0 Vd false false ([]) ([]) ([])
structure vS where
 kind:Int
 n:Int
def ET (M:iG)(x:vS):List PV:=[sI x.kind,sI x.n]
def Ud:vS:=vS.mk 0 0
structure jY where
 jE:Int
 who:Int
 self:Int
 types:Int
 jA:Int
 jS:Int
 jf:Int
 sub:ByteArray
 keys:Int
 Cb:Int
 power:vS
 jb:vS
 value:vS
def jU (M:iG)(x:jY):List PV:=[sI x.jE,sI x.who,sI x.self,sI x.types,sI x.jA,sI x.jS,sI x.jf,.str x.sub,sI x.keys,sI x.Cb,sI x.power.kind,sI x.power.n,sI x.jb.kind,sI x.jb.n,sI x.value.kind,sI x.value.n]
def lW:jY:=jY.mk 0 0 0 0 0 0 0 (bs []) 0 0 Ud Ud Ud
structure lZ where
 kind:Int
 n:Int
 m:Int
 sub:ByteArray
 filter:jY
def yT (M:iG)(x:lZ):List PV:=([sI x.kind,sI x.n,sI x.m,.str x.sub]++(jU M x.filter))
def ajr:lZ:=lZ.mk 0 0 0 (bs []) lW
structure Vl where
 kind:Int
 n:Int
 filter:jY
def Xg (M:iG)(x:Vl):List PV:=([sI x.kind,sI x.n]++(jU M x.filter))
def ahd:Vl:=Vl.mk 0 0 lW
structure yf where
 kind:Int
 n:Int
 counter:Int
 filter:jY
def F8 (M:iG)(x:yf):List PV:=([sI x.kind,sI x.n,sI x.counter]++(jU M x.filter))
def aaj:yf:=yf.mk 0 0 0 lW
structure jg where
 op:Int
 ref:Vl
 amount:yf
 counter:Int
 jE:Int
 card:ByteArray
 filter:jY
 pool:Rt Int
 mr:List lZ
def xx (M:iG)(x:jg):List PV:=(([sI x.op]++(Xg M x.ref))++(F8 M x.amount++([sI x.counter,sI x.jE,.str x.card]++(jU M x.filter++[sI x.pool.a0,sI x.pool.a1,sI x.pool.a2,sI x.pool.a3,sI x.pool.a4,sI x.pool.a5,.sl 20 (M.m lZ (yT M) x.mr) false]))))
def afr:jg:=jg.mk 0 ahd aaj 0 0 (bs []) lW Vd ([])
structure sG where
 generic:Int
 x:Int
 color:abk Int
def rO (M:iG)(x:sG):List PV:=[sI x.generic,sI x.x,sI x.color.a0,sI x.color.a1,sI x.color.a2,sI x.color.a3,sI x.color.a4]
def Vo:sG:=sG.mk 0 0 aeU
structure JQ where
 Eg:sG
 Cb:Bool
 Jg:Bool
 life:Int
def Dn (M:iG)(x:JQ):List PV:=(rO M x.Eg++[.sb x.Cb,.sb x.Jg,sI x.life])
def acO:JQ:=JQ.mk Vo false false 0
structure xw where
 when:Int
 who:Int
 filter:jY
def qA (M:iG)(x:xw):List PV:=([sI x.when,sI x.who]++(jU M x.filter))
def Ry:xw:=xw.mk 0 0 lW
structure sH where
 mV:Bool
 object:Bool
 filter:jY
def JR (M:iG)(x:sH):List PV:=([.sb x.mV,.sb x.object]++(jU M x.filter))
def aie:sH:=sH.mk false false lW
structure qJ where
 on:Int
 who:Int
 filter:jY
 doF:Int
 n:Int
 jE:Int
 counter:Int
def rY (M:iG)(x:qJ):List PV:=([sI x.on,sI x.who]++(jU M x.filter++[sI x.doF,sI x.n,sI x.jE,sI x.counter]))
def Rz:qJ:=qJ.mk 0 0 lW 0 0 0 0
structure iP where
 kind:Int
 filter:jY
 mr:List lZ
 price:JQ
 slow:Bool
 iK:xw
 may:Bool
 specs:List sH
 kR:List jg
 replace:qJ
def kC (M:iG)(x:iP):List PV:=((([sI x.kind]++(jU M x.filter++([.sl 20 (M.m lZ (yT M) x.mr) false]++(Dn M x.price++[.sb x.slow]))))++(qA M x.iK++[.sb x.may,.sl 18 (M.m sH (JR M) x.specs) false,.sl 64 (M.m jg (xx M) x.kR) false]))++(rY M x.replace))
def CB:iP:=iP.mk 0 lW ([]) acO false Ry false ([]) ([]) Rz
structure qF where
 object:Int
 mV:Int
def DT (M:iG)(x:qF):List PV:=[sI x.object,sI x.mV]
def afs:qF:=qF.mk 0 0
structure kz where
 kind:Int
 source:Int
 object:Int
 mV:Int
 amount:Int
 S9:Int
 to:Int
 cause:Int
 counter:Int
 card:Int
 OL:Bool
 pK:Bool
 extra:NK Int
def jZ (M:iG)(x:kz):List PV:=[sI x.kind,sI x.source,sI x.object,sI x.mV,sI x.amount,sI x.S9,sI x.to,sI x.cause,sI x.counter,sI x.card,.sb x.OL,.sb x.pK,sI x.extra.a0,sI x.extra.a1,sI x.extra.a2]
def Ue:kz:=kz.mk 0 0 0 0 0 0 0 0 0 0 false false Ll
structure og where
 id:Int
 kind:Int
 source:Int
 control:Int
 x:Int
 copy:Bool
 jr:iP
 targets:List qF
 event:kz
def yF (M:iG)(x:og):List PV:=([sI x.id,sI x.kind,sI x.source,sI x.control,sI x.x,.sb x.copy]++(kC M x.jr++([.sl 2 (M.m qF (DT M) x.targets) false]++(jZ M x.event))))
def aif:og:=og.mk 0 0 0 0 0 false CB ([]) Ue
structure iL where
 source:Int
 control:Int
 jr:iP
 event:kz
def wL (M:iG)(x:iL):List PV:=([sI x.source,sI x.control]++(kC M x.jr++(jZ M x.event)))
def adz:iL:=iL.mk 0 0 CB Ue
structure pM where
 stamp:Int
 control:Int
 source:Int
 Vm:Int
 objects:List Int
 mr:List lZ
def zQ (M:iG)(x:pM):List PV:=[sI x.stamp,sI x.control,sI x.source,sI x.Vm,.sl 1 (mI M x.objects) false,.sl 20 (M.m lZ (yT M) x.mr) false]
def aih:pM:=pM.mk 0 0 0 0 ([]) ([])
structure iw where
 id:Int
 card:Int
 owner:Int
 control:Int
 jE:Int
 token:Bool
 pK:Bool
 OJ:Bool
 deadly:Bool
 Cm:Int
 counters:NK Int
 stamp:Int
 copy:Int
 yE:Int
 blocked:Bool
 blocks:Int
 AU:Int
def jQ (M:iG)(x:iw):List PV:=[sI x.id,sI x.card,sI x.owner,sI x.control,sI x.jE,.sb x.token,.sb x.pK,.sb x.OJ,.sb x.deadly,sI x.Cm,sI x.counters.a0,sI x.counters.a1,sI x.counters.a2,sI x.stamp,sI x.copy,sI x.yE,.sb x.blocked,sI x.blocks,sI x.AU]
def P7:iw:=iw.mk 0 0 0 0 0 false false false false 0 Ll 0 0 0 false 0 0
structure gB where
 iJ:List jP
 objects:List iw
 jd:List Int
 qK:List Int
 stack:List og
 waiting:List iL
 kW:List pM
 turn:Int
 mJ:Int
 step:Int
 begun:Bool
 priority:Int
 passes:Int
 nextId:Int
 kD:Int
 seed:Int
 extra:List Int
 over:Int
 ql:Int
def iF (M:iG)(x:gB):List PV:=[.sl 14 (M.m jP (uK M) x.iJ) false,.sl 19 (M.m iw (jQ M) x.objects) false,.sl 1 (mI M x.jd) false,.sl 1 (mI M x.qK) false,.sl 94 (M.m og (yF M) x.stack) false,.sl 89 (M.m iL (wL M) x.waiting) false,.sl 6 (M.m pM (zQ M) x.kW) false,sI x.turn,sI x.mJ,sI x.step,.sb x.begun,sI x.priority,sI x.passes,sI x.nextId,sI x.kD,.si .u64 x.seed,.sl 1 (mI M x.extra) false,sI x.over,sI x.ql]
def iI (M:iG)(x:gB):List PV:=[.sl 14 (M.m jP (uK M) x.iJ) false,.sl 19 (M.m iw (jQ M) x.objects) false,.sl 1 (mI M x.jd) false,.sl 1 (mI M x.qK) false,.sl 94 (M.m og (yF M) x.stack) false,.hc,.sl 6 (M.m pM (zQ M) x.kW) false,sI x.turn,sI x.mJ,sI x.step,.sb x.begun,sI x.priority,sI x.passes,sI x.nextId,sI x.kD,.si .u64 x.seed,.sl 1 (mI M x.extra) false,sI x.over,sI x.ql]
def P8:gB:=gB.mk ([]) ([]) ([]) ([]) ([]) ([]) ([]) 0 0 0 false 0 0 0 0 0 ([]) 0 0
structure zZ where
 F7:Int
 types:Int
 subs:List ByteArray
def Ls (M:iG)(x:zZ):List PV:=[sI x.F7,sI x.types,.sl 1 (M.m ByteArray eS x.subs) false]
def Yn:zZ:=zZ.mk 0 0 ([])
structure iZ where
 name:ByteArray
 token:Bool
 cost:sG
 color:Int
 line:zZ
 power:Int
 jb:Int
 keys:Int
 gU:List iP
def zO (M:iG)(x:iZ):List PV:=([.str x.name,.sb x.token]++(rO M x.cost++[sI x.color,sI x.line.F7,sI x.line.types,.sl 1 (M.m ByteArray eS x.line.subs) false,sI x.power,sI x.jb,sI x.keys,.sl 72 (M.m iP (kC M) x.gU) false]))
def aii:iZ:=iZ.mk (bs []) false Vo 0 Yn 0 0 0 ([])
structure gG where
 name:ByteArray
 cost:sG
 jS:Int
 line:zZ
 power:Int
 jb:Int
 keys:Int
 gU:List iP
 control:Int
def kU (M:iG)(x:gG):List PV:=([.str x.name]++(rO M x.cost++[sI x.jS,sI x.line.F7,sI x.line.types,.sl 1 (M.m ByteArray eS x.line.subs) false,sI x.power,sI x.jb,sI x.keys,.sl 72 (M.m iP (kC M) x.gU) false,sI x.control]))
def yU:gG:=gG.mk (bs []) Vo 0 Yn 0 0 0 ([]) 0
structure iC where
 source:Int
 jr:Int
 control:Int
 stamp:Int
 fixed:Bool
 objects:List Int
 filter:jY
 mr:List lZ
def pR (M:iG)(x:iC):List PV:=([sI x.source,sI x.jr,sI x.control,sI x.stamp,.sb x.fixed,.sl 1 (mI M x.objects) false]++(jU M x.filter++[.sl 20 (M.m lZ (yT M) x.mr) false]))
def Yo:iC:=iC.mk 0 0 0 0 false ([]) lW ([])
structure ik where
 s:gB
 forces:List iC
 iE:List gG
 dropped:List Bool
 done:List Bool
 hits:List (List Int)
def JU (M:iG)(x:ik):List PV:=(iF M x.s++[.sl 23 (M.m iC (pR M) x.forces) false,.sl 17 (M.m gG (kU M) x.iE) false,.sl 1 (M.m Bool eB x.dropped) false,.sl 1 (M.m Bool eB x.done) false,.sl 1 (M.m (List Int) (eL M 1 (eI .i64)) x.hits) false])
def yV (M:iG)(x:ik):List PV:=(iI M x.s++[.sl 23 (M.m iC (pR M) x.forces) false,.sl 17 (M.m gG (kU M) x.iE) false,.sl 1 (M.m Bool eB x.dropped) false,.sl 1 (M.m Bool eB x.done) false,.sl 1 (M.m (List Int) (eL M 1 (eI .i64)) x.hits) false])
def Yp:ik:=ik.mk P8 ([]) ([]) ([]) ([]) ([])
structure kG where
 mJ:Bool
 hits:List Int
 numbers:List Int
def oD (M:iG)(x:kG):List PV:=[.sb x.mJ,.sl 1 (mI M x.hits) false,.sl 1 (mI M x.numbers) false]
def Td:kG:=kG.mk false ([]) ([])
structure gq where
 id:Int
 index:Int
 you:Int
 jr:iP
 earlier:Bool
def jX (M:iG)(x:gq):List PV:=([sI x.id,sI x.index,sI x.you]++(kC M x.jr++[.sb x.earlier]))
def Vp:gq:=gq.mk 0 0 0 CB false
structure kK where
 before:gB
 after:gB
 nK:List gG
 oV:List gG
 e:kz
def JV (M:iG)(x:kK):List PV:=(iF M x.before++(iF M x.after++([.sl 17 (M.m gG (kU M) x.nK) false,.sl 17 (M.m gG (kU M) x.oV) false]++(jZ M x.e))))
def oI (M:iG)(x:kK):List PV:=(iI M x.before++(iI M x.after++([.sl 17 (M.m gG (kU M) x.nK) false,.sl 17 (M.m gG (kU M) x.oV) false]++(jZ M x.e))))
def Yq:kK:=kK.mk P8 P8 ([]) ([]) Ue
structure jC where
 source:Int
 jr:Int
 control:Int
 stamp:Int
 fixed:Bool
 objects:List Int
 filter:jY
 mr:List lZ
def CE (M:iG)(x:jC):List PV:=([sI x.source,sI x.jr,sI x.control,sI x.stamp,.sb x.fixed,.sl 1 (mI M x.objects) false]++(jU M x.filter++[.sl 20 (M.m lZ (yT M) x.mr) false]))
def abr:jC:=jC.mk 0 0 0 0 false ([]) lW ([])
structure mF where
 s:gB
 all:List gG
 l:List jC
 begun:List Bool
 sets:List (List Int)
 blank:List Bool
def qC (M:iG)(x:mF):List PV:=(iF M x.s++[.sl 17 (M.m gG (kU M) x.all) false,.sl 23 (M.m jC (CE M) x.l) false,.sl 1 (M.m Bool eB x.begun) false,.sl 1 (M.m (List Int) (eL M 1 (eI .i64)) x.sets) false,.sl 1 (M.m Bool eB x.blank) false])
def abt:mF:=mF.mk P8 ([]) ([]) ([]) ([]) ([])
def uM (l:List Int):Option (List Int) := kF l.length 8 ( some l)
def OM (answers:List (List Int))(s1:Int×(List (List Int)))(k2:(Int×(List (List Int)))->Option iH):Option iH := br (decide (s1.1<(gJ answers))) (bnd (jl answers s1.1) λx4=>bnd (uM x4) λy5=>kF (s1.2.length+([y5]).length) 24 ( k2 ((iq s1.1 1),(s1.2++[y5])))) (some (iH.mk s1.2 0 Jh false false))
def Nb (answers:List (List Int)):Option iH := gK (OM answers) (0,[])
def Lt (a:List Int)(b:List Int)(s1:Int)(k2:Int->Option Bool):Option Bool := br (decide (s1<(gJ a))) (bnd (jl a s1) λx4=>bnd (jl b s1) λx5=>br (!decide (x4=x5)) (some false) (k2 (iq s1 1))) (some true)
def yX (a:List Int)(b:List Int):Option Bool := br (!decide ((gJ a)=(gJ b))) (some false) (gK (Lt a b) 0)
def AV (a:jP)(b:jP):Option Bool := jn (λs1:Bool=>br s1 (some false) (bnd (yX a.library b.library) λy5=>br y5 (bnd (yX a.hand b.hand) λy6=>br y6 (bnd (yX a.wK b.wK) λy7=>some y7) (some false)) (some false))) λk2=>br (!decide (a.life=b.life)) (k2 true) (br (!decide (a.aag=b.aag)) (k2 true) (br (!decide (a.lands=b.lands)) (k2 true) (lt ((decide (a.pool.a0=b.pool.a0)&&(decide (a.pool.a1=b.pool.a1)&&(decide (a.pool.a2=b.pool.a2)&&(decide (a.pool.a3=b.pool.a3)&&(decide (a.pool.a4=b.pool.a4)&&(decide (a.pool.a5=b.pool.a5)&&true))))))==false) λv4=>br v4 (k2 true) (br ((a.failed==b.failed)==false) (k2 true) (k2 ((a.lost==b.lost)==false))))))
def zo (a:List lZ)(b:List lZ)(s1:Int)(k2:Int->Option Bool):Option Bool := br (decide (s1<(gJ a))) (bnd (jl a s1) λx4=>bnd (jl b s1) λx5=>lt ((decide (x4.kind=x5.kind)&&(decide (x4.n=x5.n)&&(decide (x4.m=x5.m)&&(jc .eql x4.sub x5.sub&&(decide (x4.filter.jE=x5.filter.jE)&&(decide (x4.filter.who=x5.filter.who)&&(decide (x4.filter.self=x5.filter.self)&&(decide (x4.filter.types=x5.filter.types)&&(decide (x4.filter.jA=x5.filter.jA)&&(decide (x4.filter.jS=x5.filter.jS)&&(decide (x4.filter.jf=x5.filter.jf)&&(jc .eql x4.filter.sub x5.filter.sub&&(decide (x4.filter.keys=x5.filter.keys)&&(decide (x4.filter.Cb=x5.filter.Cb)&&(decide (x4.filter.power.kind=x5.filter.power.kind)&&(decide (x4.filter.power.n=x5.filter.power.n)&&(decide (x4.filter.jb.kind=x5.filter.jb.kind)&&(decide (x4.filter.jb.n=x5.filter.jb.n)&&(decide (x4.filter.value.kind=x5.filter.value.kind)&&(decide (x4.filter.value.n=x5.filter.value.n)&&true))))))))))))))))))))==false) λv6=>br v6 (some false) (k2 (iq s1 1))) (some true)
def vT (a:List lZ)(b:List lZ):Option Bool := br (!decide ((gJ a)=(gJ b))) (some false) (gK (zo a b) 0)
def Ji (a:jg)(b:jg):Option Bool := br (decide (a.op=b.op)) (lt (decide (a.ref.kind=b.ref.kind)&&(decide (a.ref.n=b.ref.n)&&(decide (a.ref.filter.jE=b.ref.filter.jE)&&(decide (a.ref.filter.who=b.ref.filter.who)&&(decide (a.ref.filter.self=b.ref.filter.self)&&(decide (a.ref.filter.types=b.ref.filter.types)&&(decide (a.ref.filter.jA=b.ref.filter.jA)&&(decide (a.ref.filter.jS=b.ref.filter.jS)&&(decide (a.ref.filter.jf=b.ref.filter.jf)&&(jc .eql a.ref.filter.sub b.ref.filter.sub&&(decide (a.ref.filter.keys=b.ref.filter.keys)&&(decide (a.ref.filter.Cb=b.ref.filter.Cb)&&(decide (a.ref.filter.power.kind=b.ref.filter.power.kind)&&(decide (a.ref.filter.power.n=b.ref.filter.power.n)&&(decide (a.ref.filter.jb.kind=b.ref.filter.jb.kind)&&(decide (a.ref.filter.jb.n=b.ref.filter.jb.n)&&(decide (a.ref.filter.value.kind=b.ref.filter.value.kind)&&(decide (a.ref.filter.value.n=b.ref.filter.value.n)&&true)))))))))))))))))) λv1=>br v1 (lt (decide (a.amount.kind=b.amount.kind)&&(decide (a.amount.n=b.amount.n)&&(decide (a.amount.counter=b.amount.counter)&&(decide (a.amount.filter.jE=b.amount.filter.jE)&&(decide (a.amount.filter.who=b.amount.filter.who)&&(decide (a.amount.filter.self=b.amount.filter.self)&&(decide (a.amount.filter.types=b.amount.filter.types)&&(decide (a.amount.filter.jA=b.amount.filter.jA)&&(decide (a.amount.filter.jS=b.amount.filter.jS)&&(decide (a.amount.filter.jf=b.amount.filter.jf)&&(jc .eql a.amount.filter.sub b.amount.filter.sub&&(decide (a.amount.filter.keys=b.amount.filter.keys)&&(decide (a.amount.filter.Cb=b.amount.filter.Cb)&&(decide (a.amount.filter.power.kind=b.amount.filter.power.kind)&&(decide (a.amount.filter.power.n=b.amount.filter.power.n)&&(decide (a.amount.filter.jb.kind=b.amount.filter.jb.kind)&&(decide (a.amount.filter.jb.n=b.amount.filter.jb.n)&&(decide (a.amount.filter.value.kind=b.amount.filter.value.kind)&&(decide (a.amount.filter.value.n=b.amount.filter.value.n)&&true))))))))))))))))))) λv2=>br v2 (br (decide (a.counter=b.counter)) (br (decide (a.jE=b.jE)) (br (jc .eql a.card b.card) (lt (decide (a.filter.jE=b.filter.jE)&&(decide (a.filter.who=b.filter.who)&&(decide (a.filter.self=b.filter.self)&&(decide (a.filter.types=b.filter.types)&&(decide (a.filter.jA=b.filter.jA)&&(decide (a.filter.jS=b.filter.jS)&&(decide (a.filter.jf=b.filter.jf)&&(jc .eql a.filter.sub b.filter.sub&&(decide (a.filter.keys=b.filter.keys)&&(decide (a.filter.Cb=b.filter.Cb)&&(decide (a.filter.power.kind=b.filter.power.kind)&&(decide (a.filter.power.n=b.filter.power.n)&&(decide (a.filter.jb.kind=b.filter.jb.kind)&&(decide (a.filter.jb.n=b.filter.jb.n)&&(decide (a.filter.value.kind=b.filter.value.kind)&&(decide (a.filter.value.n=b.filter.value.n)&&true)))))))))))))))) λv3=>br v3 (lt (decide (a.pool.a0=b.pool.a0)&&(decide (a.pool.a1=b.pool.a1)&&(decide (a.pool.a2=b.pool.a2)&&(decide (a.pool.a3=b.pool.a3)&&(decide (a.pool.a4=b.pool.a4)&&(decide (a.pool.a5=b.pool.a5)&&true)))))) λv4=>br v4 (bnd (vT a.mr b.mr) λy5=>some y5) (some false)) (some false)) (some false)) (some false)) (some false)) (some false)) (some false)) (some false)
def zq (a:List jg)(b:List jg)(s1:Int)(k2:Int->Option Bool):Option Bool := br (decide (s1<(gJ a))) (bnd (jl a s1) λx4=>bnd (jl b s1) λx5=>bnd (Ji x4 x5) λy6=>br (y6==false) (some false) (k2 (iq s1 1))) (some true)
def yh (a:List jg)(b:List jg):Option Bool := br (!decide ((gJ a)=(gJ b))) (some false) (gK (zq a b) 0)
def Hm (a:iP)(b:iP)(s1:Int)(k2:Int->Option Bool):Option Bool := br (decide (s1<(gJ a.specs))) (bnd (jl a.specs s1) λx4=>bnd (jl b.specs s1) λx5=>lt ((x4.mV==x5.mV&&(x4.object==x5.object&&(decide (x4.filter.jE=x5.filter.jE)&&(decide (x4.filter.who=x5.filter.who)&&(decide (x4.filter.self=x5.filter.self)&&(decide (x4.filter.types=x5.filter.types)&&(decide (x4.filter.jA=x5.filter.jA)&&(decide (x4.filter.jS=x5.filter.jS)&&(decide (x4.filter.jf=x5.filter.jf)&&(jc .eql x4.filter.sub x5.filter.sub&&(decide (x4.filter.keys=x5.filter.keys)&&(decide (x4.filter.Cb=x5.filter.Cb)&&(decide (x4.filter.power.kind=x5.filter.power.kind)&&(decide (x4.filter.power.n=x5.filter.power.n)&&(decide (x4.filter.jb.kind=x5.filter.jb.kind)&&(decide (x4.filter.jb.n=x5.filter.jb.n)&&(decide (x4.filter.value.kind=x5.filter.value.kind)&&(decide (x4.filter.value.n=x5.filter.value.n)&&true))))))))))))))))))==false) λv6=>br v6 (some false) (k2 (iq s1 1))) (br (decide (a.kind=b.kind)) (lt (decide (a.filter.jE=b.filter.jE)&&(decide (a.filter.who=b.filter.who)&&(decide (a.filter.self=b.filter.self)&&(decide (a.filter.types=b.filter.types)&&(decide (a.filter.jA=b.filter.jA)&&(decide (a.filter.jS=b.filter.jS)&&(decide (a.filter.jf=b.filter.jf)&&(jc .eql a.filter.sub b.filter.sub&&(decide (a.filter.keys=b.filter.keys)&&(decide (a.filter.Cb=b.filter.Cb)&&(decide (a.filter.power.kind=b.filter.power.kind)&&(decide (a.filter.power.n=b.filter.power.n)&&(decide (a.filter.jb.kind=b.filter.jb.kind)&&(decide (a.filter.jb.n=b.filter.jb.n)&&(decide (a.filter.value.kind=b.filter.value.kind)&&(decide (a.filter.value.n=b.filter.value.n)&&true)))))))))))))))) λv7=>br v7 (bnd (vT a.mr b.mr) λy8=>br y8 (lt (decide (a.price.Eg.generic=b.price.Eg.generic)&&(decide (a.price.Eg.x=b.price.Eg.x)&&(decide (a.price.Eg.color.a0=b.price.Eg.color.a0)&&(decide (a.price.Eg.color.a1=b.price.Eg.color.a1)&&(decide (a.price.Eg.color.a2=b.price.Eg.color.a2)&&(decide (a.price.Eg.color.a3=b.price.Eg.color.a3)&&(decide (a.price.Eg.color.a4=b.price.Eg.color.a4)&&(a.price.Cb==b.price.Cb&&(a.price.Jg==b.price.Jg&&(decide (a.price.life=b.price.life)&&true)))))))))) λv9=>br v9 (br (a.slow==b.slow) (lt (decide (a.iK.when=b.iK.when)&&(decide (a.iK.who=b.iK.who)&&(decide (a.iK.filter.jE=b.iK.filter.jE)&&(decide (a.iK.filter.who=b.iK.filter.who)&&(decide (a.iK.filter.self=b.iK.filter.self)&&(decide (a.iK.filter.types=b.iK.filter.types)&&(decide (a.iK.filter.jA=b.iK.filter.jA)&&(decide (a.iK.filter.jS=b.iK.filter.jS)&&(decide (a.iK.filter.jf=b.iK.filter.jf)&&(jc .eql a.iK.filter.sub b.iK.filter.sub&&(decide (a.iK.filter.keys=b.iK.filter.keys)&&(decide (a.iK.filter.Cb=b.iK.filter.Cb)&&(decide (a.iK.filter.power.kind=b.iK.filter.power.kind)&&(decide (a.iK.filter.power.n=b.iK.filter.power.n)&&(decide (a.iK.filter.jb.kind=b.iK.filter.jb.kind)&&(decide (a.iK.filter.jb.n=b.iK.filter.jb.n)&&(decide (a.iK.filter.value.kind=b.iK.filter.value.kind)&&(decide (a.iK.filter.value.n=b.iK.filter.value.n)&&true)))))))))))))))))) λv10=>br v10 (br (a.may==b.may) (bnd (yh a.kR b.kR) λy11=>br y11 (lt (decide (a.replace.on=b.replace.on)&&(decide (a.replace.who=b.replace.who)&&(decide (a.replace.filter.jE=b.replace.filter.jE)&&(decide (a.replace.filter.who=b.replace.filter.who)&&(decide (a.replace.filter.self=b.replace.filter.self)&&(decide (a.replace.filter.types=b.replace.filter.types)&&(decide (a.replace.filter.jA=b.replace.filter.jA)&&(decide (a.replace.filter.jS=b.replace.filter.jS)&&(decide (a.replace.filter.jf=b.replace.filter.jf)&&(jc .eql a.replace.filter.sub b.replace.filter.sub&&(decide (a.replace.filter.keys=b.replace.filter.keys)&&(decide (a.replace.filter.Cb=b.replace.filter.Cb)&&(decide (a.replace.filter.power.kind=b.replace.filter.power.kind)&&(decide (a.replace.filter.power.n=b.replace.filter.power.n)&&(decide (a.replace.filter.jb.kind=b.replace.filter.jb.kind)&&(decide (a.replace.filter.jb.n=b.replace.filter.jb.n)&&(decide (a.replace.filter.value.kind=b.replace.filter.value.kind)&&(decide (a.replace.filter.value.n=b.replace.filter.value.n)&&(decide (a.replace.doF=b.replace.doF)&&(decide (a.replace.n=b.replace.n)&&(decide (a.replace.jE=b.replace.jE)&&(decide (a.replace.counter=b.replace.counter)&&true)))))))))))))))))))))) λv12=>some v12) (some false)) (some false)) (some false)) (some false)) (some false)) (some false)) (some false)) (some false))
def DU (a:iP)(b:iP):Option Bool := br (!decide ((gJ a.specs)=(gJ b.specs))) (some false) (gK (Hm a b) 0)
def Eh (a:og)(b:og)(s1:Int)(k2:Int->Option Bool):Option Bool := br (decide (s1<(gJ a.targets))) (bnd (jl a.targets s1) λx4=>bnd (jl b.targets s1) λx5=>lt ((decide (x4.object=x5.object)&&(decide (x4.mV=x5.mV)&&true))==false) λv6=>br v6 (some false) (k2 (iq s1 1))) (br (decide (a.id=b.id)) (br (decide (a.kind=b.kind)) (br (decide (a.source=b.source)) (br (decide (a.control=b.control)) (br (decide (a.x=b.x)) (br (a.copy==b.copy) (bnd (DU a.jr b.jr) λy7=>br y7 (lt (decide (a.event.kind=b.event.kind)&&(decide (a.event.source=b.event.source)&&(decide (a.event.object=b.event.object)&&(decide (a.event.mV=b.event.mV)&&(decide (a.event.amount=b.event.amount)&&(decide (a.event.S9=b.event.S9)&&(decide (a.event.to=b.event.to)&&(decide (a.event.cause=b.event.cause)&&(decide (a.event.counter=b.event.counter)&&(decide (a.event.card=b.event.card)&&(a.event.OL==b.event.OL&&(a.event.pK==b.event.pK&&(decide (a.event.extra.a0=b.event.extra.a0)&&(decide (a.event.extra.a1=b.event.extra.a1)&&(decide (a.event.extra.a2=b.event.extra.a2)&&true))))))))))))))) λv8=>some v8) (some false)) (some false)) (some false)) (some false)) (some false)) (some false)) (some false))
def EU (a:og)(b:og):Option Bool := br (!decide ((gJ a.targets)=(gJ b.targets))) (some false) (gK (Eh a b) 0)
def zt (a:iL)(b:iL):Option Bool := br (decide (a.source=b.source)) (br (decide (a.control=b.control)) (bnd (DU a.jr b.jr) λy1=>br y1 (lt (decide (a.event.kind=b.event.kind)&&(decide (a.event.source=b.event.source)&&(decide (a.event.object=b.event.object)&&(decide (a.event.mV=b.event.mV)&&(decide (a.event.amount=b.event.amount)&&(decide (a.event.S9=b.event.S9)&&(decide (a.event.to=b.event.to)&&(decide (a.event.cause=b.event.cause)&&(decide (a.event.counter=b.event.counter)&&(decide (a.event.card=b.event.card)&&(a.event.OL==b.event.OL&&(a.event.pK==b.event.pK&&(decide (a.event.extra.a0=b.event.extra.a0)&&(decide (a.event.extra.a1=b.event.extra.a1)&&(decide (a.event.extra.a2=b.event.extra.a2)&&true))))))))))))))) λv2=>some v2) (some false)) (some false)) (some false)
def Ei (a:List lZ)(b:List lZ)(s1:Int)(k2:Int->Option Bool):Option Bool := br (decide (s1<(gJ a))) (bnd (jl a s1) λx4=>bnd (jl b s1) λx5=>lt ((decide (x4.kind=x5.kind)&&(decide (x4.n=x5.n)&&(decide (x4.m=x5.m)&&(jc .eql x4.sub x5.sub&&(decide (x4.filter.jE=x5.filter.jE)&&(decide (x4.filter.who=x5.filter.who)&&(decide (x4.filter.self=x5.filter.self)&&(decide (x4.filter.types=x5.filter.types)&&(decide (x4.filter.jA=x5.filter.jA)&&(decide (x4.filter.jS=x5.filter.jS)&&(decide (x4.filter.jf=x5.filter.jf)&&(jc .eql x4.filter.sub x5.filter.sub&&(decide (x4.filter.keys=x5.filter.keys)&&(decide (x4.filter.Cb=x5.filter.Cb)&&(decide (x4.filter.power.kind=x5.filter.power.kind)&&(decide (x4.filter.power.n=x5.filter.power.n)&&(decide (x4.filter.jb.kind=x5.filter.jb.kind)&&(decide (x4.filter.jb.n=x5.filter.jb.n)&&(decide (x4.filter.value.kind=x5.filter.value.kind)&&(decide (x4.filter.value.n=x5.filter.value.n)&&true))))))))))))))))))))==false) λv6=>br v6 (some false) (k2 (iq s1 1))) (some true)
def EW (a:List lZ)(b:List lZ):Option Bool := br (!decide ((gJ a)=(gJ b))) (some false) (gK (Ei a b) 0)
def EX (a:pM)(b:pM):Option Bool := br (decide (a.stamp=b.stamp)) (br (decide (a.control=b.control)) (br (decide (a.source=b.source)) (br (decide (a.Vm=b.Vm)) (bnd (yX a.objects b.objects) λy1=>br y1 (bnd (EW a.mr b.mr) λy2=>some y2) (some false)) (some false)) (some false)) (some false)) (some false)
def JW (a:gB)(b:gB)(s28:Int)(k29:Int->Option Bool):Option Bool := br (decide (s28<(gJ a.kW))) (bnd (jl a.kW s28) λx31=>bnd (jl b.kW s28) λx32=>bnd (EX x31 x32) λy33=>br (y33==false) (some false) (k29 (iq s28 1))) (some true)
def JX (a:gB)(b:gB)(s22:Int)(k23:Int->Option Bool):Option Bool := br (decide (s22<(gJ a.waiting))) (bnd (jl a.waiting s22) λx25=>bnd (jl b.waiting s22) λx26=>bnd (zt x25 x26) λy27=>br (y27==false) (some false) (k23 (iq s22 1))) (gK (JW a b) 0)
def JY (a:gB)(b:gB)(s16:Int)(k17:Int->Option Bool):Option Bool := br (decide (s16<(gJ a.stack))) (bnd (jl a.stack s16) λx19=>bnd (jl b.stack s16) λx20=>bnd (EU x19 x20) λy21=>br (y21==false) (some false) (k17 (iq s16 1))) (gK (JX a b) 0)
def JZ (a:gB)(b:gB)(s10:Int)(k11:Int->Option Bool):Option Bool := br (decide (s10<(gJ a.objects))) (bnd (jl a.objects s10) λx13=>bnd (jl b.objects s10) λx14=>lt ((decide (x13.id=x14.id)&&(decide (x13.card=x14.card)&&(decide (x13.owner=x14.owner)&&(decide (x13.control=x14.control)&&(decide (x13.jE=x14.jE)&&(x13.token==x14.token&&(x13.pK==x14.pK&&(x13.OJ==x14.OJ&&(x13.deadly==x14.deadly&&(decide (x13.Cm=x14.Cm)&&(decide (x13.counters.a0=x14.counters.a0)&&(decide (x13.counters.a1=x14.counters.a1)&&(decide (x13.counters.a2=x14.counters.a2)&&(decide (x13.stamp=x14.stamp)&&(decide (x13.copy=x14.copy)&&(decide (x13.yE=x14.yE)&&(x13.blocked==x14.blocked&&(decide (x13.blocks=x14.blocks)&&(decide (x13.AU=x14.AU)&&true)))))))))))))))))))==false) λv15=>br v15 (some false) (k11 (iq s10 1))) (gK (JY a b) 0)
def J3 (a:gB)(b:gB)(s4:Int)(k5:Int->Option Bool):Option Bool := br (decide (s4<(gJ a.iJ))) (bnd (jl a.iJ s4) λx7=>bnd (jl b.iJ s4) λx8=>bnd (AV x7 x8) λy9=>br (y9==false) (some false) (k5 (iq s4 1))) (gK (JZ a b) 0)
def Nc (a:gB)(b:gB):Option Bool := jn (λs1:Bool=>br s1 (some false) (gK (J3 a b) 0)) λk2=>br (!decide ((gJ a.iJ)=(gJ b.iJ))) (k2 true) (br (!decide ((gJ a.objects)=(gJ b.objects))) (k2 true) (br (!decide ((gJ a.stack)=(gJ b.stack))) (k2 true) (br (!decide ((gJ a.waiting)=(gJ b.waiting))) (k2 true) (k2 (!decide ((gJ a.kW)=(gJ b.kW)))))))
def P9 (a:gB)(b:gB):Option Bool := jn (λs1:Bool=>br s1 (some false) (bnd (Nc a b) λy4=>br y4 (bnd (yX a.jd b.jd) λy5=>br y5 (bnd (yX a.qK b.qK) λy6=>br y6 (bnd (yX a.extra b.extra) λy7=>some y7) (some false)) (some false)) (some false))) λk2=>br (!decide (a.turn=b.turn)) (k2 true) (br (!decide (a.mJ=b.mJ)) (k2 true) (br (!decide (a.step=b.step)) (k2 true) (br ((a.begun==b.begun)==false) (k2 true) (br (!decide (a.priority=b.priority)) (k2 true) (br (!decide (a.passes=b.passes)) (k2 true) (br (!decide (a.nextId=b.nextId)) (k2 true) (br (!decide (a.kD=b.kD)) (k2 true) (br (!decide (a.seed=b.seed)) (k2 true) (br (!decide (a.over=b.over)) (k2 true) (k2 (!decide (a.ql=b.ql))))))))))))
def xy (n:Int)(least:Int)(most:Int):Option Bool := br (decide (least<=n)) (some (decide (n<=most))) (some false)
def Qa (p:Rt Int)(s1:Int)(k2:Int->Option Bool):Option Bool := br (decide (s1<6)) (jn (λs4:Bool=>br s4 (some false) (k2 (iq s1 1))) λk5=>qE s1 6 λj7=>(match j7 with|0=>(br (decide (p.a0<0)) (k5 true) (qE s1 6 λj8=>(match j8 with|0=>(k5 (decide (1000000<p.a0)))  | 1=>(k5 (decide (1000000<p.a1)))  | 2=>(k5 (decide (1000000<p.a2)))  | 3=>(k5 (decide (1000000<p.a3)))  | 4=>(k5 (decide (1000000<p.a4)))  | _=>(k5 (decide (1000000<p.a5))) )))  | 1=>(br (decide (p.a1<0)) (k5 true) (qE s1 6 λj9=>(match j9 with|0=>(k5 (decide (1000000<p.a0)))  | 1=>(k5 (decide (1000000<p.a1)))  | 2=>(k5 (decide (1000000<p.a2)))  | 3=>(k5 (decide (1000000<p.a3)))  | 4=>(k5 (decide (1000000<p.a4)))  | _=>(k5 (decide (1000000<p.a5))) )))  | 2=>(br (decide (p.a2<0)) (k5 true) (qE s1 6 λj10=>(match j10 with|0=>(k5 (decide (1000000<p.a0)))  | 1=>(k5 (decide (1000000<p.a1)))  | 2=>(k5 (decide (1000000<p.a2)))  | 3=>(k5 (decide (1000000<p.a3)))  | 4=>(k5 (decide (1000000<p.a4)))  | _=>(k5 (decide (1000000<p.a5))) )))  | 3=>(br (decide (p.a3<0)) (k5 true) (qE s1 6 λj11=>(match j11 with|0=>(k5 (decide (1000000<p.a0)))  | 1=>(k5 (decide (1000000<p.a1)))  | 2=>(k5 (decide (1000000<p.a2)))  | 3=>(k5 (decide (1000000<p.a3)))  | 4=>(k5 (decide (1000000<p.a4)))  | _=>(k5 (decide (1000000<p.a5))) )))  | 4=>(br (decide (p.a4<0)) (k5 true) (qE s1 6 λj12=>(match j12 with|0=>(k5 (decide (1000000<p.a0)))  | 1=>(k5 (decide (1000000<p.a1)))  | 2=>(k5 (decide (1000000<p.a2)))  | 3=>(k5 (decide (1000000<p.a3)))  | 4=>(k5 (decide (1000000<p.a4)))  | _=>(k5 (decide (1000000<p.a5))) )))  | _=>(br (decide (p.a5<0)) (k5 true) (qE s1 6 λj13=>(match j13 with|0=>(k5 (decide (1000000<p.a0)))  | 1=>(k5 (decide (1000000<p.a1)))  | 2=>(k5 (decide (1000000<p.a2)))  | 3=>(k5 (decide (1000000<p.a3)))  | 4=>(k5 (decide (1000000<p.a4)))  | _=>(k5 (decide (1000000<p.a5))) ))) )) (some true)
def Nh (p:Rt Int):Option Bool := gK (Qa p) 0
def Qb (s:gB)(id:Int)(s1:Int)(k2:Int->Option Int):Option Int := br (decide (s1<(gJ s.objects))) (bnd (jl s.objects s1) λx4=>br (decide (x4.id=id)) (some s1) (k2 (iq s1 1))) (some (-1))
def Nj (s:gB)(id:Int):Option Int := gK (Qb s id) 0
def Qc (s:gB)(id:Int):Option (iw×Bool) := bnd (Nj s id) λy1=>br (decide (y1<0)) (some (P7,false)) (bnd (jl s.objects y1) λx2=>some (x2,true))
def Gf (s:gB)(id:Int):Option (iw×Bool) := bnd (Qc s id) λy1=>some (y1.1,y1.2)
def Qd (l:List Int)(n:Int)(s1:Int×Int)(k2:(Int×Int)->Option Int):Option Int := br (decide (s1.2<(gJ l))) (jn (λs4:Int=>k2 (s4,(iq s1.2 1))) λk5=>bnd (jl l s1.2) λx7=>br (decide (x7=n)) (k5 (iq s1.1 1)) (k5 s1.1)) (some s1.1)
def FK (l:List Int)(n:Int):Option Int := gK (Qd l n) (0,0)
def Tf (s:gB)(l:List Int)(jE:Int)(owner:Int)(s1:Int)(k2:Int->Option Bool):Option Bool := br (decide (s1<(gJ l))) (bnd (jl l s1) λx4=>bnd (Gf s x4) λy5=>jn (λs6:Bool=>br s6 (some false) (k2 (iq s1 1))) λk7=>br (y5.2==false) (k7 true) (br (!decide (y5.1.jE=jE)) (k7 true) (br (decide (0<=owner)) (br (!decide (y5.1.owner=owner)) (k7 true) (bnd (jl l s1) λx9=>bnd (FK l x9) λy10=>k7 (!decide (y10=1)))) (bnd (jl l s1) λx11=>bnd (FK l x11) λy12=>k7 (!decide (y12=1)))))) (some true)
def DV (s:gB)(l:List Int)(jE:Int)(owner:Int):Option Bool := gK (Tf s l jE owner) 0
def Lu (s:gB)(s2:Int)(k3:Int->Option Bool):Option Bool := br (decide (s2<(gJ s.iJ))) (bnd (jl s.iJ s2) λx5=>jn (λs6:Bool=>br s6 (some false) (jn (λs13:Bool=>br s13 (some false) (k3 (iq s2 1))) λk14=>bnd (DV s x5.library 2 s2) λy16=>br (y16==false) (k14 true) (bnd (DV s x5.hand 1 s2) λy17=>br (y17==false) (k14 true) (bnd (DV s x5.wK 3 s2) λy18=>k14 (y18==false))))) λk7=>bnd (xy x5.life (-1000000) 1000000) λy9=>br (y9==false) (k7 true) (bnd (xy x5.aag 0 1000000) λy10=>br (y10==false) (k7 true) (bnd (xy x5.lands 0 1000000) λy11=>br (y11==false) (k7 true) (bnd (Nh x5.pool) λy12=>k7 (y12==false))))) (bnd (DV s s.jd 0 (-1)) λy19=>br y19 (bnd (DV s s.qK 4 (-1)) λy20=>some y20) (some false))
def Ho (s:gB):Option Bool := bnd (xy (gJ s.iJ) 2 4) λy1=>br (y1==false) (some false) (gK (Lu s) 0)
def uw (s:gB)(p:Int):Option Bool := bnd (xy p 0 (qI (gJ s.iJ) 1)) λy1=>some y1
def Xh (c:NK Int)(s1:Int)(k2:Int->Option Bool):Option Bool := br (decide (s1<3)) (jn (λs4:Bool=>br s4 (some false) (k2 (iq s1 1))) λk5=>qE s1 3 λj7=>(match j7 with|0=>(br (decide (c.a0<0)) (k5 true) (qE s1 3 λj8=>(match j8 with|0=>(k5 (decide (1000000<c.a0)))  | 1=>(k5 (decide (1000000<c.a1)))  | _=>(k5 (decide (1000000<c.a2))) )))  | 1=>(br (decide (c.a1<0)) (k5 true) (qE s1 3 λj9=>(match j9 with|0=>(k5 (decide (1000000<c.a0)))  | 1=>(k5 (decide (1000000<c.a1)))  | _=>(k5 (decide (1000000<c.a2))) )))  | _=>(br (decide (c.a2<0)) (k5 true) (qE s1 3 λj10=>(match j10 with|0=>(k5 (decide (1000000<c.a0)))  | 1=>(k5 (decide (1000000<c.a1)))  | _=>(k5 (decide (1000000<c.a2))) ))) )) (some true)
def Yr (c:NK Int):Option Bool := gK (Xh c) 0
def Qe (o:iw):Option iw := some { o with yE:=(-1),blocked:=false,blocks:=0 }
def Nk (o:iw):Option iw := some { o with deadly:=false,Cm:=0,AU:=0 }
def Yt (o:iw)(cards:Int)(iJ:Int):Option Bool := jn (λs1:Bool=>br s1 (some false) (jn (λs4:Bool=>br s4 (some false) (jn (λs7:Bool=>br s7 (some false) (br (decide (o.jE=0)) (some true) (bnd (Qe o) λy11=>lt (decide (o.id=y11.id)&&(decide (o.card=y11.card)&&(decide (o.owner=y11.owner)&&(decide (o.control=y11.control)&&(decide (o.jE=y11.jE)&&(o.token==y11.token&&(o.pK==y11.pK&&(o.OJ==y11.OJ&&(o.deadly==y11.deadly&&(decide (o.Cm=y11.Cm)&&(decide (o.counters.a0=y11.counters.a0)&&(decide (o.counters.a1=y11.counters.a1)&&(decide (o.counters.a2=y11.counters.a2)&&(decide (o.stamp=y11.stamp)&&(decide (o.copy=y11.copy)&&(decide (o.yE=y11.yE)&&(o.blocked==y11.blocked&&(decide (o.blocks=y11.blocks)&&(decide (o.AU=y11.AU)&&true))))))))))))))))))) λv12=>br v12 (bnd (Nk o) λy13=>lt (decide (o.id=y13.id)&&(decide (o.card=y13.card)&&(decide (o.owner=y13.owner)&&(decide (o.control=y13.control)&&(decide (o.jE=y13.jE)&&(o.token==y13.token&&(o.pK==y13.pK&&(o.OJ==y13.OJ&&(o.deadly==y13.deadly&&(decide (o.Cm=y13.Cm)&&(decide (o.counters.a0=y13.counters.a0)&&(decide (o.counters.a1=y13.counters.a1)&&(decide (o.counters.a2=y13.counters.a2)&&(decide (o.stamp=y13.stamp)&&(decide (o.copy=y13.copy)&&(decide (o.yE=y13.yE)&&(o.blocked==y13.blocked&&(decide (o.blocks=y13.blocks)&&(decide (o.AU=y13.AU)&&true))))))))))))))))))) λv14=>br v14 (br (o.pK==false) (br (o.OJ==false) (lt (decide (o.counters.a0=0)&&(decide (o.counters.a1=0)&&(decide (o.counters.a2=0)&&true))) λv15=>some v15) (some false)) (some false)) (some false)) (some false)))) λk8=>bnd (Yr o.counters) λy10=>br (y10==false) (k8 true) (br (decide (o.copy<(-1))) (k8 true) (br (decide (cards<=o.copy)) (k8 true) (br (decide (o.yE<(-1))) (k8 true) (k8 (decide (iJ<=o.yE)))))))) λk5=>br (decide (o.Cm<0)) (k5 true) (br (decide (1000000<o.Cm)) (k5 true) (br (decide (o.stamp<0)) (k5 true) (br (decide (1000000<o.stamp)) (k5 true) (br (decide (o.blocks<0)) (k5 true) (br (decide (1000000<o.blocks)) (k5 true) (br (decide (o.AU<0)) (k5 true) (k5 (decide (1000000<o.AU))))))))))) λk2=>br (decide (o.id<1)) (k2 true) (br (decide (o.card<0)) (k2 true) (br (decide (cards<=o.card)) (k2 true) (br (decide (o.owner<0)) (k2 true) (br (decide (iJ<=o.owner)) (k2 true) (br (decide (o.control<0)) (k2 true) (br (decide (iJ<=o.control)) (k2 true) (br (decide (o.jE<0)) (k2 true) (k2 (decide (5<o.jE))))))))))
def NU (s:gB)(id:Int)(s1:Int×Int)(k2:(Int×Int)->Option Int):Option Int := br (decide (s1.2<(gJ s.stack))) (jn (λs4:Int=>k2 (s4,(iq s1.2 1))) λk5=>jn (λs7:Bool=>br s7 (k5 (iq s1.1 1)) (k5 s1.1)) λk8=>bnd (jl s.stack s1.2) λx10=>br (decide (x10.kind=1)) (bnd (jl s.stack s1.2) λx11=>k8 (decide (x11.id=id))) (k8 false)) (some s1.1)
def J4 (s:gB)(id:Int):Option Int := gK (NU s id) (0,0)
def DW (l:List Int):Option (List Int) := kF (0+l.length) 8 ( some l)
def Qg (s:gB)(jE:Int)(mV:Int):Option (List Int) := br (decide (jE=0)) (bnd (DW s.jd) λy1=>some y1) (br (decide (jE=4)) (bnd (DW s.qK) λy2=>some y2) (jn (λs3:Bool=>br s3 (some ([])) (br (decide (jE=1)) (bnd (jl s.iJ mV) λx6=>bnd (DW x6.hand) λy7=>some y7) (br (decide (jE=2)) (bnd (jl s.iJ mV) λx8=>bnd (DW x8.library) λy9=>some y9) (br (decide (jE=3)) (bnd (jl s.iJ mV) λx10=>bnd (DW x10.wK) λy11=>some y11) (some ([])))))) λk4=>br (decide (mV<0)) (k4 true) (k4 (decide ((gJ s.iJ)<=mV)))))
def J5 (s:gB)(o:iw):Option Bool := br (decide (o.jE=5)) (bnd (J4 s o.id) λy1=>some (decide (y1=1))) (bnd (Qg s o.jE o.owner) λy2=>bnd (FK y2 o.id) λy3=>some (decide (y3=1)))
def LC (cards:List iZ)(s:gB)(s1:Int)(k2:Int->Option Bool):Option Bool := br (decide (s1<(gJ s.objects))) (bnd (jl s.objects s1) λx4=>jn (λs5:Bool=>br s5 (some false) (bnd (J5 s x4) λy10=>br (y10==false) (some false) (k2 (iq s1 1)))) λk6=>bnd (Yt x4 (gJ cards) (gJ s.iJ)) λy8=>br (y8==false) (k6 true) (br (decide (s.nextId<=x4.id)) (k6 true) (br (decide (s.kD<=x4.stamp)) (k6 true) (br (decide (0<s1)) (bnd (jl s.objects (qI s1 1)) λx9=>k6 (decide (x4.id<=x9.id))) (k6 false))))) (some true)
def Hq (cards:List iZ)(s:gB):Option Bool := br (decide (2048<(gJ s.objects))) (some false) (gK (LC cards s) 0)
def Qh (c:Int):Option Bool := br (decide (97<=c)) (some (decide (c<=122))) (some false)
def Xi (s:ByteArray)(s7:Int)(k8:Int->Option Bool):Option Bool := br (decide (s7<(s.size:Int))) (jn (λs10:Bool=>br s10 (some false) (jn (λs19:Bool=>br s19 (some false) (k8 (iq s7 1))) λk20=>br (decide (0<s7)) (bnd (kN s s7) λx22=>br (decide (x22=45)) (bnd (kN s (qI s7 1)) λx23=>k20 (decide (x23=45))) (k20 false)) (k20 false))) λk11=>bnd (kN s s7) λx13=>bnd (Qh x13) λy14=>br (y14==false) (bnd (kN s s7) λx15=>br (decide (x15<48)) (bnd (kN s s7) λx16=>k11 (!decide (x16=45))) (bnd (kN s s7) λx17=>br (decide (57<x17)) (bnd (kN s s7) λx18=>k11 (!decide (x18=45))) (k11 false))) (k11 false)) (some true)
def RD (s:ByteArray):Option Bool := jn (λs1:Bool=>br s1 (some false) (gK (Xi s) 0)) λk2=>br (decide ((s.size:Int)<1)) (k2 true) (br (decide (32<(s.size:Int))) (k2 true) (bnd (kN s 0) λx4=>bnd (Qh x4) λy5=>br (y5==false) (k2 true) (bnd (kN s (qI (s.size:Int) 1)) λx6=>k2 (decide (x6=45)))))
def Qi (l:List ByteArray)(s:ByteArray)(s1:Int)(k2:Int->Option Int):Option Int := br (decide (s1<(gJ l))) (bnd (jl l s1) λx4=>br (jc .eql x4 s) (some s1) (k2 (iq s1 1))) (some (-1))
def Jj (l:List ByteArray)(s:ByteArray):Option Int := gK (Qi l s) 0
def AX  : Option (List ByteArray) := some ([(bs [98,97,115,105,99]),(bs [117,110,105,113,117,101])])
def yY  : Option (List ByteArray) := some ([(bs [99,114,101,97,116,117,114,101]),(bs [105,110,115,116,97,110,116]),(bs [114,105,116,117,97,108]),(bs [114,101,108,105,99]),(bs [99,104,97,114,109]),(bs [108,97,110,100])])
def CG (s:ByteArray):Option Bool := bnd (RD s) λy1=>br y1 (bnd (AX) λy2=>bnd (Jj y2 s) λy3=>br (decide (y3<0)) (bnd (yY) λy4=>bnd (Jj y4 s) λy5=>some (decide (y5<0))) (some false)) (some false)
def Qj  (s4:Int×Int×Int)(k5:(Int×Int×Int)->Option Bool):Option Bool := br (decide (s4.2.2<6)) (jn (λs7:Bool=>br s7 (some false) (bnd (divO .quo .i64 s4.1 2) λx12=>bnd (divO .quo .i64 s4.2.1 2) λx13=>k5 (x12,x13,(iq s4.2.2 1)))) λk8=>bnd (divO .rem .i64 s4.1 2) λx10=>br (decide (x10=1)) (bnd (divO .rem .i64 s4.2.1 2) λx11=>k8 (decide (x11=1))) (k8 false)) (some true)
def Jk (a:Int)(b:Int)(most:Int):Option Bool := jn (λs1:Bool=>br s1 (some false) (gK (Qj) (a,b,0))) λk2=>br (decide (a<0)) (k2 true) (br (decide (most<a)) (k2 true) (br (decide (b<0)) (k2 true) (k2 (decide (most<b)))))
def FM (b:vS):Option Bool := jn (λs1:Bool=>br s1 (some false) (br (!decide (b.kind=0)) (some true) (some (decide (b.n=0))))) λk2=>br (decide (b.kind<0)) (k2 true) (br (decide (3<b.kind)) (k2 true) (br (decide (b.n<0)) (k2 true) (k2 (decide (1000000<b.n)))))
def Ej (f:jY):Option Bool := jn (λs1:Bool=>br s1 (some false) (jn (λs4:Bool=>br s4 (some false) (jn (λs9:Bool=>br s9 (some false) (bnd (FM f.power) λy13=>br y13 (bnd (FM f.jb) λy14=>br y14 (bnd (FM f.value) λy15=>some y15) (some false)) (some false))) λk10=>br (jc .neq f.sub (bs [])) (bnd (CG f.sub) λy12=>br (y12==false) (k10 true) (br (decide (f.keys<0)) (k10 true) (k10 (decide (131071<f.keys))))) (br (decide (f.keys<0)) (k10 true) (k10 (decide (131071<f.keys)))))) λk5=>bnd (Jk f.types f.jA 63) λy7=>br (y7==false) (k5 true) (bnd (Jk f.jS f.jf 31) λy8=>k5 (y8==false)))) λk2=>br (decide (f.jE<0)) (k2 true) (br (decide (5<f.jE)) (k2 true) (br (decide (f.who<0)) (k2 true) (br (decide (2<f.who)) (k2 true) (br (decide (f.self<0)) (k2 true) (br (decide (2<f.self)) (k2 true) (br (decide (f.Cb<0)) (k2 true) (k2 (decide (2<f.Cb)))))))))
def Qk (m:lZ):Option lZ := br (decide (m.kind=2)) (some { m with kind:=0,n:=0 }) (br (decide (m.kind=3)) (some { m with kind:=0,n:=0 }) (br (decide (m.kind=6)) (some { m with kind:=0,n:=0 }) (br (decide (m.kind=7)) (some { m with kind:=0,n:=0 }) (br (decide (m.kind=8)) (some { m with kind:=0,n:=0 }) (br (decide (m.kind=9)) (some { m with kind:=0,n:=0 }) (br (decide (m.kind=4)) (some { m with kind:=0,sub:=(bs []) }) (br (decide (m.kind=5)) (some { m with kind:=0,sub:=(bs []) }) (br (decide (m.kind=11)) (some { m with kind:=0,filter:=lW }) (br (decide (m.kind=12)) (some (lZ.mk 0 0 0 m.sub m.filter)) (br (decide (m.kind=13)) (some (lZ.mk 0 0 0 m.sub m.filter)) (some { m with kind:=0 })))))))))))
def Jl (mask:Int):Option Bool := br (decide (1<=mask)) (br (decide (mask<=63)) (some (decide ((nC .and .i64 mask 6)=0))) (some false)) (some false)
def Vq (m:lZ):Option Bool := jn (λs1:Bool=>br s1 (some false) (br (decide (m.kind=2)) (bnd (Jl m.n) λy6=>some y6) (br (decide (m.kind=3)) (bnd (Jl m.n) λy7=>some y7) (br (decide (m.kind=4)) (bnd (CG m.sub) λy8=>some y8) (br (decide (m.kind=5)) (bnd (CG m.sub) λy9=>some y9) (br (decide (m.kind=6)) (br (decide (0<=m.n)) (some (decide (m.n<=31))) (some false)) (br (decide (m.kind=7)) (br (decide (1<=m.n)) (some (decide (m.n<=31))) (some false)) (br (decide (m.kind=8)) (br (decide (1<=m.n)) (some (decide (m.n<=131071))) (some false)) (br (decide (m.kind=9)) (br (decide (1<=m.n)) (some (decide (m.n<=131071))) (some false)) (br (decide (m.kind=11)) (bnd (Ej m.filter) λy10=>some y10) (br (decide (m.kind=12)) (br (decide (0<=m.n)) (br (decide (m.n<=99)) (br (decide (0<=m.m)) (some (decide (m.m<=99))) (some false)) (some false)) (some false)) (br (decide (m.kind=13)) (br (decide ((-99)<=m.n)) (br (decide (m.n<=99)) (br (decide ((-99)<=m.m)) (some (decide (m.m<=99))) (some false)) (some false)) (some false)) (some true))))))))))))) λk2=>br (decide (m.kind<1)) (k2 true) (br (decide (14<m.kind)) (k2 true) (bnd (Qk m) λy4=>lt ((decide (y4.kind=0)&&(decide (y4.n=0)&&(decide (y4.m=0)&&(jc .eql y4.sub (bs [])&&(decide (y4.filter.jE=0)&&(decide (y4.filter.who=0)&&(decide (y4.filter.self=0)&&(decide (y4.filter.types=0)&&(decide (y4.filter.jA=0)&&(decide (y4.filter.jS=0)&&(decide (y4.filter.jf=0)&&(jc .eql y4.filter.sub (bs [])&&(decide (y4.filter.keys=0)&&(decide (y4.filter.Cb=0)&&(decide (y4.filter.power.kind=0)&&(decide (y4.filter.power.n=0)&&(decide (y4.filter.jb.kind=0)&&(decide (y4.filter.jb.n=0)&&(decide (y4.filter.value.kind=0)&&(decide (y4.filter.value.n=0)&&true))))))))))))))))))))==false) λv5=>k2 v5))
def Vr (i:Int)(s1:Int×Int)(k2:(Int×Int)->Option Bool):Option Bool := br (decide (s1.2<i)) (bnd (divO .quo .i64 s1.1 2) λx4=>k2 (x4,(iq s1.2 1))) (bnd (divO .rem .i64 s1.1 2) λx5=>some (decide (x5=1)))
def Nl (mask:Int)(i:Int):Option Bool := gK (Vr i) (mask,0)
def IG (l:List ByteArray)(mask:Int)(pby:ByteArray)(s1:ByteArray×Int)(k2:(ByteArray×Int)->Option ByteArray):Option ByteArray := br (decide (s1.2<(gJ l))) (jn (λs4:ByteArray=>k2 (s4,(iq s1.2 1))) λk5=>bnd (Nl mask s1.2) λy7=>br y7 (jn (λs8:ByteArray=>bnd (jl l s1.2) λx12=>bnd (jL s8 x12) λx13=>k5 x13) λk9=>br (jc .neq s1.1 (bs [])) (bnd (jL s1.1 pby) λx11=>k9 x11) (k9 s1.1)) (k5 s1.1)) (some s1.1)
def J6 (l:List ByteArray)(mask:Int)(pby:ByteArray):Option ByteArray := gK (IG l mask pby) ((bs []),0)
def wM (mask:Int):Option ByteArray := br (decide (mask<1)) (some (bs [])) (br (decide (63<mask)) (some (bs [])) (bnd (yY) λy1=>bnd (J6 y1 mask (bs [43])) λy2=>some y2))
def Yu (mask:Int):Option Bool := br (decide (0<=mask)) (some (decide (mask<=31))) (some false)
def Jm (i:Int):Option ByteArray := br (decide (i=0)) (some (bs [97,109,98,101,114])) (br (decide (i=1)) (some (bs [99,111,98,97,108,116])) (br (decide (i=2)) (some (bs [106,101,116])) (br (decide (i=3)) (some (bs [114,117,98,121])) (br (decide (i=4)) (some (bs [101,109,101,114,97,108,100])) (some (bs []))))))
def LD (mask:Int)(s2:ByteArray×Int)(k3:(ByteArray×Int)->Option ByteArray):Option ByteArray := br (decide (s2.2<5)) (jn (λs5:ByteArray=>k3 (s5,(iq s2.2 1))) λk6=>bnd (kT .shl .i64 1 s2.2) λx8=>bnd (divO .quo .i64 mask x8) λx9=>bnd (divO .rem .i64 x9 2) λx10=>br (decide (x10=1)) (jn (λs11:ByteArray=>bnd (Jm s2.2) λy15=>bnd (jL s11 y15) λx16=>k6 x16) λk12=>br (jc .neq s2.1 (bs [])) (bnd (jL s2.1 (bs [43])) λx14=>k12 x14) (k12 s2.1)) (k6 s2.1)) (some s2.1)
def LG (mask:Int):Option ByteArray := bnd (Yu mask) λy1=>br (y1==false) (some (bs [])) (br (decide (mask=0)) (some (bs [110,111,110,101])) (gK (LD mask) ((bs []),0)))
def OO (mask:Int):Option Bool := br (decide (0<=mask)) (some (decide (mask<=131071))) (some false)
def Np  : Option (List ByteArray) := some ([(bs [102,108,121,105,110,103]),(bs [114,101,97,99,104]),(bs [104,97,115,116,101]),(bs [118,105,103,105,108,97,110,116]),(bs [116,114,97,109,112,108,101]),(bs [102,105,114,115,116,45,115,116,114,105,107,101]),(bs [100,111,117,98,108,101,45,115,116,114,105,107,101]),(bs [100,101,97,100,108,121]),(bs [108,105,102,101,108,105,110,107]),(bs [109,101,110,97,99,101]),(bs [100,101,102,101,110,100,101,114]),(bs [119,97,114,100,101,100]),(bs [115,116,117,114,100,121]),(bs [101,108,117,115,105,118,101]),(bs [110,111,45,97,116,116,97,99,107]),(bs [110,111,45,98,108,111,99,107]),(bs [109,117,115,116,45,97,116,116,97,99,107])])
def LH (i:Int):Option ByteArray := br (decide (i<0)) (some (bs [])) (br (decide (16<i)) (some (bs [])) (bnd (Np) λy1=>bnd (jl y1 i) λx2=>some x2))
def Ti  (s2:Int×ByteArray×Int)(k3:(Int×ByteArray×Int)->Option ByteArray):Option ByteArray := br (decide (s2.2.2<17)) (jn (λs5:Int×ByteArray=>k3 (s5.1,s5.2,(iq s2.2.2 1))) λk6=>jn (λs8:ByteArray=>bnd (divO .quo .i64 s2.1 2) λx18=>k6 (x18,s8)) λk9=>bnd (divO .rem .i64 s2.1 2) λx11=>br (decide (x11=1)) (jn (λs12:ByteArray=>bnd (LH s2.2.2) λy16=>bnd (jL s12 y16) λx17=>k9 x17) λk13=>br (jc .neq s2.2.1 (bs [])) (bnd (jL s2.2.1 (bs [43])) λx15=>k13 x15) (k13 s2.2.1)) (k9 s2.2.1)) (br (jc .eql s2.2.1 (bs [])) (some (bs [110,111,110,101])) (some s2.2.1))
def LJ (mask:Int):Option ByteArray := bnd (OO mask) λy1=>br (y1==false) (some (bs [])) (gK (Ti) (mask,(bs []),0))
def Dp  : Option (List ByteArray) := some ([(bs []),(bs [105,110,45,104,97,110,100]),(bs [105,110,45,108,105,98,114,97,114,121]),(bs [105,110,45,103,114,97,118,101,121,97,114,100]),(bs [105,110,45,101,120,105,108,101]),(bs [111,110,45,115,116,97,99,107])])
def EY  : Option (List ByteArray) := some ([(bs []),(bs [121,111,117,114,115]),(bs [116,104,101,105,114,115])])
def Dq  : Option (List ByteArray) := some ([(bs []),(bs [115,101,108,102]),(bs [111,116,104,101,114])])
def EZ  : Option (List ByteArray) := some ([(bs []),(bs [116,97,112,112,101,100]),(bs [117,110,116,97,112,112,101,100])])
def Dt (l:List ByteArray)(s:ByteArray):Option (List ByteArray) := br (jc .eql s (bs [])) (some l) (kF (l.length+([s]).length) 16 ( some (l++[s])))
def Vs (i:Int)(s1:Int×Int)(k2:(Int×Int)->Option Bool):Option Bool := br (decide (s1.2<i)) (bnd (divO .quo .i64 s1.1 2) λx4=>k2 (x4,(iq s1.2 1))) (bnd (divO .rem .i64 s1.1 2) λx5=>some (decide (x5=1)))
def Hr (mask:Int)(i:Int):Option Bool := gK (Vs i) (mask,0)
def KG (i:Int)(s1:Int×Int)(k2:(Int×Int)->Option ByteArray):Option ByteArray := br (decide (s1.2<i)) (k2 ((X8 s1.1 2),(iq s1.2 1))) (bnd (wM s1.1) λy4=>some y4)
def AY (i:Int):Option ByteArray := gK (KG i) (1,0)
def II  (s4:Int×ByteArray)(k5:(Int×ByteArray)->Option ByteArray):Option ByteArray := br (decide (0<s4.1)) (bnd (divO .rem .u64 s4.1 10) λx7=>bnd (lM ([(IntKind.wrap .u8 (nC .add .u64 48 x7))])) λx8=>bnd (jL x8 s4.2) λx9=>bnd (divO .quo .u64 s4.1 10) λx10=>k5 (x10,x9)) (some s4.2)
def CJ (u:Int):Option ByteArray := bnd (divO .rem .u64 u 10) λx1=>bnd (lM ([(IntKind.wrap .u8 (nC .add .u64 48 x1))])) λx2=>bnd (divO .quo .u64 u 10) λx3=>gK (II) (x3,x2)
def AZ (n:Int):Option ByteArray := br (decide (n<0)) (bnd (CJ (IntKind.wrap .u64 (0-(IntKind.wrap .u64 n)))) λy1=>bnd (jL (bs [45]) y1) λx2=>some x2) (bnd (CJ (IntKind.wrap .u64 n)) λy3=>some y3)
def Nq  : Option (List ByteArray) := some ([(bs []),(bs [62,61]),(bs [60,61]),(bs [61])])
def wO (name:ByteArray)(b:vS):Option ByteArray := br (decide (b.kind=0)) (some (bs [])) (bnd (Nq) λy1=>bnd (jl y1 b.kind) λx2=>bnd (jL name x2) λx3=>bnd (AZ b.n) λy4=>bnd (jL x3 y4) λx5=>some x5)
def LK (l:List ByteArray)(pby:ByteArray)(s1:ByteArray×Int)(k2:(ByteArray×Int)->Option ByteArray):Option ByteArray := br (decide (s1.2<(gJ l))) (jn (λs4:ByteArray=>k2 (s4,(iq s1.2 1))) λk5=>jn (λs7:ByteArray=>bnd (jl l s1.2) λx11=>bnd (jL s7 x11) λx12=>k5 x12) λk8=>br (decide (0<s1.2)) (bnd (jL s1.1 pby) λx10=>k8 x10) (k8 s1.1)) (some s1.1)
def Ql (l:List ByteArray)(pby:ByteArray):Option ByteArray := gK (LK l pby) ((bs []),0)
def Ht (f:jY)(y5:List ByteArray)(s50:Int×(List ByteArray))(k51:(Int×(List ByteArray))->Option ByteArray):Option ByteArray := br (decide (s50.1<17)) (jn (λs53:(List ByteArray)=>k51 ((iq s50.1 1),s53)) λk54=>bnd (Hr f.keys s50.1) λy56=>br y56 (bnd (LH s50.1) λy57=>bnd (jL (bs [119,105,116,104,58]) y57) λx58=>kF (s50.2.length+([x58]).length) 16 ( k54 (s50.2++[x58]))) (k54 s50.2)) (bnd (jl y5 f.Cb) λx59=>bnd (Dt s50.2 x59) λy60=>bnd (wO (bs [112,111,119,101,114]) f.power) λy61=>bnd (Dt y60 y61) λy62=>bnd (wO (bs [116,111,117,103,104]) f.jb) λy63=>bnd (Dt y62 y63) λy64=>bnd (wO (bs [118,97,108,117,101]) f.value) λy65=>bnd (Dt y64 y65) λy66=>br (decide ((gJ y66)=0)) (some (bs [97,110,121])) (bnd (Ql y66 (bs [32])) λy67=>some y67))
def Hw (f:jY)(y5:List ByteArray)(s37:Int×(List ByteArray))(k38:(Int×(List ByteArray))->Option ByteArray):Option ByteArray := br (decide (s37.1<5)) (jn (λs40:(List ByteArray)=>k38 ((iq s37.1 1),s40)) λk41=>bnd (Hr f.jf s37.1) λy43=>br y43 (bnd (Jm s37.1) λy44=>bnd (jL (bs [110,111,110,45]) y44) λx45=>kF (s37.2.length+([x45]).length) 16 ( k41 (s37.2++[x45]))) (k41 s37.2)) (jn (λs46:(List ByteArray)=>gK (Ht f y5) (0,s46)) λk47=>br (jc .neq f.sub (bs [])) (bnd (jL (bs [115,117,98,58]) f.sub) λx49=>kF (s37.2.length+([x49]).length) 16 ( k47 (s37.2++[x49]))) (k47 s37.2))
def Hy (f:jY)(y5:List ByteArray)(s29:Int×(List ByteArray))(k30:(Int×(List ByteArray))->Option ByteArray):Option ByteArray := br (decide (s29.1<5)) (jn (λs32:(List ByteArray)=>k30 ((iq s29.1 1),s32)) λk33=>bnd (Hr f.jS s29.1) λy35=>br y35 (bnd (Jm s29.1) λy36=>kF (s29.2.length+([y36]).length) 16 ( k33 (s29.2++[y36]))) (k33 s29.2)) (gK (Hw f y5) (0,s29.2))
def Hz (f:jY)(y5:List ByteArray)(s20:Int×(List ByteArray))(k21:(Int×(List ByteArray))->Option ByteArray):Option ByteArray := br (decide (s20.1<6)) (jn (λs23:(List ByteArray)=>k21 ((iq s20.1 1),s23)) λk24=>bnd (Hr f.jA s20.1) λy26=>br y26 (bnd (AY s20.1) λy27=>bnd (jL (bs [110,111,110,45]) y27) λx28=>kF (s20.2.length+([x28]).length) 16 ( k24 (s20.2++[x28]))) (k24 s20.2)) (gK (Hy f y5) (0,s20.2))
def HY (f:jY)(y5:List ByteArray)(s12:Int×(List ByteArray))(k13:(Int×(List ByteArray))->Option ByteArray):Option ByteArray := br (decide (s12.1<6)) (jn (λs15:(List ByteArray)=>k13 ((iq s12.1 1),s15)) λk16=>bnd (Hr f.types s12.1) λy18=>br y18 (bnd (AY s12.1) λy19=>kF (s12.2.length+([y19]).length) 16 ( k16 (s12.2++[y19]))) (k16 s12.2)) (gK (Hz f y5) (0,s12.2))
def LM (f:jY):Option ByteArray := bnd (Ej f) λy1=>br (y1==false) (some (bs [])) (bnd (Dp) λy2=>bnd (EY) λy3=>bnd (Dq) λy4=>bnd (EZ) λy5=>bnd (jl y2 f.jE) λx6=>bnd (Dt ([]) x6) λy7=>bnd (jl y3 f.who) λx8=>bnd (Dt y7 x8) λy9=>bnd (jl y4 f.self) λx10=>bnd (Dt y9 x10) λy11=>gK (HY f y5) (0,y11))
def Qm (m:lZ):Option ByteArray := bnd (Vq m) λy1=>br (y1==false) (some (bs [])) (br (decide (m.kind=1)) (some (bs [99,111,110,116,114,111,108])) (br (decide (m.kind=2)) (bnd (wM m.n) λy2=>bnd (jL (bs [116,121,112,101,115,61]) y2) λx3=>some x3) (br (decide (m.kind=3)) (bnd (wM m.n) λy4=>bnd (jL (bs [116,121,112,101,115,43,61]) y4) λx5=>some x5) (br (decide (m.kind=4)) (bnd (jL (bs [115,117,98,61]) m.sub) λx6=>some x6) (br (decide (m.kind=5)) (bnd (jL (bs [115,117,98,43,61]) m.sub) λx7=>some x7) (br (decide (m.kind=6)) (bnd (LG m.n) λy8=>bnd (jL (bs [99,111,108,111,114,115,61]) y8) λx9=>some x9) (br (decide (m.kind=7)) (bnd (LG m.n) λy10=>bnd (jL (bs [99,111,108,111,114,115,43,61]) y10) λx11=>some x11) (br (decide (m.kind=8)) (bnd (LJ m.n) λy12=>bnd (jL (bs [107,101,121,115,43,61]) y12) λx13=>some x13) (br (decide (m.kind=9)) (bnd (LJ m.n) λy14=>bnd (jL (bs [107,101,121,115,45,61]) y14) λx15=>some x15) (br (decide (m.kind=10)) (some (bs [98,108,97,110,107])) (br (decide (m.kind=11)) (bnd (LM m.filter) λy16=>bnd (jL (bs [112,116,61,99,111,117,110,116,40]) y16) λx17=>bnd (jL x17 (bs [41])) λx18=>some x18) (br (decide (m.kind=12)) (bnd (AZ m.n) λy19=>bnd (jL (bs [112,116,61]) y19) λx20=>bnd (jL x20 (bs [47])) λx21=>bnd (AZ m.m) λy22=>bnd (jL x21 y22) λx23=>some x23) (br (decide (m.kind=13)) (bnd (AZ m.n) λy24=>bnd (jL (bs [112,116,43,61]) y24) λx25=>bnd (jL x25 (bs [47])) λx26=>bnd (AZ m.m) λy27=>bnd (jL x26 y27) λx28=>some x28) (some (bs [112,116,45,115,119,105,116,99,104])))))))))))))))
def Em (l:List lZ)(s4:ByteArray×Int)(k5:(ByteArray×Int)->Option ByteArray):Option ByteArray := br (decide (s4.2<(gJ l))) (jn (λs7:ByteArray=>k5 (s7,(iq s4.2 1))) λk8=>bnd (jl l s4.2) λx10=>bnd (Vq x10) λy11=>br (y11==false) (some (bs [])) (jn (λs12:ByteArray=>bnd (jl l s4.2) λx16=>bnd (Qm x16) λy17=>bnd (jL s12 y17) λx18=>k8 x18) λk13=>br (decide (0<s4.2)) (bnd (jL s4.1 (bs [44,32])) λx15=>k13 x15) (k13 s4.1))) (some s4.1)
def yj (l:List lZ):Option ByteArray := jn (λs1:Bool=>br s1 (some (bs [])) (gK (Em l) ((bs []),0))) λk2=>br (decide ((gJ l)=0)) (k2 true) (k2 (decide (6<(gJ l))))
def RF (c:sG)(s4:Int)(k5:Int->Option Bool):Option Bool := br (decide (s4<5)) (jn (λs7:Bool=>br s7 (some false) (k5 (iq s4 1))) λk8=>qE s4 5 λj10=>(match j10 with|0=>(br (decide (c.color.a0<0)) (k8 true) (qE s4 5 λj11=>(match j11 with|0=>(k8 (decide (9<c.color.a0)))  | 1=>(k8 (decide (9<c.color.a1)))  | 2=>(k8 (decide (9<c.color.a2)))  | 3=>(k8 (decide (9<c.color.a3)))  | _=>(k8 (decide (9<c.color.a4))) )))  | 1=>(br (decide (c.color.a1<0)) (k8 true) (qE s4 5 λj12=>(match j12 with|0=>(k8 (decide (9<c.color.a0)))  | 1=>(k8 (decide (9<c.color.a1)))  | 2=>(k8 (decide (9<c.color.a2)))  | 3=>(k8 (decide (9<c.color.a3)))  | _=>(k8 (decide (9<c.color.a4))) )))  | 2=>(br (decide (c.color.a2<0)) (k8 true) (qE s4 5 λj13=>(match j13 with|0=>(k8 (decide (9<c.color.a0)))  | 1=>(k8 (decide (9<c.color.a1)))  | 2=>(k8 (decide (9<c.color.a2)))  | 3=>(k8 (decide (9<c.color.a3)))  | _=>(k8 (decide (9<c.color.a4))) )))  | 3=>(br (decide (c.color.a3<0)) (k8 true) (qE s4 5 λj14=>(match j14 with|0=>(k8 (decide (9<c.color.a0)))  | 1=>(k8 (decide (9<c.color.a1)))  | 2=>(k8 (decide (9<c.color.a2)))  | 3=>(k8 (decide (9<c.color.a3)))  | _=>(k8 (decide (9<c.color.a4))) )))  | _=>(br (decide (c.color.a4<0)) (k8 true) (qE s4 5 λj15=>(match j15 with|0=>(k8 (decide (9<c.color.a0)))  | 1=>(k8 (decide (9<c.color.a1)))  | 2=>(k8 (decide (9<c.color.a2)))  | 3=>(k8 (decide (9<c.color.a3)))  | _=>(k8 (decide (9<c.color.a4))) ))) )) (some true)
def OQ (c:sG):Option Bool := jn (λs1:Bool=>br s1 (some false) (gK (RF c) 0)) λk2=>br (decide (c.generic<0)) (k2 true) (br (decide (99<c.generic)) (k2 true) (br (decide (c.x<0)) (k2 true) (k2 (decide (2<c.x)))))
def Nr (p:JQ):Option Bool := bnd (OQ p.Eg) λy1=>br y1 (br (decide (p.Eg.x=0)) (br (decide (0<=p.life)) (some (decide (p.life<=99))) (some false)) (some false)) (some false)
def LP (when:Int):Option ByteArray := br (decide (when=1)) (some (bs [101,110,116,101,114,115])) (br (decide (when=2)) (some (bs [108,101,97,118,101,115])) (br (decide (when=3)) (some (bs [100,105,101,115])) (br (decide (when=4)) (some (bs [97,116,116,97,99,107,115])) (br (decide (when=5)) (some (bs [98,108,111,99,107,115])) (br (decide (when=6)) (some (bs [100,101,97,108,115])) (br (decide (when=7)) (some (bs [100,101,97,108,116])) (br (decide (when=8)) (some (bs [100,114,97,119,115])) (br (decide (when=9)) (some (bs [99,97,115,116,115])) (br (decide (when=10)) (some (bs [117,112,107,101,101,112])) (br (decide (when=11)) (some (bs [101,110,100])) (br (decide (when=12)) (some (bs [103,97,105,110,115])) (br (decide (when=13)) (some (bs [108,111,115,101,115])) (br (decide (when=14)) (some (bs [112,108,97,99,101,100])) (some (bs [])))))))))))))))
def Gg (when:Int):Option Bool := br (decide (when=8)) (some true) (br (decide (when=9)) (some true) (br (decide (when=10)) (some true) (br (decide (when=11)) (some true) (br (decide (when=12)) (some true) (some (decide (when=13)))))))
def Du (when:Int):Option Bool := bnd (LP when) λy1=>br (jc .neq y1 (bs [])) (bnd (Gg when) λy2=>br (y2==false) (some true) (some (decide (when=9)))) (some false)
def Yv (t:xw):Option Bool := jn (λs1:Bool=>br s1 (some false) (bnd (Du t.when) λy6=>br (y6==false) (lt (decide (t.filter.jE=0)&&(decide (t.filter.who=0)&&(decide (t.filter.self=0)&&(decide (t.filter.types=0)&&(decide (t.filter.jA=0)&&(decide (t.filter.jS=0)&&(decide (t.filter.jf=0)&&(jc .eql t.filter.sub (bs [])&&(decide (t.filter.keys=0)&&(decide (t.filter.Cb=0)&&(decide (t.filter.power.kind=0)&&(decide (t.filter.power.n=0)&&(decide (t.filter.jb.kind=0)&&(decide (t.filter.jb.n=0)&&(decide (t.filter.value.kind=0)&&(decide (t.filter.value.n=0)&&true)))))))))))))))) λv7=>some v7) (jn (λs8:Int=>bnd (Ej t.filter) λy11=>br y11 (some (decide (t.filter.jE=s8))) (some false)) λk9=>br (decide (t.when=9)) (k9 5) (k9 0)))) λk2=>bnd (LP t.when) λy4=>br (jc .eql y4 (bs [])) (k2 true) (br (decide (t.who<0)) (k2 true) (br (decide (2<t.who)) (k2 true) (bnd (Gg t.when) λy5=>br (y5==false) (k2 (!decide (t.who=0))) (k2 false))))
def FN (f:jY):Option Bool := bnd (Ej f) λy1=>br y1 (some (decide (f.jE=0))) (some false)
def Ns (pr:qJ):Option Bool := jn (λs1:Bool=>br s1 (some false) (br (decide (pr.doF=5)) (br (decide (pr.n=0)) (br (decide (pr.counter=0)) (br (decide (pr.jE=1)) (some true) (br (decide (pr.jE=2)) (some true) (some (decide (pr.jE=4))))) (some false)) (some false)) (br (decide (pr.doF=6)) (br (decide (pr.n=0)) (br (decide (pr.counter=0)) (some (decide (pr.jE=0))) (some false)) (some false)) (br (decide (pr.doF=7)) (br (decide (pr.jE=0)) (br (decide (1<=pr.n)) (br (decide (pr.n<=99)) (br (decide (0<=pr.counter)) (some (decide (pr.counter<3))) (some false)) (some false)) (some false)) (some false)) (some false))))) λk2=>br (!decide (pr.who=0)) (k2 true) (bnd (FN pr.filter) λy4=>k2 (y4==false))
def Nu (pr:qJ):Option Bool := jn (λs1:Bool=>br s1 (some false) (jn (λs4:Bool=>br s4 (br (decide (1<=pr.n)) (some (decide (pr.n<=99))) (some false)) (some (decide (pr.n=0)))) λk5=>br (decide (pr.doF=2)) (k5 true) (k5 (decide (pr.doF=4))))) λk2=>br (!decide (pr.jE=0)) (k2 true) (k2 (!decide (pr.counter=0)))
def Yw (pr:qJ):Option Bool := br (decide (pr.on=2)) (bnd (Ns pr) λy1=>some y1) (bnd (Nu pr) λy2=>br (y2==false) (some false) (lt (decide (pr.filter.jE=0)&&(decide (pr.filter.who=0)&&(decide (pr.filter.self=0)&&(decide (pr.filter.types=0)&&(decide (pr.filter.jA=0)&&(decide (pr.filter.jS=0)&&(decide (pr.filter.jf=0)&&(jc .eql pr.filter.sub (bs [])&&(decide (pr.filter.keys=0)&&(decide (pr.filter.Cb=0)&&(decide (pr.filter.power.kind=0)&&(decide (pr.filter.power.n=0)&&(decide (pr.filter.jb.kind=0)&&(decide (pr.filter.jb.n=0)&&(decide (pr.filter.value.kind=0)&&(decide (pr.filter.value.n=0)&&true)))))))))))))))) λv3=>jn (λs4:Bool×Bool=>br (decide (pr.on=1)) (jn (λs7:Bool=>br s7 (some false) (br (decide (pr.who=0)) (bnd (FN pr.filter) λy10=>br y10 (some true) (br (decide (pr.who=1)) (some s4.1) (br (decide (pr.who=2)) (some s4.1) (some false)))) (br (decide (pr.who=1)) (some s4.1) (br (decide (pr.who=2)) (some s4.1) (some false))))) λk8=>br (!decide (pr.doF=1)) (br (!decide (pr.doF=2)) (br (!decide (pr.doF=3)) (k8 (!decide (pr.doF=4))) (k8 false)) (k8 false)) (k8 false)) (br (decide (pr.on=8)) (br s4.2 (br (decide (pr.who=0)) (bnd (FN pr.filter) λy11=>some y11) (some false)) (some false)) (br (decide (pr.on=3)) (br (decide (pr.doF=4)) (br (decide (0<=pr.who)) (br (decide (pr.who<=2)) (some s4.1) (some false)) (some false)) (br (decide (pr.doF=8)) (br (decide (0<=pr.who)) (br (decide (pr.who<=2)) (some s4.1) (some false)) (some false)) (some false))) (br (decide (pr.on=4)) (br s4.2 (br (decide (0<=pr.who)) (br (decide (pr.who<=2)) (some s4.1) (some false)) (some false)) (some false)) (br (decide (pr.on=5)) (br s4.2 (br (decide (0<=pr.who)) (br (decide (pr.who<=2)) (some s4.1) (some false)) (some false)) (some false)) (br (decide (pr.on=10)) (br s4.2 (br (decide (0<=pr.who)) (br (decide (pr.who<=2)) (some s4.1) (some false)) (some false)) (some false)) (some false))))))) λk5=>br (decide (pr.doF=3)) (k5 (v3,true)) (br (decide (pr.doF=4)) (k5 (v3,true)) (k5 (v3,(decide (pr.doF=8)))))))
def Qn (s:sH):Option Bool := br (s.object==false) (jn (λs1:Bool=>some s1) λk2=>br s.mV (lt (decide (s.filter.jE=0)&&(decide (s.filter.who=0)&&(decide (s.filter.self=0)&&(decide (s.filter.types=0)&&(decide (s.filter.jA=0)&&(decide (s.filter.jS=0)&&(decide (s.filter.jf=0)&&(jc .eql s.filter.sub (bs [])&&(decide (s.filter.keys=0)&&(decide (s.filter.Cb=0)&&(decide (s.filter.power.kind=0)&&(decide (s.filter.power.n=0)&&(decide (s.filter.jb.kind=0)&&(decide (s.filter.jb.n=0)&&(decide (s.filter.value.kind=0)&&(decide (s.filter.value.n=0)&&true)))))))))))))))) λv4=>k2 v4) (k2 false)) (bnd (Ej s.filter) λy5=>br y5 (br (decide (s.filter.jE=0)) (some true) (br (decide (s.filter.jE=3)) (some true) (some (decide (s.filter.jE=5))))) (some false))
def Qo (l:List sH)(s1:Int)(k2:Int->Option Bool):Option Bool := br (decide (s1<(gJ l))) (bnd (jl l s1) λx4=>bnd (Qn x4) λy5=>br (y5==false) (some false) (k2 (iq s1 1))) (some (decide ((gJ l)<=4)))
def Nv (l:List sH):Option Bool := gK (Qo l) 0
def Qp (op:Int):Option ByteArray := jn (λs1:Bool=>br s1 (some (bs [])) (bnd (lJ 26 (qI op 1)) λj4=>bnd (([(bs [100,97,109,97,103,101]),(bs [100,101,115,116,114,111,121]),(bs [109,111,118,101]),(bs [100,114,97,119]),(bs [100,105,115,99,97,114,100]),(bs [103,97,105,110]),(bs [108,111,115,101]),(bs [116,97,112]),(bs [117,110,116,97,112]),(bs [112,117,116]),(bs [116,97,107,101]),(bs [99,114,101,97,116,101]),(bs [109,111,100]),(bs [109,97,110,97]),(bs [99,111,117,110,116,101,114]),(bs [99,111,112,121]),(bs [98,101,99,111,109,101]),(bs [115,97,99,114,105,102,105,99,101]),(bs [109,105,108,108]),(bs [115,99,114,121]),(bs [115,101,97,114,99,104]),(bs [115,104,105,101,108,100]),(bs [116,117,114,110]),(bs [119,105,110]),(bs [100,101,102,101,97,116]),(bs [118,101,110,111,109])])[j4]?) λx5=>some x5)) λk2=>br (decide (op<1)) (k2 true) (k2 (decide (26<op)))
def Qq (op:Int):Option ByteArray := br (decide (op=2)) (some (bs [114])) (br (decide (op=8)) (some (bs [114])) (br (decide (op=9)) (some (bs [114])) (br (decide (op=15)) (some (bs [114])) (br (decide (op=16)) (some (bs [114])) (br (decide (op=17)) (some (bs [114])) (br (decide (op=25)) (some (bs [114])) (br (decide (op=3)) (some (bs [114,122])) (br (decide (op=10)) (some (bs [114,107,97])) (br (decide (op=11)) (some (bs [114,107,97])) (br (decide (op=12)) (some (bs [114,99,97])) (br (decide (op=13)) (some (bs [114,109])) (br (decide (op=14)) (some (bs [112])) (br (decide (op=18)) (some (bs [114,97,102])) (br (decide (op=20)) (some (bs [97])) (br (decide (op=21)) (some (bs [102])) (br (decide (op=23)) (some (bs [])) (br (decide (op=24)) (some (bs [])) (some (bs [114,97])))))))))))))))))))
def Tj (field:Int)(y1:ByteArray)(s2:Int)(k3:Int->Option Bool):Option Bool := br (decide (s2<(y1.size:Int))) (bnd (kN y1 s2) λx5=>br (decide (x5=field)) (some true) (k3 (iq s2 1))) (some false)
def xA (op:Int)(field:Int):Option Bool := bnd (Qq op) λy1=>gK (Tj field y1) 0
def E5 (kind:Int):Option Bool := br (decide (kind=3)) (some true) (some (decide (kind=8)))
def Yx (pr:Vl)(specs:Int):Option Bool := jn (λs1:Int=>jn (λs4:Bool=>br s4 (some false) (jn (λs7:Unit=>br (decide (pr.kind=4)) (bnd (Ej pr.filter) λy14=>some y14) (lt (decide (pr.filter.jE=0)&&(decide (pr.filter.who=0)&&(decide (pr.filter.self=0)&&(decide (pr.filter.types=0)&&(decide (pr.filter.jA=0)&&(decide (pr.filter.jS=0)&&(decide (pr.filter.jf=0)&&(jc .eql pr.filter.sub (bs [])&&(decide (pr.filter.keys=0)&&(decide (pr.filter.Cb=0)&&(decide (pr.filter.power.kind=0)&&(decide (pr.filter.power.n=0)&&(decide (pr.filter.jb.kind=0)&&(decide (pr.filter.jb.n=0)&&(decide (pr.filter.value.kind=0)&&(decide (pr.filter.value.n=0)&&true)))))))))))))))) λv15=>some v15)) λk8=>bnd (E5 pr.kind) λy10=>br y10 (jn (λs11:Bool=>br s11 (some false) (k8 ())) λk12=>br (decide (pr.n<1)) (k12 true) (k12 (decide (s1<pr.n)))) (br (!decide (pr.n=0)) (some false) (k8 ())))) λk5=>br (decide (pr.kind<1)) (k5 true) (k5 (decide (8<pr.kind)))) λk2=>br (decide (4<specs)) (k2 4) (k2 specs)
def LQ (kind:Int):Option ByteArray := br (decide (kind=0)) (some (bs [112,108,117,115])) (br (decide (kind=1)) (some (bs [109,105,110,117,115])) (br (decide (kind=2)) (some (bs [99,104,97,114,103,101])) (some (bs []))))
def Yy (a:yf):Option Bool := jn (λs1:yf=>br (decide (0<=a.kind)) (br (decide (a.kind<=7)) (lt (decide (s1.kind=a.kind)&&(decide (s1.n=0)&&(decide (s1.counter=0)&&(decide (s1.filter.jE=0)&&(decide (s1.filter.who=0)&&(decide (s1.filter.self=0)&&(decide (s1.filter.types=0)&&(decide (s1.filter.jA=0)&&(decide (s1.filter.jS=0)&&(decide (s1.filter.jf=0)&&(jc .eql s1.filter.sub (bs [])&&(decide (s1.filter.keys=0)&&(decide (s1.filter.Cb=0)&&(decide (s1.filter.power.kind=0)&&(decide (s1.filter.power.n=0)&&(decide (s1.filter.jb.kind=0)&&(decide (s1.filter.jb.n=0)&&(decide (s1.filter.value.kind=0)&&(decide (s1.filter.value.n=0)&&true))))))))))))))))))) λv12=>some v12) (some false)) (some false)) λk2=>br (decide (a.kind=0)) (jn (λs4:Bool=>br s4 (some false) (k2 { a with n:=0 })) λk5=>br (decide (a.n<0)) (k5 true) (k5 (decide (1000000<a.n)))) (br (decide (a.kind=2)) (jn (λs7:Bool=>br s7 (some false) (k2 { a with n:=0,filter:=lW })) λk8=>br (decide (a.n<1)) (k8 true) (br (decide (99<a.n)) (k8 true) (bnd (Ej a.filter) λy10=>k8 (y10==false)))) (br (decide (a.kind=4)) (bnd (LQ a.counter) λy11=>br (jc .eql y11 (bs [])) (some false) (k2 { a with counter:=0 })) (k2 a)))
def Qr (l:List lZ):Option Bool := bnd (yj l) λy1=>some (jc .neq y1 (bs []))
def Tm (c:sG)(s11:ByteArray×Int)(k12:(ByteArray×Int)->Option ByteArray)(s14:ByteArray×Int)(k15:(ByteArray×Int)->Option ByteArray):Option ByteArray := jn (λs17:Bool=>br s17 (bnd (lS (bs [65,67,74,82,69]) s11.2 (iq s11.2 1)) λx21=>bnd (jL s14.1 x21) λx22=>k15 (x22,(iq s14.2 1))) (k12 (s14.1,(iq s11.2 1)))) λk18=>qE s11.2 5 λj20=>(match j20 with|0=>(k18 (decide (s14.2<c.color.a0)))  | 1=>(k18 (decide (s14.2<c.color.a1)))  | 2=>(k18 (decide (s14.2<c.color.a2)))  | 3=>(k18 (decide (s14.2<c.color.a3)))  | _=>(k18 (decide (s14.2<c.color.a4))) )
def LU (c:sG)(s11:ByteArray×Int)(k12:(ByteArray×Int)->Option ByteArray):Option ByteArray := br (decide (s11.2<5)) (gK (Tm c s11 k12) (s11.1,0)) (br (jc .eql s11.1 (bs [])) (some (bs [48])) (some s11.1))
def LV (c:sG)(s2:ByteArray×Int)(k3:(ByteArray×Int)->Option ByteArray):Option ByteArray := br (decide (s2.2<c.x)) (bnd (jL s2.1 (bs [88])) λx5=>k3 (x5,(iq s2.2 1))) (jn (λs6:ByteArray=>gK (LU c) (s6,0)) λk7=>br (!decide (c.generic=0)) (bnd (AZ c.generic) λy9=>bnd (jL s2.1 y9) λx10=>k7 x10) (k7 s2.1))
def Qs (c:sG):Option ByteArray := bnd (OQ c) λy1=>br (y1==false) (some (bs [])) (gK (LV c) ((bs []),0))
def LW (p:Rt Int):Option sG := some (sG.mk p.a0 0 (abk.mk p.a1 p.a2 p.a3 p.a4 p.a5))
def E8 (p:Rt Int):Option ByteArray := bnd (LW p) λy1=>bnd (Qs y1) λy2=>some y2
def J7 (op:Int)(f:jY):Option Bool := jn (λs1:Int=>bnd (Ej f) λy4=>br y4 (some (decide (f.jE=s1))) (some false)) λk2=>br (decide (op=21)) (k2 2) (k2 0)
def Yz (pe:jg)(specs:Int):Option Bool := bnd (Qp pe.op) λy1=>br (jc .eql y1 (bs [])) (some false) (lt (decide (pe.ref.kind=0)&&(decide (pe.ref.n=0)&&(decide (pe.ref.filter.jE=0)&&(decide (pe.ref.filter.who=0)&&(decide (pe.ref.filter.self=0)&&(decide (pe.ref.filter.types=0)&&(decide (pe.ref.filter.jA=0)&&(decide (pe.ref.filter.jS=0)&&(decide (pe.ref.filter.jf=0)&&(jc .eql pe.ref.filter.sub (bs [])&&(decide (pe.ref.filter.keys=0)&&(decide (pe.ref.filter.Cb=0)&&(decide (pe.ref.filter.power.kind=0)&&(decide (pe.ref.filter.power.n=0)&&(decide (pe.ref.filter.jb.kind=0)&&(decide (pe.ref.filter.jb.n=0)&&(decide (pe.ref.filter.value.kind=0)&&(decide (pe.ref.filter.value.n=0)&&true)))))))))))))))))) λv2=>jn (λs3:Bool=>jn (λs8:Bool=>jn (λs12:Bool=>jn (λs17:Bool=>lt (decide (pe.amount.kind=0)&&(decide (pe.amount.n=0)&&(decide (pe.amount.counter=0)&&(decide (pe.amount.filter.jE=0)&&(decide (pe.amount.filter.who=0)&&(decide (pe.amount.filter.self=0)&&(decide (pe.amount.filter.types=0)&&(decide (pe.amount.filter.jA=0)&&(decide (pe.amount.filter.jS=0)&&(decide (pe.amount.filter.jf=0)&&(jc .eql pe.amount.filter.sub (bs [])&&(decide (pe.amount.filter.keys=0)&&(decide (pe.amount.filter.Cb=0)&&(decide (pe.amount.filter.power.kind=0)&&(decide (pe.amount.filter.power.n=0)&&(decide (pe.amount.filter.jb.kind=0)&&(decide (pe.amount.filter.jb.n=0)&&(decide (pe.amount.filter.value.kind=0)&&(decide (pe.amount.filter.value.n=0)&&true))))))))))))))))))) λv22=>jn (λs23:Bool=>jn (λs28:Bool=>lt (decide (pe.pool.a0=0)&&(decide (pe.pool.a1=0)&&(decide (pe.pool.a2=0)&&(decide (pe.pool.a3=0)&&(decide (pe.pool.a4=0)&&(decide (pe.pool.a5=0)&&true)))))) λv33=>jn (λs34:Bool=>lt (decide (pe.filter.jE=0)&&(decide (pe.filter.who=0)&&(decide (pe.filter.self=0)&&(decide (pe.filter.types=0)&&(decide (pe.filter.jA=0)&&(decide (pe.filter.jS=0)&&(decide (pe.filter.jf=0)&&(jc .eql pe.filter.sub (bs [])&&(decide (pe.filter.keys=0)&&(decide (pe.filter.Cb=0)&&(decide (pe.filter.power.kind=0)&&(decide (pe.filter.power.n=0)&&(decide (pe.filter.jb.kind=0)&&(decide (pe.filter.jb.n=0)&&(decide (pe.filter.value.kind=0)&&(decide (pe.filter.value.n=0)&&true)))))))))))))))) λv39=>jn (λs40:Bool=>br s3 (br s8 (br s12 (br s17 (br s23 (br s28 (br s34 (some s40) (some false)) (some false)) (some false)) (some false)) (some false)) (some false)) (some false)) λk41=>bnd (xA pe.op 102) λy43=>br y43 (bnd (J7 pe.op pe.filter) λy44=>k41 y44) (k41 v39)) λk35=>bnd (xA pe.op 112) λy37=>br y37 (br (v33==false) (bnd (E8 pe.pool) λy38=>k35 (jc .neq y38 (bs []))) (k35 false)) (k35 v33)) λk29=>bnd (xA pe.op 109) λy31=>br y31 (bnd (Qr pe.mr) λy32=>k29 y32) (k29 (decide ((gJ pe.mr)=0)))) λk24=>bnd (xA pe.op 97) λy26=>br y26 (bnd (Yy pe.amount) λy27=>k24 y27) (k24 v22)) λk18=>bnd (xA pe.op 99) λy20=>br y20 (bnd (RD pe.card) λy21=>k18 y21) (k18 (jc .eql pe.card (bs [])))) λk13=>br (decide (pe.counter=0)) (k13 true) (bnd (xA pe.op 107) λy15=>br y15 (bnd (LQ pe.counter) λy16=>k13 (jc .neq y16 (bs []))) (k13 false))) λk9=>br (decide (pe.jE=0)) (k9 true) (bnd (xA pe.op 122) λy11=>br y11 (br (decide (0<pe.jE)) (k9 (decide (pe.jE<=4))) (k9 false)) (k9 false))) λk4=>bnd (xA pe.op 114) λy6=>br y6 (bnd (Yx pe.ref specs) λy7=>k4 y7) (k4 v2))
def LX (l:List jg)(n:Int)(s1:Int)(k2:Int->Option Bool):Option Bool := br (decide (s1<(gJ l))) (bnd (jl l s1) λx4=>bnd (Yz x4 n) λy5=>br (y5==false) (some false) (k2 (iq s1 1))) (br (decide (1<=(gJ l))) (some (decide ((gJ l)<=8))) (some false))
def H9 (l:List jg)(n:Int):Option Bool := gK (LX l n) 0
def OT (a:iP):Option Bool := jn (λs1:Bool=>br s1 (some false) (jn (λs4:Bool=>jn (λs7:Unit=>jn (λs19:Unit=>jn (λs27:Unit=>jn (λs35:Unit=>br s4 (jn (λs40:Bool=>some s40) λk41=>bnd (Nv a.specs) λy43=>br y43 (bnd (H9 a.kR (gJ a.specs)) λy44=>k41 y44) (k41 false)) (br (decide ((gJ a.specs)=0)) (some (decide ((gJ a.kR)=0))) (some false))) λk36=>br (decide (a.kind=5)) (bnd (Yw a.replace) λy38=>br (y38==false) (some false) (k36 ())) (lt ((decide (a.replace.on=0)&&(decide (a.replace.who=0)&&(decide (a.replace.filter.jE=0)&&(decide (a.replace.filter.who=0)&&(decide (a.replace.filter.self=0)&&(decide (a.replace.filter.types=0)&&(decide (a.replace.filter.jA=0)&&(decide (a.replace.filter.jS=0)&&(decide (a.replace.filter.jf=0)&&(jc .eql a.replace.filter.sub (bs [])&&(decide (a.replace.filter.keys=0)&&(decide (a.replace.filter.Cb=0)&&(decide (a.replace.filter.power.kind=0)&&(decide (a.replace.filter.power.n=0)&&(decide (a.replace.filter.jb.kind=0)&&(decide (a.replace.filter.jb.n=0)&&(decide (a.replace.filter.value.kind=0)&&(decide (a.replace.filter.value.n=0)&&(decide (a.replace.doF=0)&&(decide (a.replace.n=0)&&(decide (a.replace.jE=0)&&(decide (a.replace.counter=0)&&true))))))))))))))))))))))==false) λv39=>br v39 (some false) (k36 ()))) λk28=>br (decide (a.kind=4)) (bnd (Yv a.iK) λy30=>br (y30==false) (some false) (k28 ())) (jn (λs31:Bool=>br s31 (some false) (k28 ())) λk32=>lt ((decide (a.iK.when=0)&&(decide (a.iK.who=0)&&(decide (a.iK.filter.jE=0)&&(decide (a.iK.filter.who=0)&&(decide (a.iK.filter.self=0)&&(decide (a.iK.filter.types=0)&&(decide (a.iK.filter.jA=0)&&(decide (a.iK.filter.jS=0)&&(decide (a.iK.filter.jf=0)&&(jc .eql a.iK.filter.sub (bs [])&&(decide (a.iK.filter.keys=0)&&(decide (a.iK.filter.Cb=0)&&(decide (a.iK.filter.power.kind=0)&&(decide (a.iK.filter.power.n=0)&&(decide (a.iK.filter.jb.kind=0)&&(decide (a.iK.filter.jb.n=0)&&(decide (a.iK.filter.value.kind=0)&&(decide (a.iK.filter.value.n=0)&&true))))))))))))))))))==false) λv34=>br v34 (k32 true) (k32 a.may))) λk20=>br (decide (a.kind=3)) (bnd (Nr a.price) λy22=>br (y22==false) (some false) (k20 ())) (jn (λs23:Bool=>br s23 (some false) (k20 ())) λk24=>lt ((decide (a.price.Eg.generic=0)&&(decide (a.price.Eg.x=0)&&(decide (a.price.Eg.color.a0=0)&&(decide (a.price.Eg.color.a1=0)&&(decide (a.price.Eg.color.a2=0)&&(decide (a.price.Eg.color.a3=0)&&(decide (a.price.Eg.color.a4=0)&&(a.price.Cb==false&&(a.price.Jg==false&&(decide (a.price.life=0)&&true))))))))))==false) λv26=>br v26 (k24 true) (k24 a.slow))) λk8=>br (decide (a.kind=1)) (jn (λs10:Bool=>br s10 (some false) (k8 ())) λk11=>bnd (Ej a.filter) λy13=>br (y13==false) (k11 true) (br (!decide (a.filter.jE=0)) (k11 true) (bnd (yj a.mr) λy14=>k11 (jc .eql y14 (bs []))))) (jn (λs15:Bool=>br s15 (some false) (k8 ())) λk16=>lt ((decide (a.filter.jE=0)&&(decide (a.filter.who=0)&&(decide (a.filter.self=0)&&(decide (a.filter.types=0)&&(decide (a.filter.jA=0)&&(decide (a.filter.jS=0)&&(decide (a.filter.jf=0)&&(jc .eql a.filter.sub (bs [])&&(decide (a.filter.keys=0)&&(decide (a.filter.Cb=0)&&(decide (a.filter.power.kind=0)&&(decide (a.filter.power.n=0)&&(decide (a.filter.jb.kind=0)&&(decide (a.filter.jb.n=0)&&(decide (a.filter.value.kind=0)&&(decide (a.filter.value.n=0)&&true))))))))))))))))==false) λv18=>br v18 (k16 true) (k16 (decide (0<(gJ a.mr)))))) λk5=>br (decide (a.kind=2)) (k5 true) (br (decide (a.kind=3)) (k5 true) (k5 (decide (a.kind=4)))))) λk2=>br (decide (a.kind<1)) (k2 true) (k2 (decide (5<a.kind)))
def Qu (s:gB)(x:og):Option Bool := jn (λs1:Bool=>br s1 (some false) (bnd (Gf s x.id) λy7=>br (decide (x.kind=1)) (bnd (DU x.jr CB) λy8=>jn (λs9:Bool=>some s9) λk10=>br (decide (x.source=x.id)) (br y7.2 (br (decide (y7.1.jE=5)) (br y8 (k10 true) (bnd (OT x.jr) λy12=>k10 y12)) (k10 false)) (k10 false)) (k10 false)) (br (decide (x.kind=2)) (br (y7.2==false) (bnd (OT x.jr) λy13=>some y13) (some false)) (some false)))) λk2=>bnd (xy x.id 1 (qI s.nextId 1)) λy4=>br (y4==false) (k2 true) (bnd (xy x.x 0 1000000) λy5=>br (y5==false) (k2 true) (br (decide (4<(gJ x.targets))) (k2 true) (bnd (uw s x.control) λy6=>k2 (y6==false))))
def Xj (l:List Int)(s1:Int)(k2:Int->Option Bool):Option Bool := br (decide (s1<(gJ l))) (bnd (jl l (qI s1 1)) λx4=>bnd (jl l s1) λx5=>br (decide (x5<=x4)) (some false) (k2 (iq s1 1))) (some true)
def YA (l:List Int):Option Bool := gK (Xj l) 1
def Qv (s:gB)(s4:Int)(k5:Int->Option Bool)(s9:Int)(k10:Int->Option Bool):Option Bool := br (decide (s9<s4)) (bnd (jl s.stack s9) λx12=>bnd (jl s.stack s4) λx13=>br (decide (x12.id=x13.id)) (some false) (k10 (iq s9 1))) (k5 (iq s4 1))
def Qw (s:gB)(s23:Int)(k24:Int->Option Bool):Option Bool := br (decide (s23<(gJ s.kW))) (bnd (jl s.kW s23) λx26=>jn (λs27:Bool=>br s27 (some false) (k24 (iq s23 1))) λk28=>bnd (uw s x26.control) λy30=>br (y30==false) (k28 true) (br (decide (s.kD<=x26.stamp)) (k28 true) (bnd (xy x26.Vm 1 2) λy31=>br (y31==false) (k28 true) (bnd (YA x26.objects) λy32=>br (y32==false) (k28 true) (bnd (yj x26.mr) λy33=>k28 (jc .eql y33 (bs []))))))) (some true)
def Qx (s:gB)(s14:Int)(k15:Int->Option Bool):Option Bool := br (decide (s14<(gJ s.waiting))) (bnd (jl s.waiting s14) λx17=>jn (λs18:Bool=>br s18 (some false) (k15 (iq s14 1))) λk19=>bnd (uw s x17.control) λy21=>br (y21==false) (k19 true) (br (!decide (x17.jr.kind=4)) (k19 true) (bnd (OT x17.jr) λy22=>k19 (y22==false)))) (gK (Qw s) 0)
def Qy (s:gB)(s4:Int)(k5:Int->Option Bool):Option Bool := br (decide (s4<(gJ s.stack))) (bnd (jl s.stack s4) λx7=>bnd (Qu s x7) λy8=>br (y8==false) (some false) (gK (Qv s s4 k5) 0)) (gK (Qx s) 0)
def Nw (s:gB):Option Bool := jn (λs1:Bool=>br s1 (some false) (gK (Qy s) 0)) λk2=>br (decide (64<(gJ s.stack))) (k2 true) (br (decide (64<(gJ s.waiting))) (k2 true) (k2 (decide (64<(gJ s.kW)))))
def Xk (cards:List iZ)(s:gB)(s16:Int)(k17:Int->Option Bool):Option Bool := br (decide (s16<(gJ s.extra))) (bnd (jl s.extra s16) λx19=>bnd (uw s x19) λy20=>br (y20==false) (some false) (k17 (iq s16 1))) (jn (λs21:Bool=>br s21 (some false) (bnd (Hq cards s) λy25=>br y25 (bnd (Nw s) λy26=>some y26) (some false))) λk22=>br (decide (s.over=1)) (bnd (uw s s.ql) λy24=>br (y24==false) (k22 true) (br (!decide (s.over=1)) (k22 (!decide (s.ql=(-1)))) (k22 false))) (br (!decide (s.over=1)) (k22 (!decide (s.ql=(-1)))) (k22 false)))
def OU (cards:List iZ)(s:gB):Option Bool := jn (λs1:Bool=>br s1 (some false) (jn (λs8:Bool=>br s8 (some false) (gK (Xk cards s) 0)) λk9=>bnd (Ho s) λy11=>br (y11==false) (k9 true) (bnd (uw s s.mJ) λy12=>br (y12==false) (k9 true) (bnd (uw s s.priority) λy13=>br (y13==false) (k9 true) (bnd (xy s.passes 0 (gJ s.iJ)) λy14=>br (y14==false) (k9 true) (br (decide (500<(gJ s.extra))) (k9 true) (bnd (xy s.over 0 2) λy15=>k9 (y15==false)))))))) λk2=>bnd (xy s.nextId 1 1000000) λy4=>br (y4==false) (k2 true) (bnd (xy s.kD 1 1000000) λy5=>br (y5==false) (k2 true) (bnd (xy s.turn 0 500) λy6=>br (y6==false) (k2 true) (bnd (xy s.step 0 10) λy7=>br (y7==false) (k2 true) (k2 (decide (2048<(gJ s.objects)))))))
def Xl (l:zZ)(s4:Int)(k5:Int->Option Bool):Option Bool := br (decide (s4<(gJ l.subs))) (jn (λs7:Bool=>br s7 (some false) (k5 (iq s4 1))) λk8=>bnd (jl l.subs s4) λx10=>bnd (CG x10) λy11=>br (y11==false) (k8 true) (br (decide (0<s4)) (bnd (jl l.subs (qI s4 1)) λx12=>bnd (jl l.subs s4) λx13=>k8 (jc .geq x12 x13)) (k8 false))) (br (decide (l.types=2)) (some true) (br (decide (l.types=4)) (some true) (bnd (Nl l.types 1) λy14=>br (y14==false) (bnd (Nl l.types 2) λy15=>some (y15==false)) (some false))))
def J8 (l:zZ):Option Bool := jn (λs1:Bool=>br s1 (some false) (gK (Xl l) 0)) λk2=>br (decide (l.F7<0)) (k2 true) (br (decide (3<l.F7)) (k2 true) (br (decide (l.types<1)) (k2 true) (br (decide (63<l.types)) (k2 true) (k2 (decide (4<(gJ l.subs)))))))
def Fa (c:iZ):Option Bool := some (!decide ((nC .and .i64 c.line.types 1)=0))
def Qz (c:iZ):Option Bool := br (decide (c.line.types=2)) (some true) (some (decide (c.line.types=4)))
def Xm (c:iZ)(s12:Int×Int)(k13:(Int×Int)->Option Bool):Option Bool := br (decide (s12.2<(gJ c.gU))) (jn (λs15:Int=>k13 (s15,(iq s12.2 1))) λk16=>bnd (jl c.gU s12.2) λx18=>bnd (OT x18) λy19=>br (y19==false) (some false) (bnd (jl c.gU s12.2) λx20=>br (decide (x20.kind=2)) (k16 (iq s12.1 1)) (k16 s12.1))) (bnd (Qz c) λy21=>br y21 (jn (λs22:Bool=>some s22) λk23=>br (c.token==false) (br (decide (c.keys=0)) (br (decide ((gJ c.gU)=1)) (k23 (decide (s12.1=1))) (k23 false)) (k23 false)) (k23 false)) (br (decide (s12.1=0)) (br (c.token==false) (br (decide ((nC .and .i64 c.line.types 32)=0)) (some true) (lt (decide (c.cost.generic=0)&&(decide (c.cost.x=0)&&(decide (c.cost.color.a0=0)&&(decide (c.cost.color.a1=0)&&(decide (c.cost.color.a2=0)&&(decide (c.cost.color.a3=0)&&(decide (c.cost.color.a4=0)&&true))))))) λv25=>some v25)) (lt (decide (c.cost.generic=0)&&(decide (c.cost.x=0)&&(decide (c.cost.color.a0=0)&&(decide (c.cost.color.a1=0)&&(decide (c.cost.color.a2=0)&&(decide (c.cost.color.a3=0)&&(decide (c.cost.color.a4=0)&&true))))))) λv26=>some v26)) (some false)))
def OV (c:iZ):Option Bool := jn (λs1:Bool=>br s1 (some false) (jn (λs8:Bool=>br s8 (some false) (gK (Xm c) (0,0))) λk9=>br (decide (c.power<0)) (k9 true) (br (decide (99<c.power)) (k9 true) (br (decide (c.jb<0)) (k9 true) (br (decide (99<c.jb)) (k9 true) (bnd (Fa c) λy11=>br (y11==false) (br (!decide (c.power=0)) (k9 true) (br (!decide (c.jb=0)) (k9 true) (k9 (decide (8<(gJ c.gU)))))) (k9 (decide (8<(gJ c.gU)))))))))) λk2=>bnd (RD c.name) λy4=>br (y4==false) (k2 true) (bnd (OQ c.cost) λy5=>br (y5==false) (k2 true) (bnd (J8 c.line) λy6=>br (y6==false) (k2 true) (bnd (OO c.keys) λy7=>br (y7==false) (k2 true) (br (decide (c.color<0)) (k2 true) (k2 (decide (31<c.color)))))))
def Tn (l:List iZ)(name:ByteArray)(s1:Int)(k2:Int->Option Int):Option Int := br (decide (s1<(gJ l))) (bnd (jl l s1) λx4=>br (jc .eql x4.name name) (some s1) (k2 (iq s1 1))) (some (-1))
def QA (l:List iZ)(name:ByteArray):Option Int := gK (Tn l name) 0
def QB (l:List iZ)(name:ByteArray)(s1:Int)(k2:Int->Option Bool):Option Bool := br (decide (s1<(gJ l))) (jn (λs4:Bool=>br s4 (some true) (k2 (iq s1 1))) λk5=>bnd (jl l s1) λx7=>br (jc .eql x7.name name) (bnd (jl l s1) λx8=>k5 x8.token) (k5 false)) (some false)
def Ny (l:List iZ)(name:ByteArray):Option Bool := gK (QB l name) 0
def Gh (l:List iZ)(c:iZ)(s1:Int)(k2:Int->Option Bool)(s4:Int)(k5:Int->Option Bool):Option Bool := bnd (jl c.gU s1) λx7=>br (decide (s4<(gJ x7.kR))) (bnd (jl c.gU s1) λx8=>bnd (jl x8.kR s4) λx9=>jn (λs10:Bool=>br s10 (some false) (k5 (iq s4 1))) λk11=>br (decide (x9.op=12)) (bnd (Ny l x9.card) λy13=>k11 (y13==false)) (k11 false)) (k2 (iq s1 1))
def Gi (l:List iZ)(c:iZ)(s1:Int)(k2:Int->Option Bool):Option Bool := br (decide (s1<(gJ c.gU))) (gK (Gh l c s1 k2) 0) (some true)
def Ia (l:List iZ)(c:iZ):Option Bool := gK (Gi l c) 0
def J9 (l:List iZ)(s1:Int)(k2:Int->Option (Int×Int)):Option (Int×Int) := br (decide (s1<(gJ l))) (bnd (jl l s1) λx4=>bnd (OV x4) λy5=>br (y5==false) (some (s1,9)) (bnd (jl l s1) λx6=>bnd (QA l x6.name) λy7=>br (decide (y7<s1)) (some (s1,6)) (bnd (jl l s1) λx8=>bnd (Ia l x8) λy9=>br (y9==false) (some (s1,7)) (k2 (iq s1 1))))) (some ((-1),0))
def Nz (l:List iZ):Option (Int×Int) := br (decide (256<(gJ l))) (some ((-1),5)) (gK (J9 l) 0)
def Gj (cards:List iZ)(s:gB)(s4:Int)(k5:Int->Option Bool):Option Bool := br (decide (s4<(gJ s.iJ))) (bnd (jl s.iJ s4) λx7=>bnd (jl s.iJ s4) λx8=>bnd (jl s.iJ s4) λx9=>lt (iq (iq (gJ x7.library) (gJ x8.hand)) (gJ x9.wK)) λv10=>br (decide (60<v10)) (some false) (k5 (iq s4 1))) (bnd (Nz cards) λy11=>br (decide (y11.2=0)) (bnd (OU cards s) λy12=>some y12) (some false))
def Ib (cards:List iZ)(s:gB):Option Bool := jn (λs1:Bool=>br s1 (some false) (gK (Gj cards s) 0)) λk2=>br (decide (12<(gJ cards))) (k2 true) (br (decide (4<(gJ s.iJ))) (k2 true) (br (decide (60<(gJ s.objects))) (k2 true) (br (decide (60<(gJ s.jd))) (k2 true) (br (decide (60<(gJ s.qK))) (k2 true) (br (decide (8<(gJ s.stack))) (k2 true) (br (decide (8<(gJ s.waiting))) (k2 true) (br (decide (8<(gJ s.kW))) (k2 true) (k2 (decide (20<(gJ s.extra)))))))))))
def yG (l:List (List Int))(s1:Int)(k2:Int->Option Bool):Option Bool := br (decide (s1<(gJ l))) (bnd (jl l s1) λx4=>br (decide (60<(gJ x4))) (some false) (k2 (iq s1 1))) (some (decide ((gJ l)<=30)))
def yt (l:List (List Int)):Option Bool := gK (yG l) 0
def vU (s:List gX)(v:gX)(s1:Int)(k2:Int->Option Int):Option Int := br (decide (s1<(gJ s))) (bnd (jl s s1) λx4=>lt (decide (v.kind=x4.kind)&&(decide (v.a=x4.a)&&(decide (v.b=x4.b)&&true))) λv5=>br v5 (some s1) (k2 (iq s1 1))) (some (-1))
def yH (s:List gX)(v:gX):Option Int := gK (vU s v) 0
def pU (s:List gX)(v:gX):Option Bool := bnd (yH s v) λy1=>some (decide (0<=y1))
def A7 (o:gX)(c1:List gX):Option Bool := bnd (pU c1 o) λy1=>some y1
def sK (s:List gX)(f:gX->Option Bool)(s1:Int)(k2:Int->Option Int):Option Int := br (decide (s1<(gJ s))) (bnd (jl s s1) λx4=>bnd (f x4) λy5=>br y5 (some s1) (k2 (iq s1 1))) (some (-1))
def nM (s:List gX)(f:gX->Option Bool):Option Int := gK (sK s f) 0
def wW (del:gX->Option Bool)(s2:Int×Int×(List gX))(k3:(Int×Int×(List gX))->Option (List gX)):Option (List gX) := br (decide (s2.2.1<(gJ s2.2.2))) (jn (λs5:Int×(List gX)=>k3 (s5.1,(iq s2.2.1 1),s5.2)) λk6=>bnd (lJ s2.2.2.length s2.2.1) λj8=>bnd (s2.2.2[j8]?) λx9=>bnd (del x9) λy10=>br (y10==false) (bnd (lJ s2.2.2.length s2.1) λj11=>bnd (s2.2.2[j11]?) λx12=>k6 ((iq s2.1 1),(s2.2.2.set j11 x9))) (k6 (s2.1,s2.2.2))) (bnd (lI s2.2.2.length s2.1 ((s2.2.2.length:Nat):Int)) λx13=>lt aai λx14=>bnd (lI s2.2.2.length 0 s2.1) λx15=>some (Um (aaJ s2.2.2 (0+x13.1) (List.replicate (x13.2-x13.1) x14)) (0+x15.1) (x15.2-x15.1)))
def uy (s:List gX)(del:gX->Option Bool):Option (List gX) := bnd (nM s del) λy1=>br (decide (y1=(-1))) (some s) (gK (wW del) (y1,(iq y1 1),s))
def Ko (o:iw)(c1:Int):Option Bool := some (decide (o.id=c1))
def sN (s:List iw)(f:iw->Option Bool)(s1:Int)(k2:Int->Option Int):Option Int := br (decide (s1<(gJ s))) (bnd (jl s s1) λx4=>bnd (f x4) λy5=>br y5 (some s1) (k2 (iq s1 1))) (some (-1))
def jK (s:List iw)(f:iw->Option Bool):Option Int := gK (sN s f) 0
def OW (s:gB)(id:Int):Option Int := bnd (jK s.objects (λa0=>Ko a0 id)) λy1=>some y1
def NC (s:gB)(id:Int):Option (iw×Bool) := bnd (OW s id) λy1=>br (decide (y1<0)) (some (P7,false)) (bnd (jl s.objects y1) λx2=>some (x2,true))
def Dv (s:gB)(id:Int):Option (iw×Bool) := bnd (NC s id) λy1=>br y1.2 (some (y1.1,(decide (y1.1.jE=0)))) (some (y1.1,false))
def Fb (s:gB)(p:Int):Option Bool := br (decide (0<=p)) (br (decide (p<(gJ s.iJ))) (bnd (jl s.iJ p) λx1=>some (x1.lost==false)) (some false)) (some false)
def Gl (cards:List iZ)(s:gB)(pe:kz):Option Bool := bnd (Dv s pe.object) λy1=>br (decide (pe.kind=1)) (none) (br (decide (pe.kind=2)) (none) (br (decide (pe.kind=3)) (none) (br (decide (pe.kind=14)) (none) (br (decide (pe.kind=15)) (none) (br (decide (pe.kind=17)) (none) (br (decide (pe.kind=4)) (none) (br (decide (pe.kind=5)) (none) (br (decide (pe.kind=16)) (none) (br (decide (pe.kind=6)) (br y1.2 (some (y1.1.pK==false)) (some false)) (br (decide (pe.kind=7)) (none) (br (decide (pe.kind=8)) (none) (br (decide (pe.kind=9)) (none) (br (decide (pe.kind=10)) (none) (br (decide (pe.kind=11)) (none) (br (decide (pe.kind=12)) (br y1.2 (bnd (Fb s pe.mV) λy2=>some y2) (some false)) (br (decide (pe.kind=13)) (none) (some false)))))))))))))))))
def Gm (o:iw)(c1:Int):Option Bool := some (decide (o.id=c1))
def A8 (s:gB)(all:List gG)(id:Int):Option (iw×gG×Bool) := bnd (jK s.objects (λa0=>Gm a0 id)) λy1=>br (decide (y1<0)) (some (P7,yU,false)) (br (decide ((gJ all)<=y1)) (bnd (jl s.objects y1) λx2=>some (x2,yU,true)) (bnd (jl s.objects y1) λx3=>bnd (jl all y1) λx4=>some (x3,x4,true)))
def zu (cards:List iZ)(s:gB)(all:List gG)(pe:kz)(pr:qJ)(you:Int)(source:Int):Option Bool := br (!decide (pr.on=pe.kind)) (some false) (br (decide (pe.kind=1)) (none) (br (decide (pe.kind=2)) (none) (br (decide (pe.kind=8)) (none) (br (decide (pe.kind=3)) (none) (br (decide (pe.kind=4)) (none) (br (decide (pe.kind=5)) (none) (br (decide (pe.kind=10)) (none) (some false))))))))
def Gn (cards:List iZ)(s:gB)(all:List gG)(pe:kz)(s9:Int×(List gX))(k10:(Int×(List gX))->Option (List gX))(y13:iw×gG×Bool)(s14:iw×Int×(List gX))(k15:(iw×Int×(List gX))->Option (List gX)):Option (List gX) := br (decide (s14.2.1<(gJ y13.2.1.gU))) (jn (λs17:iw×(List gX)=>k15 (s17.1,(iq s14.2.1 1),s17.2)) λk18=>bnd (jl y13.2.1.gU s14.2.1) λx20=>jn (λs21:Bool=>br s21 (lt (gX.mk 12 s14.1.id s14.2.1) λx25=>kF (s14.2.2.length+([x25]).length) 24 ( k18 (s14.1,(s14.2.2++[x25])))) (k18 (s14.1,s14.2.2))) λk22=>br (decide (s14.1.jE=0)) (br (decide (x20.kind=5)) (bnd (zu cards s all pe x20.replace y13.2.1.control s14.1.id) λy24=>k22 y24) (k22 false)) (k22 false)) (k10 ((iq s9.1 1),s14.2.2))
def zS (cards:List iZ)(s:gB)(all:List gG)(pe:kz)(s9:Int×(List gX))(k10:(Int×(List gX))->Option (List gX)):Option (List gX) := br (decide (s9.1<(gJ s.objects))) (bnd (jl s.objects s9.1) λx12=>bnd (A8 s all x12.id) λy13=>gK (Gn cards s all pe s9 k10 y13) (x12,0,s9.2)) (jn (λs26:Bool=>br s26 (some s9.2) (none)) λk27=>br (!decide (pe.kind=2)) (k27 true) (k27 (!decide (pe.to=0))))
def zy (cards:List iZ)(s:gB)(all:List gG)(pe:kz):Option (List gX) := bnd (Gl cards s pe) λy1=>br (y1==false) (some ([])) (jn (λs2:Unit=>gK (zS cards s all pe) (0,[])) λk3=>bnd (A8 s all pe.object) λy5=>jn (λs6:Bool=>br s6 (none) (k3 ())) λk7=>br y5.2.2 (br (decide (pe.kind=1)) (br (!decide (pe.object=0)) (k7 (decide (0<y5.1.AU))) (k7 false)) (k7 false)) (k7 false))
def Fe (cards:List iZ)(s:gB)(all:List gG)(pe:kz)(used:List gX):Option (List gX) := bnd (zy cards s all pe) λy1=>bnd (uy y1 (λa0=>A7 a0 used)) λy2=>some y2
def qp (c0:List iZ)(c1:gB)(c2:List gG)(c3:kz)(c4:List gX)(c5:Bool):Option (List gX) := bnd (Fe c0 c1 c2 c3 ([])) λy1=>br c5 (some y1) (none)
def Ic (pe:kz):Option Bool := br (decide (pe.kind=1)) (some (!decide (pe.object=0))) (br (decide (pe.kind=2)) (br (decide (pe.S9=0)) (some true) (some (decide (pe.to=0)))) (br (decide (pe.kind=6)) (some true) (br (decide (pe.kind=7)) (some true) (br (decide (pe.kind=8)) (some true) (br (decide (pe.kind=9)) (some true) (some false))))))
def RG (s:gB)(all:List gG)(pe:kz)(s2:Int)(k3:Int->Option Int):Option Int := br (decide (s2<(gJ s.objects))) (bnd (jl s.objects s2) λx5=>br (!decide (x5.id=pe.object)) (k3 (iq s2 1)) (br (decide (s2<(gJ all))) (bnd (jl all s2) λx6=>some x6.control) (some 0))) (some pe.mV)
def IJ (s:gB)(all:List gG)(pe:kz):Option Int := bnd (Ic pe) λy1=>br (y1==false) (some pe.mV) (gK (RG s all pe) 0)
def slices_Clone_int (s:List Int):Option (List Int) := rD (some ([])) (kF (0+s.length) 8 ( some s))
def jR (s:List lZ):Option (List lZ) := rD (some ([])) (kF (0+s.length) 176 ( some s))
def Vt (c:sG)(s1:Int)(k2:Int->Option Bool):Option Bool := br (decide (s1<5)) (jn (λs4:Int=>jn (λs8:Bool=>br s8 (some false) (k2 (iq s1 1))) λk9=>br (decide (s4<0)) (k9 true) (k9 (decide (9<s4)))) λk5=>qE s1 5 λj7=>(match j7 with|0=>(k5 c.color.a0)  | 1=>(k5 c.color.a1)  | 2=>(k5 c.color.a2)  | 3=>(k5 c.color.a3)  | _=>(k5 c.color.a4) )) (br (decide (0<=c.generic)) (br (decide (c.generic<=99)) (br (decide (0<=c.x)) (some (decide (c.x<=2))) (some false)) (some false)) (some false))
def QC (c:sG):Option Bool := gK (Vt c) 0
def Gp (c:sG)(s6:Int×Int)(k7:(Int×Int)->Option Int):Option Int := br (decide (s6.2<5)) (jn (λs9:Int=>k7 (s9,(iq s6.2 1))) λk10=>jn (λs12:Int=>br (decide (0<s12)) (bnd (kT .shl .i64 1 s6.2) λx16=>k10 (nC .or .i64 s6.1 x16)) (k10 s6.1)) λk13=>qE s6.2 5 λj15=>(match j15 with|0=>(k13 c.color.a0)  | 1=>(k13 c.color.a1)  | 2=>(k13 c.color.a2)  | 3=>(k13 c.color.a3)  | _=>(k13 c.color.a4) )) (some s6.1)
def DX (c:sG):Option Int := jn (λs1:Bool=>br s1 (some 0) (gK (Gp c) (0,0))) λk2=>bnd (QC c) λy4=>br (y4==false) (k2 true) (lt (decide (c.color.a0=0)&&(decide (c.color.a1=0)&&(decide (c.color.a2=0)&&(decide (c.color.a3=0)&&(decide (c.color.a4=0)&&true))))) λv5=>k2 v5)
def slices_Clone_string (s:List ByteArray):Option (List ByteArray) := rD (some ([])) (kF (0+s.length) 16 ( some s))
def oC (s:List sH):Option (List sH) := rD (some ([])) (kF (0+s.length) 144 ( some s))
def qc (s:List jg):Option (List jg) := rD (some ([])) (kF (0+s.length) 560 ( some s))
def uB (a:iP)(y1:List lZ)(y2:List sH)(y3:List jg)(s4:Int×(List jg))(k5:(Int×(List jg))->Option iP):Option iP := br (decide (s4.1<(gJ y3))) (bnd (lJ s4.2.length s4.1) λj7=>bnd (s4.2[j7]?) λx8=>bnd (jR x8.mr) λy9=>bnd (lJ s4.2.length s4.1) λj10=>bnd (s4.2[j10]?) λx11=>k5 ((iq s4.1 1),(s4.2.set j10 { x11 with mr:=y9 }))) (some { a with mr:=y1,specs:=y2,kR:=s4.2 })
def uN (a:iP):Option iP := bnd (jR a.mr) λy1=>bnd (oC a.specs) λy2=>bnd (qc a.kR) λy3=>gK (uB a y1 y2 y3) (0,y3)
def zA (c:iZ)(y1:Int)(y2:List ByteArray)(s3:Int×(List iP))(k4:(Int×(List iP))->Option gG):Option gG := br (decide (s3.1<(gJ c.gU))) (bnd (jl c.gU s3.1) λx6=>bnd (uN x6) λy7=>kF (s3.2.length+([y7]).length) 640 ( k4 ((iq s3.1 1),(s3.2++[y7])))) (some { c with jS:=(nC .or .i64 y1 c.color),line:={ c.line with subs:=y2 },gU:=s3.2,control:=0 })
def Ba (c:iZ):Option gG := bnd (DX c.cost) λy1=>bnd (slices_Clone_string c.line.subs) λy2=>gK (zA c y1 y2) (0,[])
def QD (cards:List iZ)(o:iw):Option gG := jn (λs1:Int=>jn (λs4:gG=>br (decide (o.jE=0)) (some { s4 with control:=o.control }) (br (decide (o.jE=5)) (some { s4 with control:=o.control }) (some { s4 with control:=o.owner }))) λk5=>jn (λs7:Bool=>br s7 (bnd (jl cards s1) λx10=>bnd (Ba x10) λy11=>k5 y11) (k5 yU)) λk8=>br (decide (0<=s1)) (k8 (decide (s1<(gJ cards)))) (k8 false)) λk2=>br (decide (o.copy<0)) (k2 o.card) (k2 o.copy)
def En (k5:(List iC)->Option (List iC))(x7:iw)(y8:gG)(s9:Int×(List iC))(k10:(Int×(List iC))->Option (List iC)):Option (List iC) := br (decide (s9.1<(gJ y8.gU))) (jn (λs12:(List iC)=>k10 ((iq s9.1 1),s12)) λk13=>bnd (jl y8.gU s9.1) λx15=>br (decide (x15.kind=1)) (bnd (jR x15.mr) λy16=>lt (iC.mk x7.id s9.1 x7.control x7.stamp false ([]) x15.filter y16) λx17=>kF (s9.2.length+([x17]).length) 224 ( k13 (s9.2++[x17]))) (k13 s9.2)) (k5 s9.2)
def Eo (s:gB)(s18:Int×(List iC))(k19:(Int×(List iC))->Option (List iC)):Option (List iC) := br (decide (s18.1<(gJ s.kW))) (bnd (jl s.kW s18.1) λx21=>bnd (slices_Clone_int x21.objects) λy22=>bnd (jR x21.mr) λy23=>lt (iC.mk x21.source (-1) x21.control x21.stamp true y22 lW y23) λx24=>kF (s18.2.length+([x24]).length) 224 ( k19 ((iq s18.1 1),(s18.2++[x24])))) (some s18.2)
def Ep (cards:List iZ)(s:gB)(s1:Int×(List iC))(k2:(Int×(List iC))->Option (List iC)):Option (List iC) := br (decide (s1.1<(gJ s.objects))) (jn (λs4:(List iC)=>k2 ((iq s1.1 1),s4)) λk5=>bnd (jl s.objects s1.1) λx7=>br (!decide (x7.jE=0)) (k5 s1.2) (bnd (QD cards x7) λy8=>gK (En k5 x7 y8) (0,s1.2))) (gK (Eo s) (0,s1.2))
def Ff (cards:List iZ)(s:gB):Option (List iC) := gK (Ep cards s) (0,[])
def Bc (cards:List iZ)(s:gB)(y1:List iC)(s4:Int×(List gG)×(List Bool))(k5:(Int×(List gG)×(List Bool))->Option ik):Option ik := br (decide (s4.1<(gJ s.objects))) (bnd (jl s.objects s4.1) λx7=>bnd (QD cards x7) λy8=>kF (s4.2.1.length+([y8]).length) 176 ( k5 ((iq s4.1 1),(s4.2.1++[y8]),s4.2.2))) (bnd (kP (gJ y1) (gJ y1) 1) λj9=>lt false λx10=>bnd (kP (gJ y1) (gJ y1) 24) λj11=>lt ([]) λx12=>some (ik.mk s y1 s4.2.1 s4.2.2 (List.replicate j9 x10) (List.replicate j11 x12)))
def DY (cards:List iZ)(s:gB):Option ik := bnd (Ff cards s) λy1=>bnd (kP (gJ s.objects) (gJ s.objects) 1) λj2=>lt false λx3=>gK (Bc cards s y1) (0,[],(List.replicate j2 x3))
def uC (k:Int)(c1:Int):Option Bool := some (decide (k=c1))
def uO (s:List Int)(f:Int->Option Bool)(s1:Int)(k2:Int->Option Int):Option Int := br (decide (s1<(gJ s))) (bnd (jl s s1) λx4=>bnd (f x4) λy5=>br y5 (some s1) (k2 (iq s1 1))) (some (-1))
def oW (s:List Int)(f:Int->Option Bool):Option Int := gK (uO s f) 0
def uz (del:Int->Option Bool)(s2:Int×Int×(List Int))(k3:(Int×Int×(List Int))->Option (List Int)):Option (List Int) := br (decide (s2.2.1<(gJ s2.2.2))) (jn (λs5:Int×(List Int)=>k3 (s5.1,(iq s2.2.1 1),s5.2)) λk6=>bnd (lJ s2.2.2.length s2.2.1) λj8=>bnd (s2.2.2[j8]?) λx9=>bnd (del x9) λy10=>br (y10==false) (bnd (lJ s2.2.2.length s2.1) λj11=>bnd (s2.2.2[j11]?) λx12=>k6 ((iq s2.1 1),(s2.2.2.set j11 x9))) (k6 (s2.1,s2.2.2))) (bnd (lI s2.2.2.length s2.1 ((s2.2.2.length:Nat):Int)) λx13=>lt 0 λx14=>bnd (lI s2.2.2.length 0 s2.1) λx15=>some (Um (aaJ s2.2.2 (0+x13.1) (List.replicate (x13.2-x13.1) x14)) (0+x15.1) (x15.2-x15.1)))
def qw (s:List Int)(del:Int->Option Bool):Option (List Int) := bnd (oW s del) λy1=>br (decide (y1=(-1))) (some s) (gK (uz del) (y1,(iq y1 1),s))
def qN (n:Int):Option Int := some (if 1000000<(if n<(-1000000) then(-1000000) else n) then 1000000 else(if n<(-1000000) then(-1000000) else n))
def Uf (a:Int)(b:Int):Option Int := bnd (qN a) λy1=>bnd (qN b) λy2=>bnd (qN (qI y1 y2)) λy3=>some y3
def Dw (c:NK Int):Option Int := bnd (Uf c.a0 c.a1) λy1=>some y1
def Ie (a:Int)(b:Int):Option Int := bnd (qN a) λy1=>bnd (qN b) λy2=>bnd (qN (iq y1 y2)) λy3=>some y3
def uP (w:ik)(s1:Int×(List gG))(k2:(Int×(List gG))->Option ik):Option ik := br (decide (s1.1<(gJ w.s.objects))) (jn (λs4:(List gG)=>k2 ((iq s1.1 1),s4)) λk5=>bnd (jl w.s.objects s1.1) λx7=>bnd (lJ s1.2.length s1.1) λj8=>jn (λs9:Bool=>br s9 (bnd (Dw x7.counters) λy13=>bnd (s1.2[j8]?) λx14=>bnd (Ie x14.power y13) λy15=>bnd (s1.2[j8]?) λx16=>bnd (Ie x16.jb y13) λy17=>bnd (s1.2[j8]?) λx18=>bnd ((s1.2.set j8 { x18 with power:=y15 })[j8]?) λx19=>k5 ((s1.2.set j8 { x18 with power:=y15 }).set j8 { x19 with jb:=y17 })) (k5 s1.2)) λk10=>br (decide (x7.jE=0)) (bnd (s1.2[j8]?) λx12=>k10 (!decide ((nC .and .i64 x12.line.types 1)=0))) (k10 false)) (some { w with iE:=s1.2 })
def tY (w:ik):Option ik := gK (uP w) (0,w.iE)
def Aa (kind:Int):Option Int := br (decide (kind=1)) (some 1) (br (decide (kind=2)) (some 2) (br (decide (kind=3)) (some 2) (br (decide (kind=4)) (some 2) (br (decide (kind=5)) (some 2) (br (decide (kind=6)) (some 3) (br (decide (kind=7)) (some 3) (br (decide (kind=8)) (some 4) (br (decide (kind=9)) (some 4) (br (decide (kind=10)) (some 4) (br (decide (kind=11)) (some (qI (iq 5 kind) 11)) (br (decide (kind=12)) (some (qI (iq 5 kind) 11)) (br (decide (kind=13)) (some (qI (iq 5 kind) 11)) (br (decide (kind=14)) (some (qI (iq 5 kind) 11)) (some 0))))))))))))))
def wE (m:lZ)(c1:Int):Option Bool := bnd (Aa m.kind) λy1=>some (decide (y1=c1))
def uQ (s:List lZ)(f:lZ->Option Bool)(s1:Int)(k2:Int->Option Int):Option Int := br (decide (s1<(gJ s))) (bnd (jl s s1) λx4=>bnd (f x4) λy5=>br y5 (some s1) (k2 (iq s1 1))) (some (-1))
def xB (s:List lZ)(f:lZ->Option Bool):Option Int := gK (uQ s f) 0
def uS (s:List lZ)(f:lZ->Option Bool):Option Bool := bnd (xB s f) λy1=>some (decide (0<=y1))
def Dx (f:iC)(stage:Int):Option Bool := bnd (uS f.mr (λa0=>wE a0 stage)) λy1=>some y1
def yZ (needs:List (List Bool))(i:Int)(j:Int):Option Bool := br (decide (0<=i)) (br (decide (0<=j)) (br (decide (i<(gJ needs))) (bnd (jl needs i) λx1=>br (decide (j<(gJ x1))) (bnd (jl needs i) λx2=>bnd (jl x2 j) λx3=>some x3) (some false)) (some false)) (some false)) (some false)
def yI (s:List Int)(v:Int)(s1:Int)(k2:Int->Option Int):Option Int := br (decide (s1<(gJ s))) (bnd (jl s s1) λx4=>br (decide (v=x4)) (some s1) (k2 (iq s1 1))) (some (-1))
def slices_Index_int (s:List Int)(v:Int):Option Int := gK (yI s v) 0
def sO (i:Int)(j:Int)(c2:List Int)(c3:List (List Bool)):Option Bool := bnd (slices_Index_int c2 i) λy1=>bnd (slices_Index_int c2 j) λy2=>br (decide (0<=y1)) (br (decide (0<=y2)) (bnd (jl c3 y1) λx3=>bnd (jl x3 y2) λx4=>some x4) (some false)) (some false)
def xC (j:Int)(c1:Int)(c2:List (List Bool))(c3:Int->Int->Option Bool):Option Bool := br (!decide (j=c1)) (bnd (yZ c2 c1 j) λy1=>br y1 (bnd (c3 j c1) λy2=>some (y2==false)) (some false)) (some false)
def qO (s:List Int)(f:Int->Option Bool):Option Bool := bnd (oW s f) λy1=>some (decide (0<=y1))
def slices_Contains_int (s:List Int)(v:Int):Option Bool := bnd (slices_Index_int s v) λy1=>some (decide (0<=y1))
def zT (left:List Int)(s1:Int×(List Int))(k2:(Int×(List Int))->Option (List Int)):Option (List Int) := br (decide (s1.1<(gJ left))) (jn (λs4:(List Int)=>k2 ((iq s1.1 1),s4)) λk5=>bnd (jl left s1.1) λx7=>jn (λs8:Bool=>br s8 (kF (s1.2.length+([x7]).length) 8 ( k5 (s1.2++[x7]))) (k5 s1.2)) λk9=>br (decide (0<=x7)) (bnd (slices_Contains_int s1.2 x7) λy11=>k9 (y11==false)) (k9 false)) (some s1.2)
def zB (left:List Int):Option (List Int) := gK (zT left) (0,[])
def zC (l:List Int)(needs:List (List Bool))(s2:Int×(List (List Bool)))(k3:(Int×(List (List Bool)))->Option ((List Int)×(List (List Bool))))(s11:Int×(List (List Bool)))(k12:(Int×(List (List Bool)))->Option ((List Int)×(List (List Bool)))):Option ((List Int)×(List (List Bool))) := br (decide (s11.1<(gJ l))) (bnd (lJ s11.2.length s2.1) λj14=>bnd (s11.2[j14]?) λx15=>bnd (jl l s2.1) λx16=>bnd (jl l s11.1) λx17=>bnd (yZ needs x16 x17) λy18=>bnd (lJ x15.length s11.1) λj19=>bnd (s11.2[j14]?) λx20=>bnd (x20[j19]?) λx21=>k12 ((iq s11.1 1),(s11.2.set j14 (x20.set j19 y18)))) (k3 ((iq s2.1 1),s11.2))
def zD (l:List Int)(s22:Int×(List (List Bool)))(s25:Int×(List (List Bool)))(k26:(Int×(List (List Bool)))->Option ((List Int)×(List (List Bool))))(s28:Int×(List (List Bool)))(k29:(Int×(List (List Bool)))->Option ((List Int)×(List (List Bool)))):Option ((List Int)×(List (List Bool))) := br (decide (s28.1<(gJ l))) (jn (λs31:(List (List Bool))=>k29 ((iq s28.1 1),s31)) λk32=>jn (λs34:Bool=>br s34 (bnd (lJ s28.2.length s25.1) λj47=>bnd (s28.2[j47]?) λx48=>bnd (lJ x48.length s28.1) λj49=>lt true λx50=>bnd (s28.2[j47]?) λx51=>bnd (x51[j49]?) λx52=>k32 (s28.2.set j47 (x51.set j49 x50))) (k32 s28.2)) λk35=>bnd (lJ s28.2.length s25.1) λj37=>bnd (s28.2[j37]?) λx38=>bnd (lJ x38.length s22.1) λj39=>bnd (s28.2[j37]?) λx40=>bnd (x40[j39]?) λx41=>br x41 (bnd (lJ s28.2.length s22.1) λj42=>bnd (s28.2[j42]?) λx43=>bnd (lJ x43.length s28.1) λj44=>bnd (s28.2[j42]?) λx45=>bnd (x45[j44]?) λx46=>k35 x46) (k35 false)) (k26 ((iq s25.1 1),s28.2))
def zF (l:List Int)(s22:Int×(List (List Bool)))(k23:(Int×(List (List Bool)))->Option ((List Int)×(List (List Bool))))(s25:Int×(List (List Bool)))(k26:(Int×(List (List Bool)))->Option ((List Int)×(List (List Bool)))):Option ((List Int)×(List (List Bool))) := br (decide (s25.1<(gJ l))) (gK (zD l s22 s25 k26) (0,s25.2)) (k23 ((iq s22.1 1),s25.2))
def zG (l:List Int)(s22:Int×(List (List Bool)))(k23:(Int×(List (List Bool)))->Option ((List Int)×(List (List Bool)))):Option ((List Int)×(List (List Bool))) := br (decide (s22.1<(gJ l))) (gK (zF l s22 k23) (0,s22.2)) (some (l,s22.2))
def zH (l:List Int)(needs:List (List Bool))(j1:Nat)(s2:Int×(List (List Bool)))(k3:(Int×(List (List Bool)))->Option ((List Int)×(List (List Bool)))):Option ((List Int)×(List (List Bool))) := lt (decide (s2.1<(gJ (List.replicate j1 ([]:List Bool))))) λv5=>br v5 (bnd (kP (gJ l) (gJ l) 1) λj6=>lt false λx7=>bnd (lJ s2.2.length s2.1) λj8=>bnd (s2.2[j8]?) λx10=>gK (zC l needs s2 k3) (0,(s2.2.set j8 (List.replicate j6 x7)))) (gK (zG l) (0,s2.2))
def Bd (l:List Int)(needs:List (List Bool)):Option ((List Int)×(List (List Bool))) := bnd (kP (gJ l) (gJ l) 24) λj1=>gK (zH l needs j1) (0,(List.replicate j1 ([]:List Bool)))
def Es (needs:List (List Bool))(y1:List Int)(y2:(List Int)×(List (List Bool)))(s3:Int×(List Int))(k4:(Int×(List Int))->Option (List Int)):Option (List Int) := br (decide (s3.1<(gJ y1))) (jn (λs6:(List Int)=>k4 ((iq s3.1 1),s6)) λk7=>bnd (jl y1 s3.1) λx9=>bnd (qO y1 (λa0=>xC a0 x9 needs (λa0 a1=>sO a0 a1 y2.1 y2.2))) λy10=>br (y10==false) (kF (s3.2.length+([x9]).length) 8 ( k7 (s3.2++[x9]))) (k7 s3.2)) (some s3.2)
def Fg (left:List Int)(needs:List (List Bool)):Option (List Int) := bnd (zB left) λy1=>bnd (Bd y1 needs) λy2=>gK (Es needs y1 y2) (0,[])
def Be (stamps:List Int)(i:Int):Option Int := br (decide (i<(gJ stamps))) (bnd (jl stamps i) λx1=>some x1) (some 0)
def Gq (stamps:List Int)(y1:List Int)(s2:Int×Int)(k3:(Int×Int)->Option Int):Option Int := br (decide (s2.2<(gJ y1))) (jn (λs5:Int=>k3 (s5,(iq s2.2 1))) λk6=>bnd (jl y1 s2.2) λx8=>br (decide (s2.1<0)) (k6 x8) (bnd (Be stamps x8) λy9=>bnd (Be stamps s2.1) λy10=>jn (λs11:Bool=>br s11 (k6 x8) (k6 s2.1)) λk12=>br (decide (y9<y10)) (k12 true) (br (decide (y9=y10)) (k12 (decide (x8<s2.1))) (k12 false)))) (some s2.1)
def Ig (left:List Int)(stamps:List Int)(needs:List (List Bool)):Option Int := bnd (Fg left needs) λy1=>gK (Gq stamps y1) ((-1),0)
def cmp_isNaN_int (x:Int):Option Bool := some (!decide (x=x))
def cmp_Compare_int (x:Int)(y:Int):Option Int := bnd (cmp_isNaN_int x) λy1=>bnd (cmp_isNaN_int y) λy2=>br y1 (br y2 (some 0) (some (-1))) (br y2 (some 1) (br (decide (x<y)) (some (-1)) (br (decide (y<x)) (some 1) (some 0))))
def wP (o:iw)(id:Int):Option Int := bnd (cmp_Compare_int o.id id) λy1=>some y1
def uT (x:List iw)(target:Int)(cmp:iw->Int->Option Int)(s1:Int×Int)(k2:(Int×Int)->Option (Int×Bool)):Option (Int×Bool) := br (decide (s1.1<s1.2)) (bnd (kT .shr .u64 (IntKind.wrap .u64 (iq s1.1 s1.2)) 1) λx4=>bnd (jl x (IntKind.wrap .i64 x4)) λx5=>bnd (cmp x5 target) λy6=>br (decide (y6<0)) (k2 ((iq (IntKind.wrap .i64 x4) 1),s1.2)) (k2 (s1.1,(IntKind.wrap .i64 x4)))) (br (decide (s1.1<(gJ x))) (bnd (jl x s1.1) λx7=>bnd (cmp x7 target) λy8=>some (s1.1,(decide (y8=0)))) (some (s1.1,false)))
def pz (x:List iw)(target:Int)(cmp:iw->Int->Option Int):Option (Int×Bool) := gK (uT x target cmp) (0,(gJ x))
def vG (s:gB)(id:Int):Option Int := bnd (pz s.objects id wP) λy1=>br (y1.2==false) (some (-1)) (some y1.1)
def rC (w:ik)(i:Int):Option Int := bnd (jl w.forces i) λx1=>bnd (vG w.s x1.source) λy2=>jn (λs3:Bool=>br s3 (bnd (jl w.iE y2) λx6=>some x6.control) (some x1.control)) λk4=>br (x1.fixed==false) (k4 (decide (0<=y2))) (k4 false)
def qx (w:ik)(i:Int):Option Bool := bnd (jl w.forces i) λx1=>jn (λs2:Bool=>br s2 (some true) (bnd (vG w.s x1.source) λy7=>br (decide (y7<0)) (some true) (bnd (lJ w.dropped.length y7) λj8=>bnd (w.dropped[j8]?) λx9=>some (x9==false)))) λk3=>br x1.fixed (k3 true) (bnd (lJ w.done.length i) λj5=>bnd (w.done[j5]?) λx6=>k3 x6)
def qh (mask:Int)(key:Int):Option Bool := some (decide ((nC .and .i64 mask key)=key))
def strings_Contains (s:ByteArray)(substr:ByteArray):Option Bool:=agJ s substr
def OX (x8:List Int)(s9:Int)(k10:Int->Option Bool):Option Bool := br (decide (s9<(gJ x8))) (bnd (jl x8 s9) λx12=>jn (λs13:Bool=>br s13 (some false) (k10 (iq s9 1))) λk14=>br (decide (x12<97)) (br (decide (x12<48)) (k14 (!decide (x12=45))) (br (decide (57<x12)) (k14 (!decide (x12=45))) (k14 false))) (br (decide (122<x12)) (br (decide (x12<48)) (k14 (!decide (x12=45))) (br (decide (57<x12)) (k14 (!decide (x12=45))) (k14 false))) (k14 false))) (some true)
def QE (s:ByteArray):Option Bool := jn (λs1:Bool=>br s1 (some false) (lt (X9 s) λx8=>gK (OX x8) 0)) λk2=>br (decide ((s.size:Int)=0)) (k2 true) (br (decide (32<(s.size:Int))) (k2 true) (bnd (kN s 0) λx4=>br (decide (x4<97)) (k2 true) (bnd (kN s 0) λx5=>br (decide (122<x5)) (k2 true) (bnd (kN s (qI (s.size:Int) 1)) λx6=>br (decide (x6=45)) (k2 true) (bnd (strings_Contains s (bs [45,45])) λy7=>k2 y7)))))
def uU (i:Int):Option ByteArray := qE i 2 λj1=>(match j1 with|0=>(some (bs [98,97,115,105,99]))  | _=>(some (bs [117,110,105,113,117,101])) )
def Tq (s:ByteArray)(n:Int)(name:Int->Option ByteArray)(s1:Int)(k2:Int->Option Int):Option Int := br (decide (s1<n)) (bnd (name s1) λy4=>br (jc .neq y4 s) (k2 (iq s1 1)) (bnd (kT .shl .i64 1 s1) λx5=>some x5)) (some 0)
def Jn (s:ByteArray)(n:Int)(name:Int->Option ByteArray):Option Int := gK (Tq s n name) 0
def wQ (i:Int):Option ByteArray := qE i 6 λj1=>(match j1 with|0=>(some (bs [99,114,101,97,116,117,114,101]))  | 1=>(some (bs [105,110,115,116,97,110,116]))  | 2=>(some (bs [114,105,116,117,97,108]))  | 3=>(some (bs [114,101,108,105,99]))  | 4=>(some (bs [99,104,97,114,109]))  | _=>(some (bs [108,97,110,100])) )
def zU (s:ByteArray):Option Bool := bnd (QE s) λy1=>br y1 (bnd (Jn s 2 uU) λy2=>br (decide (y2=0)) (bnd (Jn s 6 wQ) λy3=>some (decide (y3=0))) (some false)) (some false)
def lQ (n:Int)(most:Int):Option Bool := br (decide (0<=n)) (some (decide (n<=most))) (some false)
def uV (b:vS):Option Bool := bnd (lQ b.kind 3) λy1=>br y1 (bnd (lQ b.n 1000000) λy2=>br y2 (br (!decide (b.kind=0)) (some true) (some (decide (b.n=0)))) (some false)) (some false)
def Jo (f:jY):Option Bool := jn (λs1:Bool=>br s1 (some false) (jn (λs9:Bool=>br s9 (some false) (jn (λs14:Bool=>br s14 (some false) (jn (λs19:Bool=>br s19 (some false) (bnd (uV f.power) λy23=>br y23 (bnd (uV f.jb) λy24=>br y24 (bnd (uV f.value) λy25=>some y25) (some false)) (some false))) λk20=>br (jc .neq f.sub (bs [])) (bnd (zU f.sub) λy22=>k20 (y22==false)) (k20 false))) λk15=>bnd (lQ f.jS 31) λy17=>br (y17==false) (k15 true) (bnd (lQ f.jf 31) λy18=>br (y18==false) (k15 true) (k15 (!decide ((nC .and .i64 f.jS f.jf)=0)))))) λk10=>bnd (lQ f.types 63) λy12=>br (y12==false) (k10 true) (bnd (lQ f.jA 63) λy13=>br (y13==false) (k10 true) (k10 (!decide ((nC .and .i64 f.types f.jA)=0)))))) λk2=>bnd (lQ f.jE 5) λy4=>br (y4==false) (k2 true) (bnd (lQ f.who 2) λy5=>br (y5==false) (k2 true) (bnd (lQ f.self 2) λy6=>br (y6==false) (k2 true) (bnd (lQ f.Cb 2) λy7=>br (y7==false) (k2 true) (bnd (lQ f.keys 131071) λy8=>k2 (y8==false)))))
def nT (phave:Int)(psome:Int)(pnone:Int):Option Bool := br (decide (psome=0)) (some (decide ((nC .and .i64 phave pnone)=0))) (br (!decide ((nC .and .i64 phave psome)=0)) (some (decide ((nC .and .i64 phave pnone)=0))) (some false))
def Jp (b:vS)(n:Int):Option Bool := br (decide (b.kind=0)) (some true) (br (decide (b.kind=1)) (some (decide (b.n<=n))) (br (decide (b.kind=2)) (some (decide (n<=b.n))) (br (decide (b.kind=3)) (some (decide (n=b.n))) (some false))))
def xE (b:vS)(n:Int)(c2:Bool):Option Bool := br (decide (b.kind=0)) (some true) (br c2 (bnd (Jp b n) λy1=>some y1) (some false))
def Bf (s:List ByteArray)(v:ByteArray)(s1:Int)(k2:Int->Option Int):Option Int := br (decide (s1<(gJ s))) (bnd (jl s s1) λx4=>br (jc .eql v x4) (some s1) (k2 (iq s1 1))) (some (-1))
def slices_Index_string (s:List ByteArray)(v:ByteArray):Option Int := gK (Bf s v) 0
def slices_Contains_string (s:List ByteArray)(v:ByteArray):Option Bool := bnd (slices_Index_string s v) λy1=>some (decide (0<=y1))
def vH (l:zZ)(sub:ByteArray):Option Bool := bnd (slices_Contains_string l.subs sub) λy1=>some y1
def Ug (a:Int)(b:Int):Option Int := bnd (qN a) λy1=>bnd (qN b) λy2=>bnd (qN (X8 y1 y2)) λy3=>some y3
def NV (c:sG)(x:Int)(s2:Int×Int)(k3:(Int×Int)->Option Int):Option Int := br (decide (s2.2<5)) (jn (λs5:Int=>k3 ((iq s2.1 s5),(iq s2.2 1))) λk6=>qE s2.2 5 λj8=>(match j8 with|0=>(k6 c.color.a0)  | 1=>(k6 c.color.a1)  | 2=>(k6 c.color.a2)  | 3=>(k6 c.color.a3)  | _=>(k6 c.color.a4) )) (bnd (Ug c.x (if 0<x then x else 0)) λy9=>bnd (Ie s2.1 y9) λy10=>some y10)
def Kq (c:sG)(x:Int):Option Int := bnd (QC c) λy1=>br (y1==false) (some 0) (gK (NV c x) (c.generic,0))
def oL (o:iw)(t:gG)(you:Int)(source:Int)(f:jY):Option Bool := jn (λs1:Bool=>br s1 (some false) (jn (λs5:Unit=>bnd (xE f.power t.power (!decide ((nC .and .i64 t.line.types 1)=0))) λy57=>br y57 (bnd (xE f.jb t.jb (!decide ((nC .and .i64 t.line.types 1)=0))) λy58=>br y58 (bnd (Kq t.cost 0) λy59=>bnd (Jp f.value y59) λy60=>some y60) (some false)) (some false)) λk6=>jn (λs8:Bool=>br s8 (some false) (br (decide (f.who=2)) (br (decide (t.control=you)) (some false) (jn (λs11:Bool=>br s11 (some false) (br (decide (f.self=2)) (br (decide (o.id=source)) (some false) (bnd (nT t.line.types f.types f.jA) λy14=>br (y14==false) (some false) (bnd (nT t.jS f.jS f.jf) λy15=>br (y15==false) (some false) (jn (λs16:Bool=>br s16 (some false) (bnd (qh t.keys f.keys) λy20=>br (y20==false) (some false) (jn (λs21:Bool=>br s21 (some false) (br (decide (f.Cb=2)) (br o.pK (some false) (k6 ())) (k6 ()))) λk22=>br (decide (f.Cb=1)) (k22 (o.pK==false)) (k22 false)))) λk17=>br (jc .neq f.sub (bs [])) (bnd (vH t.line f.sub) λy19=>k17 (y19==false)) (k17 false))))) (bnd (nT t.line.types f.types f.jA) λy24=>br (y24==false) (some false) (bnd (nT t.jS f.jS f.jf) λy25=>br (y25==false) (some false) (jn (λs26:Bool=>br s26 (some false) (bnd (qh t.keys f.keys) λy30=>br (y30==false) (some false) (jn (λs31:Bool=>br s31 (some false) (br (decide (f.Cb=2)) (br o.pK (some false) (k6 ())) (k6 ()))) λk32=>br (decide (f.Cb=1)) (k32 (o.pK==false)) (k32 false)))) λk27=>br (jc .neq f.sub (bs [])) (bnd (vH t.line f.sub) λy29=>k27 (y29==false)) (k27 false)))))) λk12=>br (decide (f.self=1)) (k12 (!decide (o.id=source))) (k12 false))) (jn (λs34:Bool=>br s34 (some false) (br (decide (f.self=2)) (br (decide (o.id=source)) (some false) (bnd (nT t.line.types f.types f.jA) λy37=>br (y37==false) (some false) (bnd (nT t.jS f.jS f.jf) λy38=>br (y38==false) (some false) (jn (λs39:Bool=>br s39 (some false) (bnd (qh t.keys f.keys) λy43=>br (y43==false) (some false) (jn (λs44:Bool=>br s44 (some false) (br (decide (f.Cb=2)) (br o.pK (some false) (k6 ())) (k6 ()))) λk45=>br (decide (f.Cb=1)) (k45 (o.pK==false)) (k45 false)))) λk40=>br (jc .neq f.sub (bs [])) (bnd (vH t.line f.sub) λy42=>k40 (y42==false)) (k40 false))))) (bnd (nT t.line.types f.types f.jA) λy47=>br (y47==false) (some false) (bnd (nT t.jS f.jS f.jf) λy48=>br (y48==false) (some false) (jn (λs49:Bool=>br s49 (some false) (bnd (qh t.keys f.keys) λy53=>br (y53==false) (some false) (jn (λs54:Bool=>br s54 (some false) (br (decide (f.Cb=2)) (br o.pK (some false) (k6 ())) (k6 ()))) λk55=>br (decide (f.Cb=1)) (k55 (o.pK==false)) (k55 false)))) λk50=>br (jc .neq f.sub (bs [])) (bnd (vH t.line f.sub) λy52=>k50 (y52==false)) (k50 false)))))) λk35=>br (decide (f.self=1)) (k35 (!decide (o.id=source))) (k35 false)))) λk9=>br (decide (f.who=1)) (k9 (!decide (t.control=you))) (k9 false))) λk2=>bnd (Jo f) λy4=>br (y4==false) (k2 true) (k2 (!decide (o.jE=f.jE)))
def pV (w:ik)(x6:iC)(y7:Int)(s8:Int×(List Int))(k9:(Int×(List Int))->Option (List Int)):Option (List Int) := br (decide (s8.1<(gJ w.s.objects))) (jn (λs11:(List Int)=>k9 ((iq s8.1 1),s11)) λk12=>bnd (jl w.s.objects s8.1) λx14=>jn (λs15:Bool=>br s15 (kF (s8.2.length+([s8.1]).length) 8 ( k12 (s8.2++[s8.1]))) (k12 s8.2)) λk16=>br (decide (x14.jE=0)) (br x6.fixed (bnd (slices_Contains_int x6.objects x14.id) λy18=>br y18 (k16 true) (br (x6.fixed==false) (bnd (lJ w.iE.length s8.1) λj19=>bnd (w.iE[j19]?) λx20=>bnd (oL x14 x20 y7 x6.source x6.filter) λy21=>k16 y21) (k16 false))) (br (x6.fixed==false) (bnd (lJ w.iE.length s8.1) λj22=>bnd (w.iE[j22]?) λx23=>bnd (oL x14 x23 y7 x6.source x6.filter) λy24=>k16 y24) (k16 false))) (k16 false)) (some s8.2)
def nN (w:ik)(i:Int):Option (List Int) := bnd (lJ w.done.length i) λj1=>bnd (w.done[j1]?) λx2=>br x2 (bnd (lJ w.hits.length i) λj3=>bnd (w.hits[j3]?) λx4=>some x4) (bnd (qx w i) λy5=>br (y5==false) (some ([])) (bnd (jl w.forces i) λx6=>bnd (rC w i) λy7=>gK (pV w x6 y7) (0,[])))
def CO (s:gB)(all:List gG)(you:Int)(source:Int)(f:jY)(s1:Int×(List Int))(k2:(Int×(List Int))->Option (List Int)):Option (List Int) := br (decide (s1.1<(gJ s.objects))) (jn (λs4:(List Int)=>k2 ((iq s1.1 1),s4)) λk5=>bnd (jl s.objects s1.1) λx7=>jn (λs8:iw×gG=>bnd (oL s8.1 s8.2 you source f) λy13=>br y13 (kF (s1.2.length+([s8.1.id]).length) 8 ( k5 (s1.2++[s8.1.id]))) (k5 s1.2)) λk9=>br (decide (s1.1<(gJ all))) (bnd (lJ all.length s1.1) λj11=>bnd (all[j11]?) λx12=>k9 (x7,x12)) (k9 (x7,yU))) (some s1.2)
def Dy (s:gB)(all:List gG)(you:Int)(source:Int)(f:jY):Option (List Int) := gK (CO s all you source f) (0,[])
def tJ (w:ik)(i:Int)(stage:Int)(x1:iC)(s4:Int×(List Int))(k5:(Int×(List Int))->Option (List Int)):Option (List Int) := br (decide (s4.1<(gJ x1.mr))) (jn (λs7:(List Int)=>k5 ((iq s4.1 1),s7)) λk8=>bnd (jl x1.mr s4.1) λx10=>jn (λs11:Bool=>br s11 (bnd (rC w i) λy15=>bnd (Dy w.s w.iE y15 x1.source x10.filter) λy16=>bnd (lJ s4.2.length s4.1) λj17=>bnd (s4.2[j17]?) λx18=>k8 (s4.2.set j17 ((y16.length:Nat):Int))) (k8 s4.2)) λk12=>br (decide (x10.kind=11)) (bnd (Aa x10.kind) λy14=>k12 (decide (y14=stage))) (k12 false)) (some s4.2)
def pW (w:ik)(i:Int)(stage:Int):Option (List Int) := bnd (jl w.forces i) λx1=>bnd (kP (gJ x1.mr) (gJ x1.mr) 8) λj2=>lt 0 λx3=>gK (tJ w i stage x1) (0,(List.replicate j2 x3))
def vV (w:ik)(i:Int):Option Int := bnd (jl w.forces i) λx1=>bnd (vG w.s x1.source) λy2=>jn (λs3:Bool=>br s3 (bnd (lJ w.iE.length y2) λj6=>bnd (w.iE[j6]?) λx7=>some x7.control) (some x1.control)) λk4=>br (x1.fixed==false) (k4 (decide (0<=y2))) (k4 false)
def vW (s:List jg):Option (List jg) := rD (some ([])) (kF (0+s.length) 560 ( some s))
def xG (s:List iP):Option (List iP) := rD (some ([])) (kF (0+s.length) 640 ( some s))
def Dz (s3:Int×(List iP))(k4:(Int×(List iP))->Option gG)(j6:Nat)(x7:iP)(y8:List lZ)(y9:List sH)(y10:List jg)(s11:Int×(List jg))(k12:(Int×(List jg))->Option gG):Option gG := br (decide (s11.1<(gJ y10))) (bnd (lJ s11.2.length s11.1) λj14=>bnd (s11.2[j14]?) λx15=>bnd (jR x15.mr) λy16=>bnd (lJ s11.2.length s11.1) λj17=>bnd (s11.2[j17]?) λx18=>k12 ((iq s11.1 1),(s11.2.set j17 { x18 with mr:=y16 }))) (k4 ((iq s3.1 1),(s3.2.set j6 { x7 with mr:=y8,specs:=y9,kR:=s11.2 })))
def DC (t:gG)(y1:List ByteArray)(y2:List iP)(s3:Int×(List iP))(k4:(Int×(List iP))->Option gG):Option gG := br (decide (s3.1<(gJ y2))) (bnd (lJ s3.2.length s3.1) λj6=>bnd (s3.2[j6]?) λx7=>bnd (jR x7.mr) λy8=>bnd (oC x7.specs) λy9=>bnd (vW x7.kR) λy10=>gK (Dz s3 k4 j6 x7 y8 y9 y10) (0,y10)) (some { t with line:={ t.line with subs:=y1 },gU:=s3.2 })
def Gs (t:gG):Option gG := bnd (slices_Clone_string t.line.subs) λy1=>bnd (xG t.gU) λy2=>gK (DC t y1 y2) (0,y2)
def Bg (n:Int)(least:Int)(most:Int):Option Bool := br (decide (least<=n)) (some (decide (n<=most))) (some false)
def QF (m:lZ):Option lZ := br (decide (m.kind=2)) (some (lZ.mk m.kind m.n 0 (bs []) lW)) (br (decide (m.kind=3)) (some (lZ.mk m.kind m.n 0 (bs []) lW)) (br (decide (m.kind=6)) (some (lZ.mk m.kind m.n 0 (bs []) lW)) (br (decide (m.kind=7)) (some (lZ.mk m.kind m.n 0 (bs []) lW)) (br (decide (m.kind=8)) (some (lZ.mk m.kind m.n 0 (bs []) lW)) (br (decide (m.kind=9)) (some (lZ.mk m.kind m.n 0 (bs []) lW)) (br (decide (m.kind=4)) (some (lZ.mk m.kind 0 0 m.sub lW)) (br (decide (m.kind=5)) (some (lZ.mk m.kind 0 0 m.sub lW)) (br (decide (m.kind=11)) (some (lZ.mk m.kind 0 0 (bs []) m.filter)) (br (decide (m.kind=12)) (some { m with sub:=(bs []),filter:=lW }) (br (decide (m.kind=13)) (some { m with sub:=(bs []),filter:=lW }) (some (lZ.mk m.kind 0 0 (bs []) lW))))))))))))
def YB (m:lZ):Option Bool := jn (λs1:Bool=>br s1 (some false) (br (decide (m.kind=2)) (bnd (Bg m.n 1 63) λy7=>br y7 (some (decide ((nC .and .i64 m.n 6)=0))) (some false)) (br (decide (m.kind=3)) (bnd (Bg m.n 1 63) λy8=>br y8 (some (decide ((nC .and .i64 m.n 6)=0))) (some false)) (br (decide (m.kind=4)) (bnd (zU m.sub) λy9=>some y9) (br (decide (m.kind=5)) (bnd (zU m.sub) λy10=>some y10) (br (decide (m.kind=6)) (bnd (Bg m.n 0 31) λy11=>some y11) (br (decide (m.kind=7)) (bnd (Bg m.n 1 31) λy12=>some y12) (br (decide (m.kind=8)) (bnd (Bg m.n 1 131071) λy13=>some y13) (br (decide (m.kind=9)) (bnd (Bg m.n 1 131071) λy14=>some y14) (br (decide (m.kind=11)) (bnd (Jo m.filter) λy15=>some y15) (br (decide (m.kind=12)) (bnd (Bg m.n 0 99) λy16=>br y16 (bnd (Bg m.m 0 99) λy17=>some y17) (some false)) (br (decide (m.kind=13)) (bnd (Bg m.n (-99) 99) λy18=>br y18 (bnd (Bg m.m (-99) 99) λy19=>some y19) (some false)) (some true))))))))))))) λk2=>bnd (Bg m.kind 1 14) λy4=>br (y4==false) (k2 true) (bnd (QF m) λy5=>lt ((decide (m.kind=y5.kind)&&(decide (m.n=y5.n)&&(decide (m.m=y5.m)&&(jc .eql m.sub y5.sub&&(decide (m.filter.jE=y5.filter.jE)&&(decide (m.filter.who=y5.filter.who)&&(decide (m.filter.self=y5.filter.self)&&(decide (m.filter.types=y5.filter.types)&&(decide (m.filter.jA=y5.filter.jA)&&(decide (m.filter.jS=y5.filter.jS)&&(decide (m.filter.jf=y5.filter.jf)&&(jc .eql m.filter.sub y5.filter.sub&&(decide (m.filter.keys=y5.filter.keys)&&(decide (m.filter.Cb=y5.filter.Cb)&&(decide (m.filter.power.kind=y5.filter.power.kind)&&(decide (m.filter.power.n=y5.filter.power.n)&&(decide (m.filter.jb.kind=y5.filter.jb.kind)&&(decide (m.filter.jb.n=y5.filter.jb.n)&&(decide (m.filter.value.kind=y5.filter.value.kind)&&(decide (m.filter.value.n=y5.filter.value.n)&&true))))))))))))))))))))==false) λv6=>k2 v6)
def IK (s:ByteArray)(c1:ByteArray):Option Bool := some (jc .geq s c1)
def sQ (s:List ByteArray)(f:ByteArray->Option Bool)(s1:Int)(k2:Int->Option Int):Option Int := br (decide (s1<(gJ s))) (bnd (jl s s1) λx4=>bnd (f x4) λy5=>br y5 (some s1) (k2 (iq s1 1))) (some (-1))
def qP (s:List ByteArray)(f:ByteArray->Option Bool):Option Int := gK (sQ s f) 0
def DZ (s:List ByteArray)(i:Int)(v:List ByteArray):Option (List ByteArray):=adv s i v
def D5 (l:zZ)(sub:ByteArray):Option zZ := bnd (slices_Clone_string l.subs) λy1=>jn (λs2:Bool=>br s2 (some { l with subs:=y1 }) (bnd (qP y1 (λa0=>IK a0 sub)) λy7=>jn (λs8:Int=>bnd (DZ y1 s8 ([sub])) λy11=>some { l with subs:=y11 }) λk9=>br (decide (y7<0)) (k9 (gJ y1)) (k9 y7))) λk3=>bnd (zU sub) λy5=>br (y5==false) (k3 true) (bnd (vH { l with subs:=y1 } sub) λy6=>br y6 (k3 true) (k3 (decide (4<=(gJ y1)))))
def ND (t:gG)(m:lZ)(you:Int)(count:Int):Option gG := bnd (Gs t) λy1=>bnd (YB m) λy2=>br (y2==false) (some y1) (br (decide (m.kind=1)) (some { y1 with control:=you }) (br (decide (m.kind=2)) (some { y1 with line:={ y1.line with types:=m.n } }) (br (decide (m.kind=3)) (some { y1 with line:={ y1.line with types:=(nC .or .i64 y1.line.types m.n) } }) (br (decide (m.kind=4)) (some { y1 with line:={ y1.line with subs:=[m.sub] } }) (br (decide (m.kind=5)) (bnd (D5 y1.line m.sub) λy3=>some { y1 with line:=y3 }) (br (decide (m.kind=6)) (some { y1 with jS:=m.n }) (br (decide (m.kind=7)) (some { y1 with jS:=(nC .or .i64 y1.jS m.n) }) (br (decide (m.kind=8)) (some { y1 with keys:=(nC .or .i64 y1.keys m.n) }) (br (decide (m.kind=9)) (some { y1 with keys:=(nC .andNot .i64 y1.keys m.n) }) (br (decide (m.kind=10)) (some { y1 with keys:=0,gU:=[] }) (br (decide (m.kind=11)) (bnd (qN count) λy4=>bnd (qN count) λy5=>some { y1 with power:=y4,jb:=y5 }) (br (decide (m.kind=12)) (some { y1 with power:=m.n,jb:=m.m }) (br (decide (m.kind=13)) (bnd (Ie y1.power m.n) λy6=>bnd (Ie y1.jb m.m) λy7=>some { y1 with power:=y6,jb:=y7 }) (br (decide (m.kind=14)) (some { y1 with power:=y1.jb,jb:=y1.power }) (some y1)))))))))))))))
def qQ (stage:Int)(y2:List Int)(y3:Int)(s4:Int×(List gG)×(List Bool))(k5:(Int×(List gG)×(List Bool))->Option ik)(x7:Int)(x8:iC)(s9:Int×(List gG)×(List Bool))(k10:(Int×(List gG)×(List Bool))->Option ik):Option ik := br (decide (s9.1<(gJ x8.mr))) (jn (λs12:(List gG)×(List Bool)=>k10 ((iq s9.1 1),s12.1,s12.2)) λk13=>bnd (jl x8.mr s9.1) λx15=>bnd (Aa x15.kind) λy16=>br (!decide (y16=stage)) (k13 (s9.2.1,s9.2.2)) (bnd (lJ s9.2.1.length x7) λj17=>bnd (s9.2.1[j17]?) λx18=>bnd (lJ y2.length s9.1) λj19=>bnd (y2[j19]?) λx20=>bnd (ND x18 x15 y3 x20) λy21=>bnd (lJ s9.2.1.length x7) λj22=>bnd (s9.2.1[j22]?) λx23=>br (decide (x15.kind=10)) (bnd (lJ s9.2.2.length x7) λj24=>lt true λx25=>bnd (s9.2.2[j24]?) λx26=>k13 ((s9.2.1.set j22 y21),(s9.2.2.set j24 x25))) (k13 ((s9.2.1.set j22 y21),s9.2.2)))) (k5 ((iq s4.1 1),s9.2.1,s9.2.2))
def qR (w:ik)(i:Int)(stage:Int)(y1:List Int)(y2:List Int)(y3:Int)(s4:Int×(List gG)×(List Bool))(k5:(Int×(List gG)×(List Bool))->Option ik):Option ik := br (decide (s4.1<(gJ y1))) (bnd (jl y1 s4.1) λx7=>bnd (jl w.forces i) λx8=>gK (qQ stage y2 y3 s4 k5 x7 x8) (0,s4.2.1,s4.2.2)) (bnd (lJ w.done.length i) λj27=>lt true λx28=>bnd (w.done[j27]?) λx29=>bnd (lJ w.hits.length i) λj30=>bnd (w.hits[j30]?) λx31=>some (ik.mk w.s w.forces s4.2.1 s4.2.2 (w.done.set j27 x28) (w.hits.set j30 y1)))
def oZ (w:ik)(i:Int)(stage:Int):Option ik := bnd (nN w i) λy1=>bnd (pW w i stage) λy2=>bnd (vV w i) λy3=>gK (qR w i stage y1 y2 y3) (0,w.iE,w.dropped)
def wF (f:jY)(stage:Int):Option Bool := jn (λs1:Bool=>br (decide (stage=1)) (some (!decide (f.who=0))) (br (decide (stage=2)) (br (!decide ((nC .or .i64 f.types f.jA)=0)) (some true) (br (jc .neq f.sub (bs [])) (some true) (some s1))) (br (decide (stage=3)) (some (!decide ((nC .or .i64 f.jS f.jf)=0))) (br (decide (stage=4)) (some (!decide (f.keys=0))) (some s1))))) λk2=>br (!decide (f.power.kind=0)) (k2 true) (k2 (!decide (f.jb.kind=0)))
def tK (w:ik)(i:Int)(stage:Int)(x1:iC)(s2:Int)(k3:Int->Option Bool):Option Bool := br (decide (s2<(gJ x1.mr))) (bnd (jl x1.mr s2) λx5=>jn (λs6:Bool=>br s6 (some true) (k3 (iq s2 1))) λk7=>br (decide (x5.kind=11)) (bnd (Aa x5.kind) λy9=>br (decide (y9=stage)) (bnd (wF x5.filter stage) λy10=>k7 y10) (k7 false)) (k7 false)) (br (x1.fixed==false) (bnd (lJ w.done.length i) λj11=>bnd (w.done[j11]?) λx12=>br (x12==false) (br (decide (stage=4)) (some true) (bnd (wF x1.filter stage) λy13=>some y13)) (some false)) (some false))
def rP (w:ik)(i:Int)(stage:Int):Option Bool := bnd (jl w.forces i) λx1=>gK (tK w i stage x1) 0
def rJ (w:ik)(i:Int)(stage:Int):Option kG := bnd (qx w i) λy1=>bnd (nN w i) λy2=>bnd (pW w i stage) λy3=>some (kG.mk y1 y2 y3)
def sS (w:ik)(i:Int):Option Bool := bnd (jl w.forces i) λx1=>jn (λs2:Bool=>br s2 (some true) (bnd (vG w.s x1.source) λy6=>br (decide (y6<0)) (some true) (bnd (jl w.dropped y6) λx7=>some (x7==false)))) λk3=>br x1.fixed (k3 true) (bnd (jl w.done i) λx5=>k3 x5)
def uX (w:ik)(x4:iC)(y5:Int)(s6:Int×(List Int))(k7:(Int×(List Int))->Option (List Int)):Option (List Int) := br (decide (s6.1<(gJ w.s.objects))) (jn (λs9:(List Int)=>k7 ((iq s6.1 1),s9)) λk10=>bnd (jl w.s.objects s6.1) λx12=>jn (λs13:Bool=>br s13 (kF (s6.2.length+([s6.1]).length) 8 ( k10 (s6.2++[s6.1]))) (k10 s6.2)) λk14=>br (decide (x12.jE=0)) (br x4.fixed (bnd (slices_Contains_int x4.objects x12.id) λy16=>br y16 (k14 true) (br (x4.fixed==false) (bnd (jl w.iE s6.1) λx17=>bnd (oL x12 x17 y5 x4.source x4.filter) λy18=>k14 y18) (k14 false))) (br (x4.fixed==false) (bnd (jl w.iE s6.1) λx19=>bnd (oL x12 x19 y5 x4.source x4.filter) λy20=>k14 y20) (k14 false))) (k14 false)) (some s6.2)
def tZ (w:ik)(i:Int):Option (List Int) := bnd (jl w.done i) λx1=>br x1 (bnd (jl w.hits i) λx2=>some x2) (bnd (sS w i) λy3=>br (y3==false) (some ([])) (bnd (jl w.forces i) λx4=>bnd (rC w i) λy5=>gK (uX w x4 y5) (0,[])))
def CP (s:gB)(all:List gG)(you:Int)(source:Int)(f:jY)(s1:Int×(List Int))(k2:(Int×(List Int))->Option (List Int)):Option (List Int) := br (decide (s1.1<(gJ s.objects))) (jn (λs4:(List Int)=>k2 ((iq s1.1 1),s4)) λk5=>bnd (jl s.objects s1.1) λx7=>jn (λs8:iw×gG=>bnd (oL s8.1 s8.2 you source f) λy12=>br y12 (kF (s1.2.length+([s8.1.id]).length) 8 ( k5 (s1.2++[s8.1.id]))) (k5 s1.2)) λk9=>br (decide (s1.1<(gJ all))) (bnd (jl all s1.1) λx11=>k9 (x7,x11)) (k9 (x7,yU))) (some s1.2)
def DD (s:gB)(all:List gG)(you:Int)(source:Int)(f:jY):Option (List Int) := gK (CP s all you source f) (0,[])
def vX (w:ik)(i:Int)(stage:Int)(x1:iC)(s4:Int×(List Int))(k5:(Int×(List Int))->Option (List Int)):Option (List Int) := br (decide (s4.1<(gJ x1.mr))) (jn (λs7:(List Int)=>k5 ((iq s4.1 1),s7)) λk8=>bnd (jl x1.mr s4.1) λx10=>jn (λs11:Bool=>br s11 (bnd (rC w i) λy15=>bnd (DD w.s w.iE y15 x1.source x10.filter) λy16=>bnd (lJ s4.2.length s4.1) λj17=>bnd (s4.2[j17]?) λx18=>k8 (s4.2.set j17 ((y16.length:Nat):Int))) (k8 s4.2)) λk12=>br (decide (x10.kind=11)) (bnd (Aa x10.kind) λy14=>k12 (decide (y14=stage))) (k12 false)) (some s4.2)
def uD (w:ik)(i:Int)(stage:Int):Option (List Int) := bnd (jl w.forces i) λx1=>bnd (kP (gJ x1.mr) (gJ x1.mr) 8) λj2=>lt 0 λx3=>gK (vX w i stage x1) (0,(List.replicate j2 x3))
def yu (w:ik)(i:Int)(stage:Int):Option kG := bnd (sS w i) λy1=>bnd (tZ w i) λy2=>bnd (uD w i stage) λy3=>some (kG.mk y1 y2 y3)
def yJ (ps1:List Int)(ps2:List Int)(s1:Int)(k2:Int->Option Bool):Option Bool := br (decide (s1<(gJ ps1))) (bnd (jl ps1 s1) λx4=>bnd (jl ps2 s1) λx5=>br (!decide (x4=x5)) (some false) (k2 (iq s1 1))) (some true)
def slices_Equal_int (ps1:List Int)(ps2:List Int):Option Bool := br (!decide ((gJ ps1)=(gJ ps2))) (some false) (gK (yJ ps1 ps2) 0)
def uF (a:kG)(b:kG):Option Bool := br ((a.mJ==b.mJ)==false) (some true) (bnd (slices_Equal_int a.hits b.hits) λy1=>br (y1==false) (some true) (bnd (slices_Equal_int a.numbers b.numbers) λy2=>some (y2==false)))
def rQ (s:List gG):Option (List gG) := rD (some ([])) (kF (0+s.length) 176 ( some s))
def qL (s:List Bool):Option (List Bool) := rD (some ([])) (kF (0+s.length) 1 ( some s))
def sZ (s:List (List Int)):Option (List (List Int)) := rD (some ([])) (kF (0+s.length) 24 ( some s))
def tq (w:ik):Option ik := bnd (rQ w.iE) λy1=>bnd (qL w.dropped) λy2=>bnd (qL w.done) λy3=>bnd (sZ w.hits) λy4=>some (ik.mk w.s w.forces y1 y2 y3 y4)
def qU (left:List Int)(stage:Int)(s11:Int×(List (Int×kG)))(s24:Int×(List (List Bool)))(k25:(Int×(List (List Bool)))->Option (List (List Bool)))(x28:Int)(y30:ik)(s31:Int×(List (List Bool)))(k32:(Int×(List (List Bool)))->Option (List (List Bool))):Option (List (List Bool)) := br (decide (s31.1<(gJ left))) (jn (λs34:(List (List Bool))=>k32 ((iq s31.1 1),s34)) λk35=>bnd (lJ left.length s31.1) λj37=>bnd (left[j37]?) λx38=>uo s11.2 x38 Td λx39 b40=>jn (λs41:Bool=>br s41 (bnd (lJ s31.2.length x38) λj44=>bnd (s31.2[j44]?) λx45=>bnd (yu y30 x38 stage) λy46=>bnd (uF x39 y46) λy47=>bnd (lJ x45.length x28) λj48=>bnd (s31.2[j44]?) λx49=>bnd (x49[j48]?) λx50=>k35 (s31.2.set j44 (x49.set j48 y47))) (k35 s31.2)) λk42=>br b40 (k42 (!decide (x38=x28))) (k42 false)) (k25 ((iq s24.1 1),s31.2))
def qV (w:ik)(left:List Int)(stage:Int)(s11:Int×(List (Int×kG)))(s24:Int×(List (List Bool)))(k25:(Int×(List (List Bool)))->Option (List (List Bool))):Option (List (List Bool)) := br (decide (s24.1<(gJ left))) (bnd (lJ left.length s24.1) λj27=>bnd (left[j27]?) λx28=>bnd (tq w) λy29=>bnd (oZ y29 x28 stage) λy30=>gK (qU left stage s11 s24 k25 x28 y30) (0,s24.2)) (some s24.2)
def qW (w:ik)(left:List Int)(stage:Int)(s2:Int×(List (List Bool)))(s11:Int×(List (Int×kG)))(k12:(Int×(List (Int×kG)))->Option (List (List Bool))):Option (List (List Bool)) := br (decide (s11.1<(gJ left))) (jn (λs14:(List (Int×kG))=>k12 ((iq s11.1 1),s14)) λk15=>bnd (lJ left.length s11.1) λj17=>bnd (left[j17]?) λx18=>bnd (rP w x18 stage) λy19=>br y19 (bnd (rJ w x18 stage) λy20=>k15 (PX s11.2 x18 y20)) (k15 s11.2)) (jn (λs21:Bool=>br s21 (some s2.2) (gK (qV w left stage s11) (0,s2.2))) λk22=>br (decide ((gJ s11.2)=0)) (k22 true) (k22 (decide ((gJ left)<2))))
def qX (w:ik)(left:List Int)(stage:Int)(j1:Nat)(s2:Int×(List (List Bool)))(k3:(Int×(List (List Bool)))->Option (List (List Bool))):Option (List (List Bool)) := lt (decide (s2.1<(gJ (List.replicate j1 ([]:List Bool))))) λv5=>br v5 (bnd (kP (gJ w.forces) (gJ w.forces) 1) λj6=>lt false λx7=>bnd (lJ s2.2.length s2.1) λj8=>bnd (s2.2[j8]?) λx10=>k3 ((iq s2.1 1),(s2.2.set j8 (List.replicate j6 x7)))) (gK (qW w left stage s2) (0,[]))
def qM (w:ik)(left:List Int)(stage:Int):Option (List (List Bool)) := bnd (kP (gJ w.forces) (gJ w.forces) 24) λj1=>gK (qX w left stage j1) (0,(List.replicate j1 ([]:List Bool)))
def uY (stage:Int)(s13:ik×(List Int)×(List Int)×(List Int))(k14:(ik×(List Int)×(List Int)×(List Int))->Option ((List Int)×ik)):Option ((List Int)×ik) := br (decide (0<(gJ s13.2.1))) (bnd (qM s13.1 s13.2.1 stage) λy16=>bnd (Ig s13.2.1 s13.2.2.2 y16) λy17=>br (decide (y17<0)) (some (s13.2.2.1,s13.1)) (bnd (oZ s13.1 y17 stage) λy18=>kF (s13.2.2.1.length+([y17]).length) 8 ( bnd (qw s13.2.1 (λa0=>uC a0 y17)) λy19=>k14 (y18,y19,(s13.2.2.1++[y17]),s13.2.2.2)))) (some (s13.2.2.1,s13.1))
def qY (stage:Int)(s1:ik)(s5:Int×(List Int)×(List Int))(k6:(Int×(List Int)×(List Int))->Option ((List Int)×ik)):Option ((List Int)×ik) := br (decide (s5.1<(gJ s1.forces))) (jn (λs8:(List Int)×(List Int)=>k6 ((iq s5.1 1),s8.1,s8.2)) λk9=>bnd (jl s1.forces s5.1) λx11=>kF (s5.2.2.length+([x11.stamp]).length) 8 ( bnd (Dx x11 stage) λy12=>br y12 (kF (s5.2.1.length+([s5.1]).length) 8 ( k9 ((s5.2.1++[s5.1]),(s5.2.2++[x11.stamp])))) (k9 (s5.2.1,(s5.2.2++[x11.stamp]))))) (gK (uY stage) (s1,s5.2.1,[],s5.2.2))
def jV (w:ik)(stage:Int):Option ((List Int)×ik) := jn (λs1:ik=>gK (qY stage s1) (0,[],[])) λk2=>br (decide (stage=7)) (bnd (tY w) λy4=>k2 y4) (k2 w)
def qZ (cards:List iZ)(s:gB):Option (List gG) := bnd (DY cards s) λy1=>bnd (jV y1 1) λy3=>bnd (jV y3.2 2) λy4=>bnd (jV y4.2 3) λy5=>bnd (jV y5.2 4) λy6=>bnd (jV y6.2 5) λy7=>bnd (jV y7.2 6) λy8=>bnd (jV y8.2 7) λy9=>bnd (jV y9.2 8) λy10=>some y10.2.iE
def Kr (c:pO):Option Bool := br (decide (c.kind=1)) (some (decide ((gJ c.options)<=1))) (br (decide (c.kind=2)) (some (decide ((gJ c.options)<=1))) (br (decide (c.kind=9)) (some (decide ((gJ c.options)<=1))) (br (decide (c.kind=10)) (some (decide ((gJ c.options)<=1))) (br (decide (c.kind=11)) (some (decide ((gJ c.options)<=1))) (br (decide (c.kind=4)) (some (decide ((gJ c.options)<=1))) (br (decide (c.kind=8)) (some (decide ((gJ c.options)<=1))) (br (decide (c.kind=6)) (some (decide ((gJ c.options)=0))) (br (decide (c.kind=7)) (some (decide ((gJ c.options)=0))) (br (decide (c.kind=3)) (br (decide (c.least=c.most)) (br (decide (c.least=0)) (some true) (some (decide (c.least=(gJ c.options))))) (some false)) (br (decide (c.kind=5)) (some (decide (c.least=c.most))) (some true)))))))))))
def uf (c:pO):Option (List Int) := br (decide (c.kind=1)) (lt 0 λx1=>some ([x1])) (br (decide (c.kind=2)) (lt 0 λx2=>some ([x2])) (br (decide (c.kind=9)) (lt 0 λx3=>some ([x3])) (br (decide (c.kind=10)) (lt 0 λx4=>some ([x4])) (br (decide (c.kind=11)) (lt 0 λx5=>some ([x5])) (br (decide (c.kind=3)) (none) (br (decide (c.kind=4)) (none) (br (decide (c.kind=5)) (some ([c.least])) (br (decide (c.kind=8)) (br (decide (0<(gJ c.options))) (bnd (kP (gJ c.options) (gJ c.options) 8) λj6=>lt 0 λx7=>bnd (lJ j6 0) λj8=>bnd ((List.replicate j6 x7)[j8]?) λx9=>some ((List.replicate j6 x7).set j8 c.n)) (some ([]))) (some ([]))))))))))
def LY (l:List Int)(n:Int):Option Int := bnd (slices_Index_int l n) λy1=>some y1
def Gt (c:pO)(a:List Int)(s1:Int)(k2:Int->Option Bool):Option Bool := br (decide (s1<(gJ a))) (bnd (jl a s1) λx4=>jn (λs5:Bool=>br s5 (some false) (k2 (iq s1 1))) λk6=>br (decide (x4<0)) (k6 true) (br (decide ((gJ c.options)<=x4)) (k6 true) (bnd (LY a x4) λy8=>k6 (!decide (y8=s1))))) (some true)
def qi (c:pO)(a:List Int):Option Bool := gK (Gt c a) 0
def RH (l:List Int)(n:Int):Option Bool := bnd (slices_Contains_int l n) λy1=>some y1
def Et (c:pO)(a:List Int)(s1:Int×(List Int))(k2:(Int×(List Int))->Option Bool):Option Bool := br (decide (s1.1<(gJ a))) (bnd (jl a s1.1) λx4=>bnd (jl c.options x4) λx5=>bnd (RH s1.2 x5.a) λy6=>br y6 (some false) (bnd (jl c.options x4) λx7=>kF (s1.2.length+([x7.a]).length) 8 ( k2 ((iq s1.1 1),(s1.2++[x7.a]))))) (some true)
def Bh (c:pO)(a:List Int):Option Bool := gK (Et c a) (0,[])
def Jq (c:pO)(a:List Int):Option Bool := br (decide (256<(gJ a))) (some false) (br (decide (c.kind=1)) (br (decide ((gJ a)=1)) (bnd (qi c a) λy1=>some y1) (some false)) (br (decide (c.kind=2)) (br (decide ((gJ a)=1)) (bnd (qi c a) λy2=>some y2) (some false)) (br (decide (c.kind=9)) (br (decide ((gJ a)=1)) (bnd (qi c a) λy3=>some y3) (some false)) (br (decide (c.kind=10)) (br (decide ((gJ a)=1)) (bnd (qi c a) λy4=>some y4) (some false)) (br (decide (c.kind=11)) (br (decide ((gJ a)=1)) (bnd (qi c a) λy5=>some y5) (some false)) (br (decide (c.kind=3)) (br (decide (c.least<=(gJ a))) (br (decide ((gJ a)<=c.most)) (bnd (qi c a) λy6=>some y6) (some false)) (some false)) (br (decide (c.kind=4)) (br (decide ((gJ a)=(gJ c.options))) (bnd (qi c a) λy7=>some y7) (some false)) (br (decide (c.kind=5)) (br (decide ((gJ a)=1)) (bnd (jl a 0) λx8=>br (decide (c.least<=x8)) (bnd (jl a 0) λx9=>some (decide (x9<=c.most))) (some false)) (some false)) (br (decide (c.kind=6)) (bnd (qi c a) λy10=>br y10 (bnd (Bh c a) λy11=>some y11) (some false)) (br (decide (c.kind=7)) (bnd (qi c a) λy12=>br y12 (bnd (Bh c a) λy13=>some y13) (some false)) (br (decide (c.kind=8)) (none) (some false))))))))))))
def wX (l:List gX):Option (List gX) := kF l.length 24 ( some l)
def wY (k:iH)(c:pO):Option ((List Int)×iH) := jn (λs1:Bool=>br s1 (bnd (uf c) λy5=>some (y5,k)) (br (decide (k.used=((k.answers.length:Nat):Int))) (bnd (wX c.options) λy6=>bnd (uf { c with options:=y6 }) λy7=>some (y7,{ k with pending:={ c with options:=y6 },waits:=true })) (bnd (lJ k.answers.length k.used) λj8=>bnd (k.answers[j8]?) λx9=>bnd (Jq c x9) λy10=>br (y10==false) (bnd (uf c) λy11=>some (y11,{ k with used:=(iq k.used 1),bad:=true })) (bnd (uM x9) λy12=>some (y12,{ k with used:=(iq k.used 1) }))))) λk2=>br k.waits (k2 true) (br k.bad (k2 true) (bnd (Kr c) λy4=>k2 y4))
def Kt (k:iH)(cards:List iZ)(s:gB)(pe:kz)(add:Bool)(s1:Unit)(k2:Unit->Option (gB×kz×Bool)):Option (gB×kz×Bool) := bnd (qZ cards s) λy4=>bnd (qp cards s y4 pe ([]) add) λy5=>br (decide ((gJ y5)=0)) (some (s,{ pe with extra:=(NK.mk pe.extra.a0 pe.extra.a1 pe.extra.a2) },true)) (bnd (IJ s y4 { pe with extra:=(NK.mk pe.extra.a0 pe.extra.a1 pe.extra.a2) }) λy6=>bnd (wY k (pO.mk 10 y6 0 0 0 0 y5)) λy7=>bnd (lJ y7.1.length 0) λj8=>bnd (y7.1[j8]?) λx9=>bnd (jl y5 x9) λx10=>kF (([x10]).length) 24 ( none))
def EG (k:iH)(cards:List iZ)(s:gB)(pe:kz)(add:Bool):Option (gB×kz×Bool) := gK (Kt k cards s pe add) ()
def Gu (s:gB)(id:Int)(s1:Int)(k2:Int->Option (Option Nat)):Option (Option Nat) := br (decide (s1<(gJ s.objects))) (bnd (lJ s.objects.length s1) λj4=>bnd (s.objects[j4]?) λx5=>br (decide (x5.id=id)) (bnd (lJ s.objects.length s1) λj6=>some (some j6)) (k2 (iq s1 1))) (some none)
def xH (s:gB)(id:Int):Option (Option Nat) := gK (Gu s id) 0
def D6 (ol:List iw)(oj:Nat)(deadly:Bool)(pe:kz):Option (List iw) := br (decide (pe.kind=1)) (none) (br (decide (pe.kind=6)) (bnd (ol[oj]?) λx1=>some (ol.set oj { x1 with pK:=(decide (pe.kind=6)) })) (br (decide (pe.kind=7)) (none) (br (decide (pe.kind=8)) (none) (br (decide (pe.kind=9)) (none) (br (decide (pe.kind=12)) (bnd (ol[oj]?) λx2=>some (ol.set oj { x2 with yE:=pe.mV })) (br (decide (pe.kind=13)) (none) (some ol)))))))
def IL (s:gB)(all:List gG)(id:Int)(s1:Int)(k2:Int->Option Bool):Option Bool := br (decide (s1<(gJ s.objects))) (bnd (jl s.objects s1) λx4=>jn (λs5:Bool=>br s5 (bnd (jl all s1) λx8=>bnd (qh x8.keys 128) λy9=>some y9) (k2 (iq s1 1))) λk6=>br (decide (x4.id=id)) (k6 (decide (s1<(gJ all)))) (k6 false)) (some false)
def Gv (s:gB)(all:List gG)(id:Int):Option Bool := gK (IL s all id) 0
def yK (s:List jP):Option (List jP) := rD (some ([])) (kF (0+s.length) 152 ( some s))
def zI (p:jP):Option jP := bnd (slices_Clone_int p.library) λy1=>bnd (slices_Clone_int p.hand) λy2=>bnd (slices_Clone_int p.wK) λy3=>some { p with library:=y1,hand:=y2,wK:=y3 }
def yL (s:List iw):Option (List iw) := rD (some ([])) (kF (0+s.length) 128 ( some s))
def Bi (s:List og):Option (List og) := rD (some ([])) (kF (0+s.length) 824 ( some s))
def uG (a:iP)(y1:List lZ)(y2:List sH)(y3:List jg)(s4:Int×(List jg))(k5:(Int×(List jg))->Option iP):Option iP := br (decide (s4.1<(gJ y3))) (bnd (lJ s4.2.length s4.1) λj7=>bnd (s4.2[j7]?) λx8=>bnd (jR x8.mr) λy9=>bnd (lJ s4.2.length s4.1) λj10=>bnd (s4.2[j10]?) λx11=>k5 ((iq s4.1 1),(s4.2.set j10 { x11 with mr:=y9 }))) (some { a with mr:=y1,specs:=y2,kR:=s4.2 })
def rZ (a:iP):Option iP := bnd (jR a.mr) λy1=>bnd (oC a.specs) λy2=>bnd (qc a.kR) λy3=>gK (uG a y1 y2 y3) (0,y3)
def yM (s:List qF):Option (List qF) := rD (some ([])) (kF (0+s.length) 16 ( some s))
def xI (s:List iL):Option (List iL) := rD (some ([])) (kF (0+s.length) 768 ( some s))
def Bj (s:List pM):Option (List pM) := rD (some ([])) (kF (0+s.length) 80 ( some s))
def Bl (s:gB)(s2:Int×(List jP))(y10:List iw)(y11:List Int)(y12:List Int)(s14:Int×(List og))(s28:Int×(List iL))(y36:List pM)(s37:Int×(List pM))(k38:(Int×(List pM))->Option gB):Option gB := br (decide (s37.1<(gJ y36))) (bnd (lJ s37.2.length s37.1) λj40=>bnd (s37.2[j40]?) λx41=>bnd (slices_Clone_int x41.objects) λy42=>bnd (lJ s37.2.length s37.1) λj43=>bnd (s37.2[j43]?) λx44=>bnd (lJ s37.2.length s37.1) λj45=>bnd ((s37.2.set j43 { x44 with objects:=y42 })[j45]?) λx46=>bnd (jR x46.mr) λy47=>bnd (lJ s37.2.length s37.1) λj48=>bnd ((s37.2.set j43 { x44 with objects:=y42 })[j48]?) λx49=>k38 ((iq s37.1 1),((s37.2.set j43 { x44 with objects:=y42 }).set j48 { x49 with mr:=y47 }))) (bnd (slices_Clone_int s.extra) λy50=>some { s with iJ:=s2.2,objects:=y10,jd:=y11,qK:=y12,stack:=s14.2,waiting:=s28.2,kW:=s37.2,extra:=y50 })
def Bo (s:gB)(s2:Int×(List jP))(y10:List iw)(y11:List Int)(y12:List Int)(s14:Int×(List og))(y27:List iL)(s28:Int×(List iL))(k29:(Int×(List iL))->Option gB):Option gB := br (decide (s28.1<(gJ y27))) (bnd (lJ s28.2.length s28.1) λj31=>bnd (s28.2[j31]?) λx32=>bnd (rZ x32.jr) λy33=>bnd (lJ s28.2.length s28.1) λj34=>bnd (s28.2[j34]?) λx35=>k29 ((iq s28.1 1),(s28.2.set j34 { x35 with jr:=y33 }))) (bnd (Bj s.kW) λy36=>gK (Bl s s2 y10 y11 y12 s14 s28 y36) (0,y36))
def Bq (s:gB)(s2:Int×(List jP))(y10:List iw)(y11:List Int)(y12:List Int)(y13:List og)(s14:Int×(List og))(k15:(Int×(List og))->Option gB):Option gB := br (decide (s14.1<(gJ y13))) (bnd (lJ s14.2.length s14.1) λj17=>bnd (s14.2[j17]?) λx18=>bnd (rZ x18.jr) λy19=>bnd (lJ s14.2.length s14.1) λj20=>bnd (s14.2[j20]?) λx21=>bnd (lJ s14.2.length s14.1) λj22=>bnd ((s14.2.set j20 { x21 with jr:=y19 })[j22]?) λx23=>bnd (yM x23.targets) λy24=>bnd (lJ s14.2.length s14.1) λj25=>bnd ((s14.2.set j20 { x21 with jr:=y19 })[j25]?) λx26=>k15 ((iq s14.1 1),((s14.2.set j20 { x21 with jr:=y19 }).set j25 { x26 with targets:=y24 }))) (bnd (xI s.waiting) λy27=>gK (Bo s s2 y10 y11 y12 s14 y27) (0,y27))
def Bv (s:gB)(y1:List jP)(s2:Int×(List jP))(k3:(Int×(List jP))->Option gB):Option gB := br (decide (s2.1<(gJ y1))) (bnd (lJ s2.2.length s2.1) λj5=>bnd (s2.2[j5]?) λx6=>bnd (zI x6) λy7=>bnd (lJ s2.2.length s2.1) λj8=>bnd (s2.2[j8]?) λx9=>k3 ((iq s2.1 1),(s2.2.set j8 y7))) (bnd (yL s.objects) λy10=>bnd (slices_Clone_int s.jd) λy11=>bnd (slices_Clone_int s.qK) λy12=>bnd (Bi s.stack) λy13=>gK (Bq s s2 y10 y11 y12 y13) (0,y13))
def uZ (s:gB):Option gB := bnd (yK s.iJ) λy1=>gK (Bv s y1) (0,y1)
def RI (cards:List iZ)(s:gB)(all:List gG)(pe:kz):Option gB :=
 bnd (uZ s) λy1=>
 bnd (Gl cards s pe) λy2=>
 br (y2==false) (some y1)
 (br (decide (pe.kind=2)) (none)
 (br (decide (pe.kind=10)) (none)
 (br (decide (pe.kind=3)) (none)
 (br (decide (pe.kind=4)) (none)
 (br (decide (pe.kind=5)) (none)
 (br (decide (pe.kind=16)) (none)
 (br (decide (pe.kind=17)) (none)
 (br (decide (pe.kind=1)) (none)
 (br (decide (pe.kind=6)) (jn (λs3:(List iw)=>
 bnd (xH { y1 with objects:=s3 } pe.source) λy10=>
 (match y10 with
 | none=>(br (decide (pe.kind=13)) (some { y1 with objects:=s3 })
 (some { y1 with objects:=s3 }))
 | some j11=>(br (decide (pe.kind=13)) (lt true λx12=>
 bnd (s3[j11]?) λx13=>
 some { y1 with objects:=(s3.set j11 { x13 with blocked:=x12 }) })
 (some { y1 with objects:=s3 })))) λk4=>
 bnd (xH y1 pe.object) λy6=>
 (match y6 with
 | none=>(k4 y1.objects)
 | some j7=>(bnd (Gv s all pe.source) λy8=>
 bnd (D6 y1.objects j7 y8 pe) λy9=>
 k4 y9)))
 (br (decide (pe.kind=7)) (none)
 (br (decide (pe.kind=8)) (none)
 (br (decide (pe.kind=9)) (none)
 (br (decide (pe.kind=12)) (jn (λs14:(List iw)=>
 bnd (xH { y1 with objects:=s14 } pe.source) λy21=>
 (match y21 with
 | none=>(br (decide (pe.kind=13)) (some { y1 with objects:=s14 })
 (some { y1 with objects:=s14 }))
 | some j22=>(br (decide (pe.kind=13)) (lt true λx23=>
 bnd (s14[j22]?) λx24=>
 some { y1 with objects:=(s14.set j22 { x24 with blocked:=x23 }) })
 (some { y1 with objects:=s14 })))) λk15=>
 bnd (xH y1 pe.object) λy17=>
 (match y17 with
 | none=>(k15 y1.objects)
 | some j18=>(bnd (Gv s all pe.source) λy19=>
 bnd (D6 y1.objects j18 y19 pe) λy20=>
 k15 y20)))
 (br (decide (pe.kind=13)) (none)
 (some y1)))))))))))))))
def zJ (s:gB)(all:List gG)(earlier:Bool):Option (gB×(List gG)×Bool) := some (s,all,earlier)
def IM (vals:List Int)(s1:Int)(k2:Int->Option Int):Option Int := br (decide (s1<(gJ vals))) (bnd (jl vals s1) λx4=>br (!decide (x4=0)) (some x4) (k2 (iq s1 1))) (some 0)
def OY (vals:List Int):Option Int := gK (IM vals) 0
def oJ (a:gq)(b:gq):Option Int := bnd (cmp_Compare_int a.id b.id) λy1=>bnd (cmp_Compare_int a.index b.index) λy2=>bnd (OY ([y1,y2])) λy3=>some y3
def nU (a:Int)(cmp:gq->gq->Option Int)(s1:Int×(List gq))(k2:(Int×(List gq))->Option (List gq))(s4:Int×(List gq))(k5:(Int×(List gq))->Option (List gq)):Option (List gq) := jn (λs7:Bool=>br s7 (bnd (lJ s4.2.length (qI s4.1 1)) λj15=>bnd (s4.2[j15]?) λx16=>bnd (lJ s4.2.length s4.1) λj17=>bnd (s4.2[j17]?) λx18=>bnd (lJ s4.2.length s4.1) λj19=>bnd (s4.2[j19]?) λx20=>bnd (lJ s4.2.length (qI s4.1 1)) λj21=>bnd ((s4.2.set j19 x16)[j21]?) λx22=>k5 ((qI s4.1 1),((s4.2.set j19 x16).set j21 x18))) (k2 ((iq s1.1 1),s4.2))) λk8=>br (decide (a<s4.1)) (bnd (lJ s4.2.length s4.1) λj10=>bnd (s4.2[j10]?) λx11=>bnd (lJ s4.2.length (qI s4.1 1)) λj12=>bnd (s4.2[j12]?) λx13=>bnd (cmp x11 x13) λy14=>k8 (decide (y14<0))) (k8 false)
def nV (a:Int)(b:Int)(cmp:gq->gq->Option Int)(s1:Int×(List gq))(k2:(Int×(List gq))->Option (List gq)):Option (List gq) := br (decide (s1.1<b)) (gK (nU a cmp s1 k2) (s1.1,s1.2)) (some s1.2)
def jF (data:List gq)(a:Int)(b:Int)(cmp:gq->gq->Option Int):Option (List gq) := gK (nV a b cmp) ((iq a 1),data)
def mM (a:Int)(b:Int)(n:Int)(s1:Int×(List gq))(k2:(Int×(List gq))->Option (List gq)):Option (List gq) := br (decide (s1.1<n)) (bnd (lJ s1.2.length (iq b s1.1)) λj4=>bnd (s1.2[j4]?) λx5=>bnd (lJ s1.2.length (iq a s1.1)) λj6=>bnd (s1.2[j6]?) λx7=>bnd (lJ s1.2.length (iq a s1.1)) λj8=>bnd (s1.2[j8]?) λx9=>bnd (lJ s1.2.length (iq b s1.1)) λj10=>bnd ((s1.2.set j8 x5)[j10]?) λx11=>k2 ((iq s1.1 1),((s1.2.set j8 x5).set j10 x7))) (some s1.2)
def jG (data:List gq)(a:Int)(b:Int)(n:Int)(cmp:gq->gq->Option Int):Option (List gq) := gK (mM a b n) (0,data)
def nO (m:Int)(cmp:gq->gq->Option Int)(s1:Int×Int×(List gq))(k2:(Int×Int×(List gq))->Option (List gq)):Option (List gq) := br (!decide (s1.1=s1.2.1)) (br (decide (s1.2.1<s1.1)) (bnd (jG s1.2.2 (qI m s1.1) m s1.2.1 cmp) λy4=>k2 ((qI s1.1 s1.2.1),s1.2.1,y4)) (bnd (jG s1.2.2 (qI m s1.1) (qI (iq m s1.2.1) s1.1) s1.1 cmp) λy5=>k2 (s1.1,(qI s1.2.1 s1.1),y5))) (bnd (jG s1.2.2 (qI m s1.1) m s1.1 cmp) λy6=>some y6)
def kH (data:List gq)(a:Int)(m:Int)(b:Int)(cmp:gq->gq->Option Int):Option (List gq) := gK (nO m cmp) ((qI m a),(qI b m),data)
def mW (s1:Int×Int)(s10:Int×(List gq))(k11:(Int×(List gq))->Option (List gq)):Option (List gq) := br (decide (s10.1<(qI s1.1 1))) (bnd (lJ s10.2.length (iq s10.1 1)) λj13=>bnd (s10.2[j13]?) λx14=>bnd (lJ s10.2.length s10.1) λj15=>bnd (s10.2[j15]?) λx16=>bnd (lJ s10.2.length s10.1) λj17=>bnd (s10.2[j17]?) λx18=>bnd (lJ s10.2.length (iq s10.1 1)) λj19=>bnd ((s10.2.set j17 x14)[j19]?) λx20=>k11 ((iq s10.1 1),((s10.2.set j17 x14).set j19 x16))) (some s10.2)
def mX (data:List gq)(a:Int)(cmp:gq->gq->Option Int)(s1:Int×Int)(k2:(Int×Int)->Option (List gq)):Option (List gq) := br (decide (s1.1<s1.2)) (bnd (kT .shr .u64 (IntKind.wrap .u64 (iq s1.1 s1.2)) 1) λx4=>bnd (lJ data.length (IntKind.wrap .i64 x4)) λj5=>bnd (data[j5]?) λx6=>bnd (lJ data.length a) λj7=>bnd (data[j7]?) λx8=>bnd (cmp x6 x8) λy9=>br (decide (y9<0)) (k2 ((iq (IntKind.wrap .i64 x4) 1),s1.2)) (k2 (s1.1,(IntKind.wrap .i64 x4)))) (gK (mW s1) (a,data))
def mY (s21:Int×Int)(s30:Int×(List gq))(k31:(Int×(List gq))->Option (List gq)):Option (List gq) := br (decide (s21.1<s30.1)) (bnd (lJ s30.2.length (qI s30.1 1)) λj33=>bnd (s30.2[j33]?) λx34=>bnd (lJ s30.2.length s30.1) λj35=>bnd (s30.2[j35]?) λx36=>bnd (lJ s30.2.length s30.1) λj37=>bnd (s30.2[j37]?) λx38=>bnd (lJ s30.2.length (qI s30.1 1)) λj39=>bnd ((s30.2.set j37 x34)[j39]?) λx40=>k31 ((qI s30.1 1),((s30.2.set j37 x34).set j39 x36))) (some s30.2)
def mZ (data:List gq)(m:Int)(cmp:gq->gq->Option Int)(s21:Int×Int)(k22:(Int×Int)->Option (List gq)):Option (List gq) := br (decide (s21.1<s21.2)) (bnd (kT .shr .u64 (IntKind.wrap .u64 (iq s21.1 s21.2)) 1) λx24=>bnd (lJ data.length m) λj25=>bnd (data[j25]?) λx26=>bnd (lJ data.length (IntKind.wrap .i64 x24)) λj27=>bnd (data[j27]?) λx28=>bnd (cmp x26 x28) λy29=>br ((decide (y29<0))==false) (k22 ((iq (IntKind.wrap .i64 x24) 1),s21.2)) (k22 (s21.1,(IntKind.wrap .i64 x24)))) (gK (mY s21) (m,data))
def ng (slices_symMergeCmpFunc_watcher_r:(List gq)->(Int)->(Int)->(Int)->(gq->gq->Option Int)->Option (List gq))(data:List gq)(a:Int)(m:Int)(b:Int)(cmp:gq->gq->Option Int)(x41:Int)(s45:Int×Int)(k46:(Int×Int)->Option (List gq)):Option (List gq) := br (decide (s45.1<s45.2)) (bnd (kT .shr .u64 (IntKind.wrap .u64 (iq s45.1 s45.2)) 1) λx48=>lt (qI (qI (iq (IntKind.wrap .i64 x41) m) 1) (IntKind.wrap .i64 x48)) λv49=>bnd (lJ data.length v49) λj50=>bnd (data[j50]?) λx51=>bnd (lJ data.length (IntKind.wrap .i64 x48)) λj52=>bnd (data[j52]?) λx53=>bnd (cmp x51 x53) λy54=>br ((decide (y54<0))==false) (k46 ((iq (IntKind.wrap .i64 x48) 1),s45.2)) (k46 (s45.1,(IntKind.wrap .i64 x48)))) (jn (λs55:(List gq)=>jn (λs62:(List gq)=>lt (decide ((IntKind.wrap .i64 x41)<(qI (iq (IntKind.wrap .i64 x41) m) s45.1))) λv69=>br v69 (br (decide ((qI (iq (IntKind.wrap .i64 x41) m) s45.1)<b)) (bnd (slices_symMergeCmpFunc_watcher_r s62 (IntKind.wrap .i64 x41) (qI (iq (IntKind.wrap .i64 x41) m) s45.1) b cmp) λy70=>some y70) (some s62)) (some s62)) λk63=>jn (λs65:Bool=>br s65 (bnd (slices_symMergeCmpFunc_watcher_r s55 a s45.1 (IntKind.wrap .i64 x41) cmp) λy68=>k63 y68) (k63 s55)) λk66=>br (decide (a<s45.1)) (k66 (decide (s45.1<(IntKind.wrap .i64 x41)))) (k66 false)) λk56=>jn (λs58:Bool=>br s58 (bnd (kH data s45.1 m (qI (iq (IntKind.wrap .i64 x41) m) s45.1) cmp) λy61=>k56 y61) (k56 data)) λk59=>br (decide (s45.1<m)) (k59 (decide (m<(qI (iq (IntKind.wrap .i64 x41) m) s45.1)))) (k59 false))
def nI (slices_symMergeCmpFunc_watcher_r:(List gq)->(Int)->(Int)->(Int)->(gq->gq->Option Int)->Option (List gq))(data:List gq)(a:Int)(m:Int)(b:Int)(cmp:gq->gq->Option Int):Option (List gq) := br (decide ((qI m a)=1)) (gK (mX data a cmp) (m,b)) (br (decide ((qI b m)=1)) (gK (mZ data m cmp) (a,m)) (bnd (kT .shr .u64 (IntKind.wrap .u64 (iq a b)) 1) λx41=>jn (λs42:Int×Int=>gK (ng slices_symMergeCmpFunc_watcher_r data a m b cmp x41) (s42.1,s42.2)) λk43=>br (decide ((IntKind.wrap .i64 x41)<m)) (k43 ((qI (iq (IntKind.wrap .i64 x41) m) b),(IntKind.wrap .i64 x41))) (k43 (a,m))))
def jh:Nat->(List gq)->(Int)->(Int)->(Int)->(gq->gq->Option Int)->Option (List gq)
 | 0=>λ_ _ _ _ _=>none
 | n+1=>nI (jh n)
def l7:(List gq)->(Int)->(Int)->(Int)->(gq->gq->Option Int)->Option (List gq):=jh 70
def nP (n:Int)(cmp:gq->gq->Option Int)(s6:Int×(List gq))(k7:(Int×(List gq))->Option (List gq))(s9:Int×Int×(List gq))(k10:(Int×Int×(List gq))->Option (List gq)):Option (List gq) := br (decide (s9.2.1<=n)) (bnd (l7 s9.2.2 s9.1 (iq s9.1 s6.1) s9.2.1 cmp) λy12=>k10 (s9.2.1,(iq s9.2.1 (X8 2 s6.1)),y12)) (jn (λs13:(List gq)=>k7 ((X8 s6.1 2),s13)) λk14=>br (decide ((iq s9.1 s6.1)<n)) (bnd (l7 s9.2.2 s9.1 (iq s9.1 s6.1) n cmp) λy16=>k14 y16) (k14 s9.2.2))
def nR (n:Int)(cmp:gq->gq->Option Int)(s6:Int×(List gq))(k7:(Int×(List gq))->Option (List gq)):Option (List gq) := br (decide (s6.1<n)) (gK (nP n cmp s6 k7) (0,(X8 2 s6.1),s6.2)) (some s6.2)
def nS (n:Int)(cmp:gq->gq->Option Int)(s1:Int×Int×(List gq))(k2:(Int×Int×(List gq))->Option (List gq)):Option (List gq) := br (decide (s1.2.1<=n)) (bnd (jF s1.2.2 s1.1 s1.2.1 cmp) λy4=>k2 (s1.2.1,(iq s1.2.1 20),y4)) (bnd (jF s1.2.2 s1.1 n cmp) λy5=>gK (nR n cmp) (20,y5))
def kJ (data:List gq)(n:Int)(cmp:gq->gq->Option Int):Option (List gq) := gK (nS n cmp) (0,20,data)
def kE (x:List gq)(cmp:gq->gq->Option Int):Option (List gq) := bnd (kJ x (gJ x) cmp) λy1=>some y1
def ug (a:iP)(y1:List lZ)(y2:List sH)(y3:List jg)(s4:Int×(List jg))(k5:(Int×(List jg))->Option iP):Option iP := br (decide (s4.1<(gJ y3))) (bnd (lJ s4.2.length s4.1) λj7=>bnd (s4.2[j7]?) λx8=>bnd (jR x8.mr) λy9=>bnd (lJ s4.2.length s4.1) λj10=>bnd (s4.2[j10]?) λx11=>k5 ((iq s4.1 1),(s4.2.set j10 { x11 with mr:=y9 }))) (some { a with mr:=y1,specs:=y2,kR:=s4.2 })
def rf (a:iP):Option iP := bnd (jR a.mr) λy1=>bnd (oC a.specs) λy2=>bnd (qc a.kR) λy3=>gK (ug a y1 y2 y3) (0,y3)
def Fh (when:Int):Option Int := br (decide (when=8)) (some 3) (br (decide (when=10)) (some 14) (br (decide (when=11)) (some 15) (br (decide (when=12)) (some 4) (br (decide (when=13)) (some 5) (br (decide (when=9)) (some 11) (some 0))))))
def Fj (s:gB)(p:Int)(you:Int)(who:Int):Option Bool := jn (λs1:Bool=>br s1 (some false) (br (decide (who=0)) (some true) (br (decide (who=1)) (some (decide (p=you))) (br (decide (who=2)) (some (!decide (p=you))) (some false))))) λk2=>br (decide (p<0)) (k2 true) (br (decide ((gJ s.iJ)<=p)) (k2 true) (bnd (jl s.iJ p) λx4=>k2 x4.lost))
def Bz (all:List gG)(i:Int):Option gG := br (decide (i<(gJ all))) (bnd (jl all i) λx1=>some x1) (some yU)
def IP (s:gB)(all:List gG)(w:gq)(id:Int)(s1:Int)(k2:Int->Option Bool):Option Bool := br (decide (s1<(gJ s.objects))) (bnd (jl s.objects s1) λx4=>br (decide (x4.id=id)) (bnd (Bz all s1) λy5=>bnd (oL x4 y5 w.you w.id w.jr.iK.filter) λy6=>some y6) (k2 (iq s1 1))) (some false)
def Gw (s:gB)(all:List gG)(w:gq)(id:Int):Option Bool := gK (IP s all w id) 0
def ny (kind:Int)(id:Int)(s:gB)(all:List gG)(c4:kK)(c5:gq):Option (List Int) := br (decide (c4.e.kind=kind)) (bnd (Gw s all c5 id) λy1=>br y1 (some ([id])) (some ([]))) (some ([]))
def BA (o:iw)(c1:kK):Option Bool := br (decide (o.id=c1.e.object)) (some (decide (o.jE=0))) (some false)
def l9 (s:List iw)(f:iw->Option Bool):Option Bool := bnd (jK s f) λy1=>some (decide (0<=y1))
def BB (o:iw)(c1:kK):Option Bool := some (decide (o.id=c1.e.object))
def Gx (c:kK):Option Bool := bnd (l9 c.before.objects (λa0=>BA a0 c)) λy1=>bnd (l9 c.after.objects (λa0=>BB a0 c)) λy2=>br (decide (c.e.kind=2)) (br y1 (some (y2==false)) (some false)) (some false)
def BC (c:kK)(w:gq):Option (List Int) := br (decide (w.jr.iK.when=1)) (jn (λs1:Bool=>br s1 (some ([])) (none)) λk2=>br (!decide (c.e.kind=2)) (k2 (!decide (c.e.kind=10))) (k2 false)) (br (decide (w.jr.iK.when=2)) (bnd (Gx c) λy4=>br y4 (bnd (ny 2 c.e.object c.before c.nK c w) λy5=>some y5) (some ([]))) (br (decide (w.jr.iK.when=3)) (jn (λs6:Bool=>br s6 (bnd (ny 2 c.e.object c.before c.nK c w) λy10=>some y10) (some ([]))) λk7=>bnd (Gx c) λy9=>br y9 (k7 (decide (c.e.to=3))) (k7 false)) (br (decide (w.jr.iK.when=4)) (bnd (ny 12 c.e.object c.after c.oV c w) λy11=>some y11) (br (decide (w.jr.iK.when=5)) (bnd (ny 13 c.e.object c.after c.oV c w) λy12=>some y12) (br (decide (w.jr.iK.when=14)) (bnd (ny 8 c.e.object c.after c.oV c w) λy13=>some y13) (br (decide (w.jr.iK.when=6)) (bnd (ny 1 c.e.source c.before c.nK c w) λy14=>some y14) (br (decide (w.jr.iK.when=7)) (br (!decide (c.e.object=0)) (bnd (ny 1 c.e.object c.before c.nK c w) λy15=>some y15) (some ([]))) (some ([])))))))))
def yw (c:kK)(w:gq)(y11:List Int)(s12:Int×(List iL))(k13:(Int×(List iL))->Option (List iL)):Option (List iL) := br (decide (s12.1<(gJ y11))) (jn (λs15:(List iL)=>k13 ((iq s12.1 1),s15)) λk16=>bnd (jl y11 s12.1) λx18=>bnd (rf w.jr) λy19=>jn (λs20:Int=>kF (s12.2.length+([(iL.mk w.id w.you y19 { c.e with object:=s20 })]).length) 768 ( k16 (s12.2++[(iL.mk w.id w.you y19 { c.e with object:=s20 })]))) λk21=>jn (λs23:Bool=>br s23 (k21 x18) (k21 c.e.object)) λk24=>br (decide (w.jr.iK.when=1)) (k24 true) (k24 (decide (w.jr.iK.when=6)))) (some s12.2)
def zf (c:kK)(w:gq):Option (List iL) := bnd (rf w.jr) λy1=>bnd (Fh w.jr.iK.when) λy2=>br (!decide (y2=0)) (jn (λs3:Bool=>jn (λs7:Bool=>br s7 (some ([])) (some ([(iL.mk w.id w.you y1 c.e)]))) λk8=>br (s3==false) (k8 true) (br (decide (w.jr.iK.when=9)) (bnd (Gw c.after c.oV w c.e.object) λy10=>k8 (y10==false)) (k8 false))) λk4=>br (decide (c.e.kind=y2)) (bnd (Fj c.after c.e.mV w.you w.jr.iK.who) λy6=>k4 y6) (k4 false)) (bnd (BC c w) λy11=>gK (yw c w y11) (0,[]))
def zK (when:Int):Option Bool := br (decide (when=2)) (some true) (br (decide (when=3)) (some true) (br (decide (when=6)) (some true) (some (decide (when=7)))))
def ve (a0:List gq)(a1:gq):Option (Bool×(List gq)) := kF (a0.length+([a1]).length) 672 ( some (true,(a0++[a1])))
def vg (c3:Bool)(k5:(List gq)->Option (List gq))(y8:gG)(s9:iw×Int×(List gq))(k10:(iw×Int×(List gq))->Option (List gq)):Option (List gq) := br (decide (s9.2.1<(gJ y8.gU))) (jn (λs12:iw×(List gq)=>k10 (s12.1,(iq s9.2.1 1),s12.2)) λk13=>bnd (jl y8.gU s9.2.1) λx15=>jn (λs16:Bool=>br s16 (k13 (s9.1,s9.2.2)) (bnd (ve s9.2.2 (gq.mk s9.1.id s9.2.1 y8.control x15 c3)) λy20=>br (y20.1==false) (some y20.2) (k13 (s9.1,y20.2)))) λk17=>br (!decide (x15.kind=4)) (k17 true) (bnd (zK x15.iK.when) λy19=>k17 ((y19==c3)==false))) (k5 s9.2.2)
def rq (c1:gB)(c2:List gG)(c3:Bool)(s1:Int×(List gq))(k2:(Int×(List gq))->Option (List gq)):Option (List gq) := br (decide (s1.1<(gJ c1.objects))) (jn (λs4:(List gq)=>k2 ((iq s1.1 1),s4)) λk5=>bnd (jl c1.objects s1.1) λx7=>br (!decide (x7.jE=0)) (k5 s1.2) (bnd (Bz c2 s1.1) λy8=>gK (vg c3 k5 y8) (x7,0,s1.2))) (some s1.2)
def pg (yield:List gq)(c1:gB)(c2:List gG)(c3:Bool):Option (List gq) := gK (rq c1 c2 c3) (0,yield)
def BD (before:gB)(nK:List gG)(after:gB)(oV:List gG)(pe:kz)(y5:List gq)(s6:Int×(List iL)×(List gq))(k7:(Int×(List iL)×(List gq))->Option (List iL)):Option (List iL) := br (decide (s6.1<(gJ y5))) (bnd (lJ s6.2.2.length s6.1) λj9=>bnd (s6.2.2[j9]?) λx10=>bnd (zf (kK.mk before after nK oV pe) x10) λy11=>kF (s6.2.1.length+y11.length) 768 ( k7 ((iq s6.1 1),(s6.2.1++y11),s6.2.2))) (some s6.2.1)
def xJ (before:gB)(nK:List gG)(after:gB)(oV:List gG)(pe:kz):Option (List iL) := bnd (zJ before nK true) λy1=>bnd (pg ([]) y1.1 y1.2.1 y1.2.2) λy2=>bnd (zJ after oV false) λy3=>bnd (pg y2 y3.1 y3.2.1 y3.2.2) λy4=>bnd (kE y4 oJ) λy5=>gK (BD before nK after oV pe y5) (0,[],y5)
def D7 (pe:kz)(y2:gB)(y4:List iL)(s5:Int×(List iL))(k6:(Int×(List iL))->Option gB):Option gB := br (decide (s5.1<(gJ y4))) (jn (λs8:(List iL)=>k6 ((iq s5.1 1),s8)) λk9=>bnd (jl y4 s5.1) λx11=>br (decide ((gJ s5.2)<64)) (kF (s5.2.length+([x11]).length) 768 ( k9 (s5.2++[x11]))) (k9 s5.2)) (br (!decide (pe.kind=1)) (some { y2 with waiting:=s5.2 }) (none))
def BF (k:iH)(cards:List iZ)(s:gB)(pe:kz):Option gB := bnd (qZ cards s) λy1=>bnd (RI cards s y1 pe) λy2=>bnd (qZ cards y2) λy3=>bnd (xJ s y1 y2 y3 pe) λy4=>gK (D7 pe y2 y4) (0,y2.waiting)
def QG (y12:gB)(s13:Unit)(k14:Unit->Option gB):Option gB := br (decide (0<0)) (none) (some y12)
def LZ (k:iH)(cards:List iZ)(s:gB)(pe:kz)(add:Bool):Option gB := bnd (EG k cards s pe add) λy1=>jn (λs2:Bool=>br s2 (some y1.1) (jn (λs6:Unit=>bnd (BF k cards y1.1 y1.2.1) λy12=>gK (QG y12) ()) λk7=>jn (λs9:Bool=>br s9 (none) (k7 ())) λk10=>br (decide (y1.2.1.kind=3)) (k10 (decide (1<y1.2.1.amount))) (k10 false))) λk3=>br (y1.2.2==false) (k3 true) (bnd (Gl cards y1.1 y1.2.1) λy5=>k3 (y5==false))
def Gy (k:iH)(cards:List iZ)(s:gB)(pe:kz):Option gB := bnd (LZ k cards s pe true) λy1=>some y1
def Eu (s:gB)(s1:Int×(List Int))(k2:(Int×(List Int))->Option (List Int)):Option (List Int) := br (decide (s1.1<(gJ s.iJ))) (jn (λs4:(List Int)=>k2 ((iq s1.1 1),s4)) λk5=>bnd (jl s.iJ s1.1) λx7=>br (x7.lost==false) (kF (s1.2.length+([s1.1]).length) 8 ( k5 (s1.2++[s1.1]))) (k5 s1.2)) (some s1.2)
def Fp (s:gB):Option (List Int) := gK (Eu s) (0,[])
def Ew (s1:Int)(y7:List Int)(s8:Int×(List Int)×(List Int))(k9:(Int×(List Int)×(List Int))->Option (List Int)):Option (List Int) := br (decide (s8.1<(gJ y7))) (jn (λs11:(List Int)×(List Int)=>k9 ((iq s8.1 1),s11.1,s11.2)) λk12=>bnd (jl y7 s8.1) λx14=>bnd (cmp_Compare_int x14 s1) λy15=>br (decide (y15=(-1))) (kF (s8.2.1.length+([x14]).length) 8 ( k12 ((s8.2.1++[x14]),s8.2.2))) (br (decide (y15=1)) (kF (s8.2.2.length+([x14]).length) 8 ( k12 (s8.2.1,(s8.2.2++[x14])))) (k12 (s8.2.1,s8.2.2)))) (kF (s8.2.2.length+s8.2.1.length) 8 ( some (s8.2.2++s8.2.1)))
def vY (s:gB)(p:Int):Option (List Int) := jn (λs1:Int=>bnd (Fp s) λy7=>gK (Ew s1 y7) (0,[],[])) λk2=>jn (λs4:Bool=>br s4 (k2 (-1)) (k2 p)) λk5=>br (decide (p<0)) (k5 true) (k5 (decide ((gJ s.iJ)<=p)))
def Ku (s:gB)(o:iw)(t:gG):Option Bool := jn (λs1:Bool=>br s1 (some false) (jn (λs4:Bool=>br s4 (some false) (bnd (qh t.keys 1024) λy8=>br (y8==false) (bnd (qh t.keys 16384) λy9=>some (y9==false)) (some false))) λk5=>br o.OJ (bnd (qh t.keys 4) λy7=>k5 (y7==false)) (k5 false))) λk2=>br (!decide (o.jE=0)) (k2 true) (br (decide ((nC .and .i64 t.line.types 1)=0)) (k2 true) (br (!decide (t.control=s.mJ)) (k2 true) (k2 o.pK)))
def Gz (y1:List Int)(k6:(List gX)->Option (List gX))(x8:iw)(s14:Int×(List gX))(k15:(Int×(List gX))->Option (List gX)):Option (List gX) := br (decide (s14.1<(gJ y1))) (bnd (jl y1 s14.1) λx17=>lt (gX.mk 7 x8.id x17) λx18=>kF (s14.2.length+([x18]).length) 24 ( k15 ((iq s14.1 1),(s14.2++[x18])))) (k6 s14.2)
def GG (s:gB)(all:List gG)(y1:List Int)(s2:Int×(List gX))(k3:(Int×(List gX))->Option (List gX)):Option (List gX) := br (decide (s2.1<(gJ s.objects))) (jn (λs5:(List gX)=>k3 ((iq s2.1 1),s5)) λk6=>bnd (jl s.objects s2.1) λx8=>jn (λs9:Bool=>br s9 (k6 s2.2) (gK (Gz y1 k6 x8) (0,s2.2))) λk10=>br (decide ((gJ all)<=s2.1)) (k10 true) (bnd (jl all s2.1) λx12=>bnd (Ku s x8 x12) λy13=>k10 (y13==false))) (some s2.2)
def uh (s:gB)(all:List gG):Option (List gX) := bnd (vY s s.mJ) λy1=>gK (GG s all y1) (0,[])
def BG (x:gX)(c1:gX):Option Bool := some (decide (x.a=c1.a))
def mf (s:List gX)(f:gX->Option Bool):Option Bool := bnd (nM s f) λy1=>some (decide (0<=y1))
def BH (x:gX)(c1:Int):Option Bool := some (decide (x.a=c1))
def Kv (o:iw)(c1:Int):Option Bool := some (decide (o.id=c1))
def CQ (s:gB)(all:List gG)(id:Int)(key:Int):Option Bool := bnd (jK s.objects (λa0=>Kv a0 id)) λy1=>br (decide (0<=y1)) (br (decide (y1<(gJ all))) (bnd (jl all y1) λx2=>bnd (qh x2.keys key) λy3=>some y3) (some false)) (some false)
def GH (s:gB)(all:List gG)(y1:List gX)(s2:Int×(List Int))(k3:(Int×(List Int))->Option (List Int)):Option (List Int) := br (decide (s2.1<(gJ y1))) (jn (λs5:(List Int)=>k3 ((iq s2.1 1),s5)) λk6=>bnd (jl y1 s2.1) λx8=>jn (λs9:Bool=>br s9 (kF (s2.2.length+([x8.a]).length) 8 ( k6 (s2.2++[x8.a]))) (k6 s2.2)) λk10=>bnd (CQ s all x8.a 65536) λy12=>br y12 (bnd (slices_Contains_int s2.2 x8.a) λy13=>k10 (y13==false)) (k10 false)) (some s2.2)
def D8 (s:gB)(all:List gG):Option (List Int) := bnd (uh s all) λy1=>gK (GH s all y1) (0,[])
def Ey (l:List gX)(y12:List Int)(s13:Int)(k14:Int->Option Int):Option Int := br (decide (s13<(gJ y12))) (bnd (jl y12 s13) λx16=>bnd (mf l (λa0=>BH a0 x16)) λy17=>br (y17==false) (some 18) (k14 (iq s13 1))) (some 0)
def Ez (s:gB)(all:List gG)(l:List gX)(y1:List gX)(s2:Int)(k3:Int->Option Int):Option Int := br (decide (s2<(gJ l))) (bnd (jl l s2) λx5=>bnd (lI l.length 0 s2) λx6=>bnd (mf (Um l x6.1 (x6.2-x6.1)) (λa0=>BG a0 x5)) λy7=>jn (λs8:Bool=>br s8 (some 18) (k3 (iq s2 1))) λk9=>br y7 (k9 true) (bnd (pU y1 x5) λy11=>k9 (y11==false))) (bnd (D8 s all) λy12=>gK (Ey l y12) 0)
def vZ (s:gB)(all:List gG)(l:List gX):Option Int := bnd (uh s all) λy1=>gK (Ez s all l y1) 0
def slices_Sort_int (x:List Int):Option (List Int):=ae6 x
def CU (y1:List Int)(y2:List Int)(s3:Int×(List gX))(k4:(Int×(List gX))->Option (List gX)):Option (List gX) := br (decide (s3.1<(gJ y2))) (bnd (jl y2 s3.1) λx6=>bnd (jl y1 0) λx7=>lt (gX.mk 7 x6 x7) λx8=>kF (s3.2.length+([x8]).length) 24 ( k4 ((iq s3.1 1),(s3.2++[x8])))) (some s3.2)
def zg (s:gB)(all:List gG):Option (List gX) := bnd (vY s s.mJ) λy1=>bnd (D8 s all) λy2=>gK (CU y1 y2) (0,[])
def L6 (cards:List iZ)(y3:(List Int)×iH)(s11:(List gX))(s27:gB×Int)(k28:(gB×Int)->Option (gB×Bool×iH)):Option (gB×Bool×iH) := br (decide (s27.2<(gJ s11))) (bnd (jl s11 s27.2) λx30=>bnd (Gy y3.2 cards s27.1 (kz.mk 12 0 x30.a x30.b 0 0 0 0 0 0 false false Ll)) λy31=>k28 (y31,(iq s27.2 1))) (some (s27.1,true,y3.2))
def L8 (cards:List iZ)(s:gB)(y1:List gG)(y3:(List Int)×iH)(s11:(List gX))(s18:gB×Int)(k19:(gB×Int)->Option (gB×Bool×iH)):Option (gB×Bool×iH) := br (decide (s18.2<(gJ s11))) (jn (λs21:gB=>k19 (s21,(iq s18.2 1))) λk22=>bnd (jl s11 s18.2) λx24=>bnd (CQ s y1 x24.a 8) λy25=>br (y25==false) (bnd (Gy y3.2 cards s18.1 (kz.mk 6 0 x24.a 0 0 0 0 0 0 0 false false Ll)) λy26=>k22 y26) (k22 s18.1)) (gK (L6 cards y3 s11) (s18.1,0))
def L9 (cards:List iZ)(s:gB)(y1:List gG)(y2:List gX)(y3:(List Int)×iH)(y4:List Int)(s5:Int×(List gX)×(List Int))(k6:(Int×(List gX)×(List Int))->Option (gB×Bool×iH)):Option (gB×Bool×iH) := br (decide (s5.1<(gJ y4))) (bnd (lJ s5.2.2.length s5.1) λj8=>bnd (s5.2.2[j8]?) λx9=>bnd (jl y2 x9) λx10=>kF (s5.2.1.length+([x10]).length) 24 ( k6 ((iq s5.1 1),(s5.2.1++[x10]),s5.2.2))) (jn (λs11:(List gX)=>bnd (uZ s) λy17=>gK (L8 cards s y1 y3 s11) (y17,0)) λk12=>bnd (vZ s y1 s5.2.1) λy14=>br (!decide (y14=0)) (br (decide (0<(gJ s5.2.1))) (bnd (uZ s) λy15=>some (y15,false,y3.2)) (bnd (zg s y1) λy16=>k12 y16)) (k12 s5.2.1))
def Ih (k:iH)(cards:List iZ)(s:gB):Option (gB×Bool×iH) := bnd (qZ cards s) λy1=>bnd (uh s y1) λy2=>bnd (wY k (pO.mk 6 s.mJ 0 0 0 0 y2)) λy3=>bnd (slices_Sort_int y3.1) λy4=>gK (L9 cards s y1 y2 y3 y4) (0,[],y4)
def ru (k:iH)(c:pO):Option ((List Int)×iH) := jn (λs1:Bool=>br s1 (bnd (uf c) λy5=>some (y5,k)) (br (decide (k.used=(gJ k.answers))) (bnd (wX c.options) λy6=>bnd (uf { c with options:=y6 }) λy7=>some (y7,{ k with pending:={ c with options:=y6 },waits:=true })) (bnd (jl k.answers k.used) λx8=>bnd (Jq c x8) λy9=>br (y9==false) (bnd (uf c) λy10=>some (y10,{ k with used:=(iq k.used 1),bad:=true })) (bnd (uM x8) λy11=>some (y11,{ k with used:=(iq k.used 1) }))))) λk2=>br k.waits (k2 true) (br k.bad (k2 true) (bnd (Kr c) λy4=>k2 y4))
def EH (k:iH)(cards:List iZ)(s:gB)(pe:kz)(add:Bool)(s1:Unit)(k2:Unit->Option (gB×kz×Bool×iH)):Option (gB×kz×Bool×iH) := bnd (qZ cards s) λy4=>bnd (qp cards s y4 pe ([]) add) λy5=>br (decide ((gJ y5)=0)) (some (s,{ pe with extra:=(NK.mk pe.extra.a0 pe.extra.a1 pe.extra.a2) },true,k)) (bnd (IJ s y4 { pe with extra:=(NK.mk pe.extra.a0 pe.extra.a1 pe.extra.a2) }) λy6=>bnd (ru k (pO.mk 10 y6 0 0 0 0 y5)) λy7=>bnd (lJ y7.1.length 0) λj8=>bnd (y7.1[j8]?) λx9=>bnd (jl y5 x9) λx10=>kF (([x10]).length) 24 ( none))
def yx (k:iH)(cards:List iZ)(s:gB)(pe:kz)(add:Bool):Option (gB×kz×Bool×iH) := gK (EH k cards s pe add) ()
def ui (pe:kz)(y2:gB)(y4:List iL)(s5:Int×(List iL))(k6:(Int×(List iL))->Option gB):Option gB := br (decide (s5.1<(gJ y4))) (jn (λs8:(List iL)=>k6 ((iq s5.1 1),s8)) λk9=>bnd (jl y4 s5.1) λx11=>br (decide ((gJ s5.2)<64)) (kF (s5.2.length+([x11]).length) 768 ( k9 (s5.2++[x11]))) (k9 s5.2)) (br (!decide (pe.kind=1)) (some { y2 with waiting:=s5.2 }) (none))
def uj (k:iH)(cards:List iZ)(s:gB)(pe:kz):Option gB := bnd (qZ cards s) λy1=>bnd (RI cards s y1 pe) λy2=>bnd (qZ cards y2) λy3=>bnd (xJ s y1 y2 y3 pe) λy4=>gK (ui pe y2 y4) (0,y2.waiting)
def Ii (y1:gB×kz×Bool×iH)(y12:gB)(s13:Unit)(k14:Unit->Option (gB×iH)):Option (gB×iH) := br (decide (0<0)) (none) (some (y12,y1.2.2.2))
def GI (k:iH)(cards:List iZ)(s:gB)(pe:kz)(add:Bool):Option (gB×iH) := bnd (yx k cards s pe add) λy1=>jn (λs2:Bool=>br s2 (some (y1.1,y1.2.2.2)) (jn (λs6:Unit=>bnd (uj y1.2.2.2 cards y1.1 y1.2.1) λy12=>gK (Ii y1 y12) ()) λk7=>jn (λs9:Bool=>br s9 (none) (k7 ())) λk10=>br (decide (y1.2.1.kind=3)) (k10 (decide (1<y1.2.1.amount))) (k10 false))) λk3=>br (y1.2.2.1==false) (k3 true) (bnd (Gl cards y1.1 y1.2.1) λy5=>k3 (y5==false))
def xK (k:iH)(cards:List iZ)(s:gB)(pe:kz):Option (gB×iH) := bnd (GI k cards s pe true) λy1=>some (y1.1,y1.2)
def Ij (cards:List iZ)(s11:(List gX))(s27:iH×gB×Int)(k28:(iH×gB×Int)->Option (gB×Bool×iH)):Option (gB×Bool×iH) := br (decide (s27.2.2<(gJ s11))) (bnd (jl s11 s27.2.2) λx30=>bnd (xK s27.1 cards s27.2.1 (kz.mk 12 0 x30.a x30.b 0 0 0 0 0 0 false false Ll)) λy31=>k28 (y31.2,y31.1,(iq s27.2.2 1))) (some (s27.2.1,true,s27.1))
def Ik (cards:List iZ)(s:gB)(y1:List gG)(s11:(List gX))(s18:iH×gB×Int)(k19:(iH×gB×Int)->Option (gB×Bool×iH)):Option (gB×Bool×iH) := br (decide (s18.2.2<(gJ s11))) (jn (λs21:iH×gB=>k19 (s21.1,s21.2,(iq s18.2.2 1))) λk22=>bnd (jl s11 s18.2.2) λx24=>bnd (CQ s y1 x24.a 8) λy25=>br (y25==false) (bnd (xK s18.1 cards s18.2.1 (kz.mk 6 0 x24.a 0 0 0 0 0 0 0 false false Ll)) λy26=>k22 (y26.2,y26.1)) (k22 (s18.1,s18.2.1))) (gK (Ij cards s11) (s18.1,s18.2.1,0))
def BI (cards:List iZ)(s:gB)(y1:List gG)(y2:List gX)(y3:(List Int)×iH)(y4:List Int)(s5:Int×(List gX)×(List Int))(k6:(Int×(List gX)×(List Int))->Option (gB×Bool×iH)):Option (gB×Bool×iH) := br (decide (s5.1<(gJ y4))) (bnd (lJ s5.2.2.length s5.1) λj8=>bnd (s5.2.2[j8]?) λx9=>bnd (jl y2 x9) λx10=>kF (s5.2.1.length+([x10]).length) 24 ( k6 ((iq s5.1 1),(s5.2.1++[x10]),s5.2.2))) (jn (λs11:(List gX)=>bnd (uZ s) λy17=>gK (Ik cards s y1 s11) (y3.2,y17,0)) λk12=>bnd (vZ s y1 s5.2.1) λy14=>br (!decide (y14=0)) (br (decide (0<(gJ s5.2.1))) (bnd (uZ s) λy15=>some (y15,false,y3.2)) (bnd (zg s y1) λy16=>k12 y16)) (k12 s5.2.1))
def xM (k:iH)(cards:List iZ)(s:gB):Option (gB×Bool×iH) := bnd (qZ cards s) λy1=>bnd (uh s y1) λy2=>bnd (ru k (pO.mk 6 s.mJ 0 0 0 0 y2)) λy3=>bnd (slices_Sort_int y3.1) λy4=>gK (BI cards s y1 y2 y3 y4) (0,[],y4)
def NW (c:sG)(s2:Int×Int×Int)(k3:(Int×Int×Int)->Option Int):Option Int := br (decide (s2.2.2<5)) (jn (λs5:Int=>k3 (s5,(X8 2 s2.2.1),(iq s2.2.2 1))) λk6=>jn (λs8:Int=>k6 s8) λk9=>jn (λs11:Bool=>br s11 (k9 (iq s2.1 s2.2.1)) (k9 s2.1)) λk12=>qE s2.2.2 5 λj14=>(match j14 with|0=>(k12 (decide (0<c.color.a0)))  | 1=>(k12 (decide (0<c.color.a1)))  | 2=>(k12 (decide (0<c.color.a2)))  | 3=>(k12 (decide (0<c.color.a3)))  | _=>(k12 (decide (0<c.color.a4))) )) (some s2.1)
def OZ (c:sG):Option Int := bnd (OQ c) λy1=>br (y1==false) (some 0) (gK (NW c) (0,1,0))
def Mc (c:iZ)(y1:Int)(s2:Unit)(k3:Unit->Option gG):Option gG := br (decide (0<(gJ c.gU))) (bnd (jl c.gU 0) λx5=>none) (some { c with jS:=(nC .or .i64 y1 c.color),gU:=[],control:=0 })
def Md (c:iZ):Option gG := bnd (OZ c.cost) λy1=>kF (0+c.line.subs.length) 16 ( gK (Mc c y1) ())
def abu (cards:List iZ)(o:iw):Option gG := jn (λs1:Int=>jn (λs4:gG=>br (decide (o.jE=0)) (some { s4 with control:=o.control }) (br (decide (o.jE=5)) (some { s4 with control:=o.control }) (some { s4 with control:=o.owner }))) λk5=>jn (λs7:Bool=>br s7 (bnd (jl cards s1) λx10=>bnd (Md x10) λy11=>k5 y11) (k5 yU)) λk8=>br (decide (0<=s1)) (k8 (decide (s1<(gJ cards)))) (k8 false)) λk2=>br (decide (o.copy<0)) (k2 o.card) (k2 o.copy)
def VU (k5:(List jC)->Option (List jC))(x7:iw)(y8:gG)(s9:Int×(List jC))(k10:(Int×(List jC))->Option (List jC)):Option (List jC) := br (decide (s9.1<(gJ y8.gU))) (jn (λs12:(List jC)=>k10 ((iq s9.1 1),s12)) λk13=>bnd (jl y8.gU s9.1) λx15=>br (decide (x15.kind=1)) (lt (jC.mk x7.id s9.1 x7.control x7.stamp false ([]) x15.filter x15.mr) λx16=>kF (s9.2.length+([x16]).length) 224 ( k13 (s9.2++[x16]))) (k13 s9.2)) (k5 s9.2)
def VV (s:gB)(s17:Int×(List jC))(k18:(Int×(List jC))->Option (List jC)):Option (List jC) := br (decide (s17.1<(gJ s.kW))) (bnd (jl s.kW s17.1) λx20=>lt { x20 with jr:=(-1),fixed:=true,filter:=lW } λx21=>kF (s17.2.length+([x21]).length) 224 ( k18 ((iq s17.1 1),(s17.2++[x21])))) (some s17.2)
def VW (cards:List iZ)(s:gB)(s1:Int×(List jC))(k2:(Int×(List jC))->Option (List jC)):Option (List jC) := br (decide (s1.1<(gJ s.objects))) (jn (λs4:(List jC)=>k2 ((iq s1.1 1),s4)) λk5=>bnd (jl s.objects s1.1) λx7=>br (!decide (x7.jE=0)) (k5 s1.2) (bnd (abu cards x7) λy8=>gK (VU k5 x7 y8) (0,s1.2))) (gK (VV s) (0,s1.2))
def Vu (cards:List iZ)(s:gB):Option (List jC) := gK (VW cards s) (0,[])
def QH (cards:List iZ)(s:gB)(y1:List jC)(s2:Int×(List gG))(k3:(Int×(List gG))->Option mF):Option mF := br (decide (s2.1<(gJ s.objects))) (bnd (jl s.objects s2.1) λx5=>bnd (abu cards x5) λy6=>kF (s2.2.length+([y6]).length) 176 ( k3 ((iq s2.1 1),(s2.2++[y6])))) (bnd (kP (gJ y1) (gJ y1) 1) λj7=>lt false λx8=>bnd (kP (gJ y1) (gJ y1) 24) λj9=>lt ([]) λx10=>bnd (kP (gJ s.objects) (gJ s.objects) 1) λj11=>lt false λx12=>some (mF.mk s s2.2 y1 (List.replicate j7 x8) (List.replicate j9 x10) (List.replicate j11 x12)))
def RJ (cards:List iZ)(s:gB):Option mF := bnd (Vu cards s) λy1=>gK (QH cards s y1) (0,[])
def CV (n:Int):Option Int := br (decide (1000000<n)) (some 1000000) (br (decide (n<(-1000000))) (some (-1000000)) (some n))
def acP (a:Int)(b:Int):Option Int := bnd (CV a) λy1=>bnd (CV b) λy2=>bnd (CV (qI y1 y2)) λy3=>some y3
def Xn (c:NK Int):Option Int := bnd (acP c.a0 c.a1) λy1=>some y1
def YC (a:Int)(b:Int):Option Int := bnd (CV a) λy1=>bnd (CV b) λy2=>bnd (CV (iq y1 y2)) λy3=>some y3
def Me (w:mF)(s1:Int×(List gG))(k2:(Int×(List gG))->Option mF):Option mF := br (decide (s1.1<(gJ w.all))) (jn (λs4:(List gG)=>k2 ((iq s1.1 1),s4)) λk5=>bnd (jl w.all s1.1) λx7=>bnd (jl w.s.objects s1.1) λx8=>jn (λs9:Int×Int=>kF (s1.2.length+([{ x7 with power:=s9.1,jb:=s9.2 }]).length) 176 ( k5 (s1.2++[{ x7 with power:=s9.1,jb:=s9.2 }]))) λk10=>jn (λs12:Bool=>br s12 (bnd (Xn x8.counters) λy17=>bnd (YC x7.power y17) λy18=>bnd (YC x7.jb y17) λy19=>k10 (y18,y19)) (k10 (x7.power,x7.jb))) λk13=>br (decide (x8.jE=0)) (bnd (divO .quo .i64 x7.line.types 1) λx15=>bnd (divO .rem .i64 x15 2) λx16=>k13 (decide (x16=1))) (k13 false)) (some { w with all:=s1.2 })
def MB (w:mF):Option mF := gK (Me w) (0,[])
def VX (s1:mF)(s9:Unit)(k10:Unit->Option (mF×(List Int))):Option (mF×(List Int)) := br (decide (0<(gJ ([]:List Int)))) (none) (some (s1,[]))
def VY (s1:mF)(s5:Unit)(k6:Unit->Option (mF×(List Int))):Option (mF×(List Int)) := br (decide (0<(gJ s1.l))) (bnd (jl s1.l 0) λx8=>none) (gK (VX s1) ())
def wo (w:mF)(stage:Int):Option (mF×(List Int)) := jn (λs1:mF=>gK (VY s1) ()) λk2=>br (decide (stage=7)) (bnd (MB w) λy4=>k2 y4) (k2 w)
def YD (cards:List iZ)(s:gB):Option (List gG) := bnd (RJ cards s) λy1=>bnd (wo y1 1) λy3=>bnd (wo y3.1 2) λy4=>bnd (wo y4.1 3) λy5=>bnd (wo y5.1 4) λy6=>bnd (wo y6.1 5) λy7=>bnd (wo y7.1 6) λy8=>bnd (wo y8.1 7) λy9=>bnd (wo y9.1 8) λy10=>some y10.1.all
def Il (OJ:Bool):Option gB := lt (iw.mk 1 0 0 0 0 false false OJ false 0 Ll 0 (-1) (-1) false 0 0) λx1=>lt 1 λx2=>some (gB.mk ([(jP.mk 20 0 0 Vd false false ([]) ([]) ([])),(jP.mk 20 0 0 Vd false false ([]) ([]) ([]))]) ([x1]) ([x2]) ([]) ([]) ([]) ([]) 1 0 4 false 0 0 2 1 0 ([]) 0 (-1))
def Fq  : Option (List iZ) := lt (iZ.mk (bs [114,97,105,100,101,114]) false Vo 0 (zZ.mk 0 1 ([])) 2 2 65536 ([])) λx1=>some ([x1])
def Ac  : Option Bool := bnd (Il false) λy1=>bnd (Fq) λy2=>bnd (YD y2 y1) λy3=>bnd (Nb ([[]])) λy4=>bnd (Fq) λy5=>bnd (xM y4 y5 y1) λy6=>bnd (Nb ([[]])) λy7=>bnd (Fq) λy8=>bnd (Il true) λy9=>bnd (Ih y7 y8 y9) λy10=>bnd (uh y1 y3) λy11=>br (decide ((gJ y11)=1)) (bnd (jl y11 0) λx12=>lt (decide (x12.kind=7)&&(decide (x12.a=1)&&(decide (x12.b=1)&&true))) λv13=>br v13 (bnd (vZ y1 y3 y11) λy14=>br (decide (y14=0)) (bnd (vZ y1 y3 ([])) λy15=>br (decide (y15=18)) (br (decide ((gJ y6.1.objects)=1)) (bnd (jl y6.1.objects 0) λx16=>br (decide (x16.yE=1)) (bnd (jl y6.1.objects 0) λx17=>br x17.pK (br y6.2.1 (br (decide ((gJ y10.1.objects)=1)) (bnd (jl y10.1.objects 0) λx18=>br (decide (x18.yE=(-1))) (some y10.2.1) (some false)) (some false)) (some false)) (some false)) (some false)) (some false)) (some false)) (some false)) (some false)) (some false)
def rF (cards:List iZ)(s:gB)(answers:List (List Int)):Option Bool := jn (λs1:Bool=>br s1 (bnd (Ac) λy6=>some y6) (bnd (Nb answers) λy7=>bnd (xM y7 cards s) λy8=>br y8.2.1 (bnd (Ac) λy9=>some y9) (bnd (P9 s y8.1) λy10=>br y10 (bnd (Ac) λy11=>some y11) (some false)))) λk2=>bnd (Ib cards s) λy4=>br (y4==false) (k2 true) (bnd (yt answers) λy5=>k2 (y5==false))
abbrev uk (M:iG) (l:List iP):List (List PV):=M.m iP (kC M) l
abbrev aft (M:iG) (l:List iZ):List (List PV):=M.m iZ (zO M) l
abbrev Ad (M:iG) (l:List pM):List (List PV):=M.m pM (zQ M) l
abbrev yz (M:iG) (l:List jg):List (List PV):=M.m jg (xx M) l
abbrev uA (M:iG) (l:List og):List (List PV):=M.m og (yF M) l
abbrev rW (M:iG) (l:List iC):List (List PV):=M.m iC (pR M) l
abbrev TJ (M:iG) (l:List lZ):List (List PV):=M.m lZ (yT M) l
abbrev kS (M:iG) (l:List iw):List (List PV):=M.m iw (jQ M) l
abbrev ry (M:iG) (l:List gX):List (List PV):=M.m gX (sJ M) l
abbrev mi (M:iG) (l:List jP):List (List PV):=M.m jP (uK M) l
abbrev Ae (M:iG) (l:List jC):List (List PV):=M.m jC (CE M) l
abbrev mSpec (M:iG) (l:List sH):List (List PV):=M.m sH (JR M) l
abbrev YE (M:iG) (l:List qF):List (List PV):=M.m qF (DT M) l
abbrev iD (M:iG) (l:List gG):List (List PV):=M.m gG (kU M) l
abbrev jB (M:iG) (l:List iL):List (List PV):=M.m iL (wL M) l
abbrev gQ (M:iG) (l:List gq):List (List PV):=M.m gq (jX M) l
abbrev BJ (M:iG) (l:List iP):PV:=.sl 72 (M.m iP (kC M) l) false
abbrev oh (M:iG) (l:List iZ):PV:=.sl 17 (M.m iZ (zO M) l) false
abbrev KH (M:iG) (l:List pM):PV:=.sl 6 (M.m pM (zQ M) l) false
abbrev Io (M:iG) (l:List jg):PV:=.sl 64 (M.m jg (xx M) l) false
abbrev Tt (M:iG) (l:List og):PV:=.sl 94 (M.m og (yF M) l) false
abbrev iy (M:iG) (l:List iC):PV:=.sl 23 (M.m iC (pR M) l) false
abbrev MC (M:iG) (l:List lZ):PV:=.sl 20 (M.m lZ (yT M) l) false
abbrev oM (M:iG) (l:List iw):PV:=.sl 19 (M.m iw (jQ M) l) false
abbrev pF (M:iG) (l:List gX):PV:=.sl 3 (M.m gX (sJ M) l) false
abbrev NF (M:iG) (l:List jP):PV:=.sl 14 (M.m jP (uK M) l) false
abbrev yA (M:iG) (l:List jC):PV:=.sl 23 (M.m jC (CE M) l) false
abbrev Tu (M:iG) (l:List sH):PV:=.sl 18 (M.m sH (JR M) l) false
abbrev QI (M:iG) (l:List qF):PV:=.sl 2 (M.m qF (DT M) l) false
abbrev lq (M:iG) (l:List gG):PV:=.sl 17 (M.m gG (kU M) l) false
abbrev sU (M:iG) (l:List iL):PV:=.sl 89 (M.m iL (wL M) l) false
theorem ji {p:Prop}(h:p:=by(try simp only[sJ,lN,lV,uK,ET,jU,yT,Xg,F8,xx,rO,Dn,qA,JR,rY,kC,DT,jZ,yF,wL,zQ,jQ,iF,Ls,zO,kU,pR,JU,oD,jX,JV,CE,qC,aai,Jh,abq,afq,Ud,lW,ajr,ahd,aaj,afr,Vo,acO,Ry,aie,Rz,CB,afs,Ue,aif,adz,aih,P7,P8,Yn,aii,yU,Yo,Yp,Td,Vp,Yq,abr,abt,ahG,Ll,aeU,Vd,uk,aft,Ad,yz,uA,rW,TJ,kS,ry,mi,Ae,mSpec,YE,iD,jB,gQ,BJ,oh,KH,Io,Tt,iy,MC,oM,pF,NF,yA,Tu,QI,lq,sU,List.cons_append,List.nil_append,q]);repeat' constructor):p:=h
theorem Lr {u v:List PV}(e:u=v:=by simp only[q];try first|rfl|(simp only[sJ,lN,lV,uK,ET,jU,yT,Xg,F8,xx,rO,Dn,qA,JR,rY,kC,DT,jZ,yF,wL,zQ,jQ,iF,Ls,zO,kU,pR,JU,oD,jX,JV,CE,qC,uk,aft,Ad,yz,uA,rW,TJ,kS,ry,mi,Ae,mSpec,YE,iD,jB,gQ,BJ,oh,KH,Io,Tt,iy,MC,oM,pF,NF,yA,Tu,QI,lq,sU,List.cons_append,List.nil_append,q];done)|simp[Ap,eI,eB,eL,eS,uk,aft,Ad,yz,uA,rW,TJ,kS,ry,mi,Ae,mSpec,YE,iD,jB,gQ,BJ,oh,KH,Io,Tt,iy,MC,oM,pF,NF,yA,Tu,QI,lq,sU,List.cons_append,List.nil_append,q]):Hg u v:=le_eq e
instance {M:iG}:EC M gX (sJ M):=⟨⟩
instance {M:iG}:EC M pO (lN M):=⟨⟩
instance {M:iG}:EC M iH (lV M):=⟨⟩
instance {M:iG}:EC M jP (uK M):=⟨⟩
instance {M:iG}:EC M vS (ET M):=⟨⟩
instance {M:iG}:EC M jY (jU M):=⟨⟩
instance {M:iG}:EC M lZ (yT M):=⟨⟩
instance {M:iG}:EC M Vl (Xg M):=⟨⟩
instance {M:iG}:EC M yf (F8 M):=⟨⟩
instance {M:iG}:EC M jg (xx M):=⟨⟩
instance {M:iG}:EC M sG (rO M):=⟨⟩
instance {M:iG}:EC M JQ (Dn M):=⟨⟩
instance {M:iG}:EC M xw (qA M):=⟨⟩
instance {M:iG}:EC M sH (JR M):=⟨⟩
instance {M:iG}:EC M qJ (rY M):=⟨⟩
instance {M:iG}:EC M iP (kC M):=⟨⟩
instance {M:iG}:EC M qF (DT M):=⟨⟩
instance {M:iG}:EC M kz (jZ M):=⟨⟩
instance {M:iG}:EC M og (yF M):=⟨⟩
instance {M:iG}:EC M iL (wL M):=⟨⟩
instance {M:iG}:EC M pM (zQ M):=⟨⟩
instance {M:iG}:EC M iw (jQ M):=⟨⟩
instance {M:iG}:EC M gB (iF M):=⟨⟩
instance {M:iG}:EC M zZ (Ls M):=⟨⟩
instance {M:iG}:EC M iZ (zO M):=⟨⟩
instance {M:iG}:EC M gG (kU M):=⟨⟩
instance {M:iG}:EC M iC (pR M):=⟨⟩
instance {M:iG}:EC M ik (JU M):=⟨⟩
instance {M:iG}:EC M kG (oD M):=⟨⟩
instance {M:iG}:EC M gq (jX M):=⟨⟩
instance {M:iG}:EC M kK (JV M):=⟨⟩
instance {M:iG}:EC M jC (CE M):=⟨⟩
instance {M:iG}:EC M mF (qC M):=⟨⟩
end Go.Proofs.YtchmoabpofnbaaaGreat
