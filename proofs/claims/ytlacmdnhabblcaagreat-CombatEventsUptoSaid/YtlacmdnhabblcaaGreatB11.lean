import Derived.Test.YtlacmdnhabblcaaGreatB10
set_option linter.all false
namespace Go.Proofs.YtlacmdnhabblcaaGreat
open Go Go.Pv
set_option maxRecDepth 100000
set_option maxHeartbeats 2000000
structure oH where
 generic:Int
 x:Int
 color:aco Int
def pV (M:kM)(x:oH):List PV:=[.si .i64 x.generic,.si .i64 x.x,.si .i64 x.color.a0,.si .i64 x.color.a1,.si .i64 x.color.a2,.si .i64 x.color.a3,.si .i64 x.color.a4]
def aaY:oH:=oH.mk 0 0 ahW
structure wu where
 OV:Int
 types:Int
 subs:List ByteArray
def Bh (M:kM)(x:wu):List PV:=[.si .i64 x.OV,.si .i64 x.types,.sl 1 (M.m ByteArray eS x.subs) false]
def aaZ:wu:=wu.mk 0 0 ([])
structure xX where
 kind:Int
 n:Int
def Nc (M:kM)(x:xX):List PV:=[.si .i64 x.kind,.si .i64 x.n]
def WC:xX:=xX.mk 0 0
structure lX where
 jQ:Int
 who:Int
 self:Int
 types:Int
 jU:Int
 kU:Int
 jL:Int
 sub:ByteArray
 keys:Int
 vZ:Int
 power:xX
 jE:xX
 value:xX
def mW (M:kM)(x:lX):List PV:=[.si .i64 x.jQ,.si .i64 x.who,.si .i64 x.self,.si .i64 x.types,.si .i64 x.jU,.si .i64 x.kU,.si .i64 x.jL,.str x.sub,.si .i64 x.keys,.si .i64 x.vZ,.si .i64 x.power.kind,.si .i64 x.power.n,.si .i64 x.jE.kind,.si .i64 x.jE.n,.si .i64 x.value.kind,.si .i64 x.value.n]
def qL:lX:=lX.mk 0 0 0 0 0 0 0 (bs []) 0 0 WC WC WC
structure nN where
 kind:Int
 n:Int
 m:Int
 sub:ByteArray
 filter:lX
def rE (M:kM)(x:nN):List PV:=[.si .i64 x.kind,.si .i64 x.n,.si .i64 x.m,.str x.sub,.si .i64 x.filter.jQ,.si .i64 x.filter.who,.si .i64 x.filter.self,.si .i64 x.filter.types,.si .i64 x.filter.jU,.si .i64 x.filter.kU,.si .i64 x.filter.jL,.str x.filter.sub,.si .i64 x.filter.keys,.si .i64 x.filter.vZ,.si .i64 x.filter.power.kind,.si .i64 x.filter.power.n,.si .i64 x.filter.jE.kind,.si .i64 x.filter.jE.n,.si .i64 x.filter.value.kind,.si .i64 x.filter.value.n]
def aos:nN:=nN.mk 0 0 0 (bs []) qL
structure uh where
 og:oH
 vZ:Bool
 vO:Bool
 life:Int
def xk (M:kM)(x:uh):List PV:=[.si .i64 x.og.generic,.si .i64 x.og.x,.si .i64 x.og.color.a0,.si .i64 x.og.color.a1,.si .i64 x.og.color.a2,.si .i64 x.og.color.a3,.si .i64 x.og.color.a4,.sb x.vZ,.sb x.vO,.si .i64 x.life]
def TN:uh:=uh.mk aaY false false 0
structure xY where
 when:Int
 who:Int
 filter:lX
def GY (M:kM)(x:xY):List PV:=[.si .i64 x.when,.si .i64 x.who,.si .i64 x.filter.jQ,.si .i64 x.filter.who,.si .i64 x.filter.self,.si .i64 x.filter.types,.si .i64 x.filter.jU,.si .i64 x.filter.kU,.si .i64 x.filter.jL,.str x.filter.sub,.si .i64 x.filter.keys,.si .i64 x.filter.vZ,.si .i64 x.filter.power.kind,.si .i64 x.filter.power.n,.si .i64 x.filter.jE.kind,.si .i64 x.filter.jE.n,.si .i64 x.filter.value.kind,.si .i64 x.filter.value.n]
def GZ:xY:=xY.mk 0 0 qL
structure qM where
 l9:Bool
 object:Bool
 filter:lX
def zl (M:kM)(x:qM):List PV:=[.sb x.l9,.sb x.object,.si .i64 x.filter.jQ,.si .i64 x.filter.who,.si .i64 x.filter.self,.si .i64 x.filter.types,.si .i64 x.filter.jU,.si .i64 x.filter.kU,.si .i64 x.filter.jL,.str x.filter.sub,.si .i64 x.filter.keys,.si .i64 x.filter.vZ,.si .i64 x.filter.power.kind,.si .i64 x.filter.power.n,.si .i64 x.filter.jE.kind,.si .i64 x.filter.jE.n,.si .i64 x.filter.value.kind,.si .i64 x.filter.value.n]
def amL:qM:=qM.mk false false qL
structure X4 where
 kind:Int
 n:Int
 filter:lX
def VO (M:kM)(x:X4):List PV:=[.si .i64 x.kind,.si .i64 x.n,.si .i64 x.filter.jQ,.si .i64 x.filter.who,.si .i64 x.filter.self,.si .i64 x.filter.types,.si .i64 x.filter.jU,.si .i64 x.filter.kU,.si .i64 x.filter.jL,.str x.filter.sub,.si .i64 x.filter.keys,.si .i64 x.filter.vZ,.si .i64 x.filter.power.kind,.si .i64 x.filter.power.n,.si .i64 x.filter.jE.kind,.si .i64 x.filter.jE.n,.si .i64 x.filter.value.kind,.si .i64 x.filter.value.n]
def alz:X4:=X4.mk 0 0 qL
structure yN where
 kind:Int
 n:Int
 counter:Int
 filter:lX
def EX (M:kM)(x:yN):List PV:=[.si .i64 x.kind,.si .i64 x.n,.si .i64 x.counter,.si .i64 x.filter.jQ,.si .i64 x.filter.who,.si .i64 x.filter.self,.si .i64 x.filter.types,.si .i64 x.filter.jU,.si .i64 x.filter.kU,.si .i64 x.filter.jL,.str x.filter.sub,.si .i64 x.filter.keys,.si .i64 x.filter.vZ,.si .i64 x.filter.power.kind,.si .i64 x.filter.power.n,.si .i64 x.filter.jE.kind,.si .i64 x.filter.jE.n,.si .i64 x.filter.value.kind,.si .i64 x.filter.value.n]
def acU:yN:=yN.mk 0 0 0 qL
structure jX where
 op:Int
 ref:X4
 amount:yN
 counter:Int
 jQ:Int
 card:ByteArray
 filter:lX
 pool:rQ Int
 mP:List nN
def mf (M:kM)(x:jX):List PV:=[.si .i64 x.op,.si .i64 x.ref.kind,.si .i64 x.ref.n,.si .i64 x.ref.filter.jQ,.si .i64 x.ref.filter.who,.si .i64 x.ref.filter.self,.si .i64 x.ref.filter.types,.si .i64 x.ref.filter.jU,.si .i64 x.ref.filter.kU,.si .i64 x.ref.filter.jL,.str x.ref.filter.sub,.si .i64 x.ref.filter.keys,.si .i64 x.ref.filter.vZ,.si .i64 x.ref.filter.power.kind,.si .i64 x.ref.filter.power.n,.si .i64 x.ref.filter.jE.kind,.si .i64 x.ref.filter.jE.n,.si .i64 x.ref.filter.value.kind,.si .i64 x.ref.filter.value.n,.si .i64 x.amount.kind,.si .i64 x.amount.n,.si .i64 x.amount.counter,.si .i64 x.amount.filter.jQ,.si .i64 x.amount.filter.who,.si .i64 x.amount.filter.self,.si .i64 x.amount.filter.types,.si .i64 x.amount.filter.jU,.si .i64 x.amount.filter.kU,.si .i64 x.amount.filter.jL,.str x.amount.filter.sub,.si .i64 x.amount.filter.keys,.si .i64 x.amount.filter.vZ,.si .i64 x.amount.filter.power.kind,.si .i64 x.amount.filter.power.n,.si .i64 x.amount.filter.jE.kind,.si .i64 x.amount.filter.jE.n,.si .i64 x.amount.filter.value.kind,.si .i64 x.amount.filter.value.n,.si .i64 x.counter,.si .i64 x.jQ,.str x.card,.si .i64 x.filter.jQ,.si .i64 x.filter.who,.si .i64 x.filter.self,.si .i64 x.filter.types,.si .i64 x.filter.jU,.si .i64 x.filter.kU,.si .i64 x.filter.jL,.str x.filter.sub,.si .i64 x.filter.keys,.si .i64 x.filter.vZ,.si .i64 x.filter.power.kind,.si .i64 x.filter.power.n,.si .i64 x.filter.jE.kind,.si .i64 x.filter.jE.n,.si .i64 x.filter.value.kind,.si .i64 x.filter.value.n,.si .i64 x.pool.a0,.si .i64 x.pool.a1,.si .i64 x.pool.a2,.si .i64 x.pool.a3,.si .i64 x.pool.a4,.si .i64 x.pool.a5,.sl 20 (M.m nN (rE M) x.mP) false]
def aix:jX:=jX.mk 0 alz acU 0 0 (bs []) qL Bd ([])
structure rf where
 on:Int
 who:Int
 filter:lX
 doF:Int
 n:Int
 jQ:Int
 counter:Int
def vP (M:kM)(x:rf):List PV:=[.si .i64 x.on,.si .i64 x.who,.si .i64 x.filter.jQ,.si .i64 x.filter.who,.si .i64 x.filter.self,.si .i64 x.filter.types,.si .i64 x.filter.jU,.si .i64 x.filter.kU,.si .i64 x.filter.jL,.str x.filter.sub,.si .i64 x.filter.keys,.si .i64 x.filter.vZ,.si .i64 x.filter.power.kind,.si .i64 x.filter.power.n,.si .i64 x.filter.jE.kind,.si .i64 x.filter.jE.n,.si .i64 x.filter.value.kind,.si .i64 x.filter.value.n,.si .i64 x.doF,.si .i64 x.n,.si .i64 x.jQ,.si .i64 x.counter]
def G5:rf:=rf.mk 0 0 qL 0 0 0 0
structure kF where
 kind:Int
 filter:lX
 mP:List nN
 price:uh
 slow:Bool
 jg:xY
 may:Bool
 specs:List qM
 nR:List jX
 replace:rf
def lD (M:kM)(x:kF):List PV:=[.si .i64 x.kind,.si .i64 x.filter.jQ,.si .i64 x.filter.who,.si .i64 x.filter.self,.si .i64 x.filter.types,.si .i64 x.filter.jU,.si .i64 x.filter.kU,.si .i64 x.filter.jL,.str x.filter.sub,.si .i64 x.filter.keys,.si .i64 x.filter.vZ,.si .i64 x.filter.power.kind,.si .i64 x.filter.power.n,.si .i64 x.filter.jE.kind,.si .i64 x.filter.jE.n,.si .i64 x.filter.value.kind,.si .i64 x.filter.value.n,.sl 20 (M.m nN (rE M) x.mP) false,.si .i64 x.price.og.generic,.si .i64 x.price.og.x,.si .i64 x.price.og.color.a0,.si .i64 x.price.og.color.a1,.si .i64 x.price.og.color.a2,.si .i64 x.price.og.color.a3,.si .i64 x.price.og.color.a4,.sb x.price.vZ,.sb x.price.vO,.si .i64 x.price.life,.sb x.slow,.si .i64 x.jg.when,.si .i64 x.jg.who,.si .i64 x.jg.filter.jQ,.si .i64 x.jg.filter.who,.si .i64 x.jg.filter.self,.si .i64 x.jg.filter.types,.si .i64 x.jg.filter.jU,.si .i64 x.jg.filter.kU,.si .i64 x.jg.filter.jL,.str x.jg.filter.sub,.si .i64 x.jg.filter.keys,.si .i64 x.jg.filter.vZ,.si .i64 x.jg.filter.power.kind,.si .i64 x.jg.filter.power.n,.si .i64 x.jg.filter.jE.kind,.si .i64 x.jg.filter.jE.n,.si .i64 x.jg.filter.value.kind,.si .i64 x.jg.filter.value.n,.sb x.may,.sl 18 (M.m qM (zl M) x.specs) false,.sl 64 (M.m jX (mf M) x.nR) false,.si .i64 x.replace.on,.si .i64 x.replace.who,.si .i64 x.replace.filter.jQ,.si .i64 x.replace.filter.who,.si .i64 x.replace.filter.self,.si .i64 x.replace.filter.types,.si .i64 x.replace.filter.jU,.si .i64 x.replace.filter.kU,.si .i64 x.replace.filter.jL,.str x.replace.filter.sub,.si .i64 x.replace.filter.keys,.si .i64 x.replace.filter.vZ,.si .i64 x.replace.filter.power.kind,.si .i64 x.replace.filter.power.n,.si .i64 x.replace.filter.jE.kind,.si .i64 x.replace.filter.jE.n,.si .i64 x.replace.filter.value.kind,.si .i64 x.replace.filter.value.n,.si .i64 x.replace.doF,.si .i64 x.replace.n,.si .i64 x.replace.jQ,.si .i64 x.replace.counter]
def G6:kF:=kF.mk 0 qL ([]) TN false GZ false ([]) ([]) G5
structure jI where
 name:ByteArray
 token:Bool
 cost:oH
 color:Int
 line:wu
 power:Int
 jE:Int
 keys:Int
 jO:List kF
def lJ (M:kM)(x:jI):List PV:=[.str x.name,.sb x.token,.si .i64 x.cost.generic,.si .i64 x.cost.x,.si .i64 x.cost.color.a0,.si .i64 x.cost.color.a1,.si .i64 x.cost.color.a2,.si .i64 x.cost.color.a3,.si .i64 x.cost.color.a4,.si .i64 x.color,.si .i64 x.line.OV,.si .i64 x.line.types,.sl 1 (M.m ByteArray eS x.line.subs) false,.si .i64 x.power,.si .i64 x.jE,.si .i64 x.keys,.sl 72 (M.m kF (lD M) x.jO) false]
def amM:jI:=jI.mk (bs []) false aaY 0 aaZ 0 0 0 ([])
structure kD where
 life:Int
 aiy:Int
 lands:Int
 pool:rQ Int
 failed:Bool
 lost:Bool
 library:List Int
 hand:List Int
 sO:List Int
def lF (M:kM)(x:kD):List PV:=[.si .i64 x.life,.si .i64 x.aiy,.si .i64 x.lands,.si .i64 x.pool.a0,.si .i64 x.pool.a1,.si .i64 x.pool.a2,.si .i64 x.pool.a3,.si .i64 x.pool.a4,.si .i64 x.pool.a5,.sb x.failed,.sb x.lost,.sl 1 (M.m Int (eI .i64) x.library) false,.sl 1 (M.m Int (eI .i64) x.hand) false,.sl 1 (M.m Int (eI .i64) x.sO) false]
def aiz:kD:=kD.mk 0 0 0 Bd false false ([]) ([]) ([])
structure iW where
 id:Int
 card:Int
 owner:Int
 control:Int
 jQ:Int
 token:Bool
 nC:Bool
 Df:Bool
 deadly:Bool
 zn:Int
 counters:UQ Int
 stamp:Int
 copy:Int
 lG:Int
 blocked:Bool
 blocks:Int
 FK:Int
def ja (M:kM)(x:iW):List PV:=[.si .i64 x.id,.si .i64 x.card,.si .i64 x.owner,.si .i64 x.control,.si .i64 x.jQ,.sb x.token,.sb x.nC,.sb x.Df,.sb x.deadly,.si .i64 x.zn,.si .i64 x.counters.a0,.si .i64 x.counters.a1,.si .i64 x.counters.a2,.si .i64 x.stamp,.si .i64 x.copy,.si .i64 x.lG,.sb x.blocked,.si .i64 x.blocks,.si .i64 x.FK]
def KP:iW:=iW.mk 0 0 0 0 0 false false false false 0 UR 0 0 0 false 0 0
structure rF where
 object:Int
 l9:Int
def Ia (M:kM)(x:rF):List PV:=[.si .i64 x.object,.si .i64 x.l9]
def aiA:rF:=rF.mk 0 0
structure iZ where
 kind:Int
 source:Int
 object:Int
 l9:Int
 amount:Int
 ZY:Int
 to:Int
 cause:Int
 counter:Int
 card:Int
 Ib:Bool
 nC:Bool
 extra:UQ Int
def jC (M:kM)(x:iZ):List PV:=[.si .i64 x.kind,.si .i64 x.source,.si .i64 x.object,.si .i64 x.l9,.si .i64 x.amount,.si .i64 x.ZY,.si .i64 x.to,.si .i64 x.cause,.si .i64 x.counter,.si .i64 x.card,.sb x.Ib,.sb x.nC,.si .i64 x.extra.a0,.si .i64 x.extra.a1,.si .i64 x.extra.a2]
def TP:iZ:=iZ.mk 0 0 0 0 0 0 0 0 0 0 false false UR
structure ou where
 id:Int
 kind:Int
 source:Int
 control:Int
 x:Int
 copy:Bool
 jd:kF
 targets:List rF
 event:iZ
def pM (M:kM)(x:ou):List PV:=[.si .i64 x.id,.si .i64 x.kind,.si .i64 x.source,.si .i64 x.control,.si .i64 x.x,.sb x.copy,.si .i64 x.jd.kind,.si .i64 x.jd.filter.jQ,.si .i64 x.jd.filter.who,.si .i64 x.jd.filter.self,.si .i64 x.jd.filter.types,.si .i64 x.jd.filter.jU,.si .i64 x.jd.filter.kU,.si .i64 x.jd.filter.jL,.str x.jd.filter.sub,.si .i64 x.jd.filter.keys,.si .i64 x.jd.filter.vZ,.si .i64 x.jd.filter.power.kind,.si .i64 x.jd.filter.power.n,.si .i64 x.jd.filter.jE.kind,.si .i64 x.jd.filter.jE.n,.si .i64 x.jd.filter.value.kind,.si .i64 x.jd.filter.value.n,.sl 20 (M.m nN (rE M) x.jd.mP) false,.si .i64 x.jd.price.og.generic,.si .i64 x.jd.price.og.x,.si .i64 x.jd.price.og.color.a0,.si .i64 x.jd.price.og.color.a1,.si .i64 x.jd.price.og.color.a2,.si .i64 x.jd.price.og.color.a3,.si .i64 x.jd.price.og.color.a4,.sb x.jd.price.vZ,.sb x.jd.price.vO,.si .i64 x.jd.price.life,.sb x.jd.slow,.si .i64 x.jd.jg.when,.si .i64 x.jd.jg.who,.si .i64 x.jd.jg.filter.jQ,.si .i64 x.jd.jg.filter.who,.si .i64 x.jd.jg.filter.self,.si .i64 x.jd.jg.filter.types,.si .i64 x.jd.jg.filter.jU,.si .i64 x.jd.jg.filter.kU,.si .i64 x.jd.jg.filter.jL,.str x.jd.jg.filter.sub,.si .i64 x.jd.jg.filter.keys,.si .i64 x.jd.jg.filter.vZ,.si .i64 x.jd.jg.filter.power.kind,.si .i64 x.jd.jg.filter.power.n,.si .i64 x.jd.jg.filter.jE.kind,.si .i64 x.jd.jg.filter.jE.n,.si .i64 x.jd.jg.filter.value.kind,.si .i64 x.jd.jg.filter.value.n,.sb x.jd.may,.sl 18 (M.m qM (zl M) x.jd.specs) false,.sl 64 (M.m jX (mf M) x.jd.nR) false,.si .i64 x.jd.replace.on,.si .i64 x.jd.replace.who,.si .i64 x.jd.replace.filter.jQ,.si .i64 x.jd.replace.filter.who,.si .i64 x.jd.replace.filter.self,.si .i64 x.jd.replace.filter.types,.si .i64 x.jd.replace.filter.jU,.si .i64 x.jd.replace.filter.kU,.si .i64 x.jd.replace.filter.jL,.str x.jd.replace.filter.sub,.si .i64 x.jd.replace.filter.keys,.si .i64 x.jd.replace.filter.vZ,.si .i64 x.jd.replace.filter.power.kind,.si .i64 x.jd.replace.filter.power.n,.si .i64 x.jd.replace.filter.jE.kind,.si .i64 x.jd.replace.filter.jE.n,.si .i64 x.jd.replace.filter.value.kind,.si .i64 x.jd.replace.filter.value.n,.si .i64 x.jd.replace.doF,.si .i64 x.jd.replace.n,.si .i64 x.jd.replace.jQ,.si .i64 x.jd.replace.counter,.sl 2 (M.m rF (Ia M) x.targets) false,.si .i64 x.event.kind,.si .i64 x.event.source,.si .i64 x.event.object,.si .i64 x.event.l9,.si .i64 x.event.amount,.si .i64 x.event.ZY,.si .i64 x.event.to,.si .i64 x.event.cause,.si .i64 x.event.counter,.si .i64 x.event.card,.sb x.event.Ib,.sb x.event.nC,.si .i64 x.event.extra.a0,.si .i64 x.event.extra.a1,.si .i64 x.event.extra.a2]
def amN:ou:=ou.mk 0 0 0 0 0 false G6 ([]) TP
structure kT where
 source:Int
 control:Int
 jd:kF
 event:iZ
def mX (M:kM)(x:kT):List PV:=[.si .i64 x.source,.si .i64 x.control,.si .i64 x.jd.kind,.si .i64 x.jd.filter.jQ,.si .i64 x.jd.filter.who,.si .i64 x.jd.filter.self,.si .i64 x.jd.filter.types,.si .i64 x.jd.filter.jU,.si .i64 x.jd.filter.kU,.si .i64 x.jd.filter.jL,.str x.jd.filter.sub,.si .i64 x.jd.filter.keys,.si .i64 x.jd.filter.vZ,.si .i64 x.jd.filter.power.kind,.si .i64 x.jd.filter.power.n,.si .i64 x.jd.filter.jE.kind,.si .i64 x.jd.filter.jE.n,.si .i64 x.jd.filter.value.kind,.si .i64 x.jd.filter.value.n,.sl 20 (M.m nN (rE M) x.jd.mP) false,.si .i64 x.jd.price.og.generic,.si .i64 x.jd.price.og.x,.si .i64 x.jd.price.og.color.a0,.si .i64 x.jd.price.og.color.a1,.si .i64 x.jd.price.og.color.a2,.si .i64 x.jd.price.og.color.a3,.si .i64 x.jd.price.og.color.a4,.sb x.jd.price.vZ,.sb x.jd.price.vO,.si .i64 x.jd.price.life,.sb x.jd.slow,.si .i64 x.jd.jg.when,.si .i64 x.jd.jg.who,.si .i64 x.jd.jg.filter.jQ,.si .i64 x.jd.jg.filter.who,.si .i64 x.jd.jg.filter.self,.si .i64 x.jd.jg.filter.types,.si .i64 x.jd.jg.filter.jU,.si .i64 x.jd.jg.filter.kU,.si .i64 x.jd.jg.filter.jL,.str x.jd.jg.filter.sub,.si .i64 x.jd.jg.filter.keys,.si .i64 x.jd.jg.filter.vZ,.si .i64 x.jd.jg.filter.power.kind,.si .i64 x.jd.jg.filter.power.n,.si .i64 x.jd.jg.filter.jE.kind,.si .i64 x.jd.jg.filter.jE.n,.si .i64 x.jd.jg.filter.value.kind,.si .i64 x.jd.jg.filter.value.n,.sb x.jd.may,.sl 18 (M.m qM (zl M) x.jd.specs) false,.sl 64 (M.m jX (mf M) x.jd.nR) false,.si .i64 x.jd.replace.on,.si .i64 x.jd.replace.who,.si .i64 x.jd.replace.filter.jQ,.si .i64 x.jd.replace.filter.who,.si .i64 x.jd.replace.filter.self,.si .i64 x.jd.replace.filter.types,.si .i64 x.jd.replace.filter.jU,.si .i64 x.jd.replace.filter.kU,.si .i64 x.jd.replace.filter.jL,.str x.jd.replace.filter.sub,.si .i64 x.jd.replace.filter.keys,.si .i64 x.jd.replace.filter.vZ,.si .i64 x.jd.replace.filter.power.kind,.si .i64 x.jd.replace.filter.power.n,.si .i64 x.jd.replace.filter.jE.kind,.si .i64 x.jd.replace.filter.jE.n,.si .i64 x.jd.replace.filter.value.kind,.si .i64 x.jd.replace.filter.value.n,.si .i64 x.jd.replace.doF,.si .i64 x.jd.replace.n,.si .i64 x.jd.replace.jQ,.si .i64 x.jd.replace.counter,.si .i64 x.event.kind,.si .i64 x.event.source,.si .i64 x.event.object,.si .i64 x.event.l9,.si .i64 x.event.amount,.si .i64 x.event.ZY,.si .i64 x.event.to,.si .i64 x.event.cause,.si .i64 x.event.counter,.si .i64 x.event.card,.sb x.event.Ib,.sb x.event.nC,.si .i64 x.event.extra.a0,.si .i64 x.event.extra.a1,.si .i64 x.event.extra.a2]
def agq:kT:=kT.mk 0 0 G6 TP
structure pI where
 stamp:Int
 control:Int
 source:Int
 ad8:Int
 objects:List Int
 mP:List nN
def qQ (M:kM)(x:pI):List PV:=[.si .i64 x.stamp,.si .i64 x.control,.si .i64 x.source,.si .i64 x.ad8,.sl 1 (M.m Int (eI .i64) x.objects) false,.sl 20 (M.m nN (rE M) x.mP) false]
def amO:pI:=pI.mk 0 0 0 0 ([]) ([])
structure iT where
 ji:List kD
 objects:List iW
 lq:List Int
 uU:List Int
 stack:List ou
 waiting:List kT
 oq:List pI
 turn:Int
 nD:Int
 step:Int
 begun:Bool
 priority:Int
 passes:Int
 nextId:Int
 nH:Int
 seed:Int
 extra:List Int
 over:Int
 uJ:Int
def jb (M:kM)(x:iT):List PV:=[.sl 14 (M.m kD (lF M) x.ji) false,.sl 19 (M.m iW (ja M) x.objects) false,.sl 1 (M.m Int (eI .i64) x.lq) false,.sl 1 (M.m Int (eI .i64) x.uU) false,.sl 94 (M.m ou (pM M) x.stack) false,.sl 89 (M.m kT (mX M) x.waiting) false,.sl 6 (M.m pI (qQ M) x.oq) false,.si .i64 x.turn,.si .i64 x.nD,.si .i64 x.step,.sb x.begun,.si .i64 x.priority,.si .i64 x.passes,.si .i64 x.nextId,.si .i64 x.nH,.si .u64 x.seed,.sl 1 (M.m Int (eI .i64) x.extra) false,.si .i64 x.over,.si .i64 x.uJ]
def WE:iT:=iT.mk ([]) ([]) ([]) ([]) ([]) ([]) ([]) 0 0 0 false 0 0 0 0 0 ([]) 0 0
structure iM where
 name:ByteArray
 cost:oH
 kU:Int
 line:wu
 power:Int
 jE:Int
 keys:Int
 jO:List kF
 control:Int
def iY (M:kM)(x:iM):List PV:=[.str x.name,.si .i64 x.cost.generic,.si .i64 x.cost.x,.si .i64 x.cost.color.a0,.si .i64 x.cost.color.a1,.si .i64 x.cost.color.a2,.si .i64 x.cost.color.a3,.si .i64 x.cost.color.a4,.si .i64 x.kU,.si .i64 x.line.OV,.si .i64 x.line.types,.sl 1 (M.m ByteArray eS x.line.subs) false,.si .i64 x.power,.si .i64 x.jE,.si .i64 x.keys,.sl 72 (M.m kF (lD M) x.jO) false,.si .i64 x.control]
def rU:iM:=iM.mk (bs []) aaY 0 aaZ 0 0 0 ([]) 0
structure jJ where
 source:Int
 jd:Int
 control:Int
 stamp:Int
 fixed:Bool
 objects:List Int
 filter:lX
 mP:List nN
def kP (M:kM)(x:jJ):List PV:=[.si .i64 x.source,.si .i64 x.jd,.si .i64 x.control,.si .i64 x.stamp,.sb x.fixed,.sl 1 (M.m Int (eI .i64) x.objects) false,.si .i64 x.filter.jQ,.si .i64 x.filter.who,.si .i64 x.filter.self,.si .i64 x.filter.types,.si .i64 x.filter.jU,.si .i64 x.filter.kU,.si .i64 x.filter.jL,.str x.filter.sub,.si .i64 x.filter.keys,.si .i64 x.filter.vZ,.si .i64 x.filter.power.kind,.si .i64 x.filter.power.n,.si .i64 x.filter.jE.kind,.si .i64 x.filter.jE.n,.si .i64 x.filter.value.kind,.si .i64 x.filter.value.n,.sl 20 (M.m nN (rE M) x.mP) false]
def ad9:jJ:=jJ.mk 0 0 0 0 false ([]) qL ([])
structure jP where
 s:iT
 all:List iM
 l:List jJ
 begun:List Bool
 sets:List (List Int)
 blank:List Bool
def kL (M:kM)(x:jP):List PV:=[.sl 14 (M.m kD (lF M) x.s.ji) false,.sl 19 (M.m iW (ja M) x.s.objects) false,.sl 1 (M.m Int (eI .i64) x.s.lq) false,.sl 1 (M.m Int (eI .i64) x.s.uU) false,.sl 94 (M.m ou (pM M) x.s.stack) false,.sl 89 (M.m kT (mX M) x.s.waiting) false,.sl 6 (M.m pI (qQ M) x.s.oq) false,.si .i64 x.s.turn,.si .i64 x.s.nD,.si .i64 x.s.step,.sb x.s.begun,.si .i64 x.s.priority,.si .i64 x.s.passes,.si .i64 x.s.nextId,.si .i64 x.s.nH,.si .u64 x.s.seed,.sl 1 (M.m Int (eI .i64) x.s.extra) false,.si .i64 x.s.over,.si .i64 x.s.uJ,.sl 17 (M.m iM (iY M) x.all) false,.sl 23 (M.m jJ (kP M) x.l) false,.sl 1 (M.m Bool eB x.begun) false,.sl 1 (M.m (List Int) (eL M 1 (eI .i64)) x.sets) false,.sl 1 (M.m Bool eB x.blank) false]
def aea:jP:=jP.mk WE ([]) ([]) ([]) ([]) ([])
structure iL where
 kind:Int
 a:Int
 b:Int
def iQ (M:kM)(x:iL):List PV:=[.si .i64 x.kind,.si .i64 x.a,.si .i64 x.b]
def aiB:iL:=iL.mk 0 0 0
structure nI where
 cards:List jI
 s:iT
 answers:List (List Int)
 first:Bool
def oQ (M:kM)(x:nI):List PV:=[.sl 17 (M.m jI (lJ M) x.cards) false,.sl 14 (M.m kD (lF M) x.s.ji) false,.sl 19 (M.m iW (ja M) x.s.objects) false,.sl 1 (M.m Int (eI .i64) x.s.lq) false,.sl 1 (M.m Int (eI .i64) x.s.uU) false,.sl 94 (M.m ou (pM M) x.s.stack) false,.sl 89 (M.m kT (mX M) x.s.waiting) false,.sl 6 (M.m pI (qQ M) x.s.oq) false,.si .i64 x.s.turn,.si .i64 x.s.nD,.si .i64 x.s.step,.sb x.s.begun,.si .i64 x.s.priority,.si .i64 x.s.passes,.si .i64 x.s.nextId,.si .i64 x.s.nH,.si .u64 x.s.seed,.sl 1 (M.m Int (eI .i64) x.s.extra) false,.si .i64 x.s.over,.si .i64 x.s.uJ,.sl 1 (M.m (List Int) (eL M 1 (eI .i64)) x.answers) false,.sb x.first]
def aeb:nI:=nI.mk ([]) WE ([]) false
structure jY where
 kind:Int
 l9:Int
 source:Int
 least:Int
 most:Int
 n:Int
 options:List iL
def mg (M:kM)(x:jY):List PV:=[.si .i64 x.kind,.si .i64 x.l9,.si .i64 x.source,.si .i64 x.least,.si .i64 x.most,.si .i64 x.n,.sl 3 (M.m iL (iQ M) x.options) false]
def wO:jY:=jY.mk 0 0 0 0 0 0 ([])
structure jy where
 answers:List (List Int)
 used:Int
 pending:jY
 waits:Bool
 bad:Bool
def mQ (M:kM)(x:jy):List PV:=[.sl 1 (M.m (List Int) (eL M 1 (eI .i64)) x.answers) false,.si .i64 x.used,.si .i64 x.pending.kind,.si .i64 x.pending.l9,.si .i64 x.pending.source,.si .i64 x.pending.least,.si .i64 x.pending.most,.si .i64 x.pending.n,.sl 3 (M.m iL (iQ M) x.pending.options) false,.sb x.waits,.sb x.bad]
def aec:jy:=jy.mk ([]) 0 wO false false
structure jV where
 answers:List (List Int)
 choice:jY
 waits:Bool
 wrong:Bool
 n:Int
def mD (M:kM)(x:jV):List PV:=[.sl 1 (M.m (List Int) (eL M 1 (eI .i64)) x.answers) false,.si .i64 x.choice.kind,.si .i64 x.choice.l9,.si .i64 x.choice.source,.si .i64 x.choice.least,.si .i64 x.choice.most,.si .i64 x.choice.n,.sl 3 (M.m iL (iQ M) x.choice.options) false,.sb x.waits,.sb x.wrong,.si .i64 x.n]
def aed:jV:=jV.mk ([]) wO false false 0
structure iP where
 o:iW
 t:iM
def jh (M:kM)(x:iP):List PV:=[.si .i64 x.o.id,.si .i64 x.o.card,.si .i64 x.o.owner,.si .i64 x.o.control,.si .i64 x.o.jQ,.sb x.o.token,.sb x.o.nC,.sb x.o.Df,.sb x.o.deadly,.si .i64 x.o.zn,.si .i64 x.o.counters.a0,.si .i64 x.o.counters.a1,.si .i64 x.o.counters.a2,.si .i64 x.o.stamp,.si .i64 x.o.copy,.si .i64 x.o.lG,.sb x.o.blocked,.si .i64 x.o.blocks,.si .i64 x.o.FK,.str x.t.name,.si .i64 x.t.cost.generic,.si .i64 x.t.cost.x,.si .i64 x.t.cost.color.a0,.si .i64 x.t.cost.color.a1,.si .i64 x.t.cost.color.a2,.si .i64 x.t.cost.color.a3,.si .i64 x.t.cost.color.a4,.si .i64 x.t.kU,.si .i64 x.t.line.OV,.si .i64 x.t.line.types,.sl 1 (M.m ByteArray eS x.t.line.subs) false,.si .i64 x.t.power,.si .i64 x.t.jE,.si .i64 x.t.keys,.sl 72 (M.m kF (lD M) x.t.jO) false,.si .i64 x.t.control]
def V9:iP:=iP.mk KP rU
structure vS where
 cards:List jI
 s:iT
 p:Int
 id:Int
 price:uh
def Ic (M:kM)(x:vS):List PV:=[.sl 17 (M.m jI (lJ M) x.cards) false,.sl 14 (M.m kD (lF M) x.s.ji) false,.sl 19 (M.m iW (ja M) x.s.objects) false,.sl 1 (M.m Int (eI .i64) x.s.lq) false,.sl 1 (M.m Int (eI .i64) x.s.uU) false,.sl 94 (M.m ou (pM M) x.s.stack) false,.sl 89 (M.m kT (mX M) x.s.waiting) false,.sl 6 (M.m pI (qQ M) x.s.oq) false,.si .i64 x.s.turn,.si .i64 x.s.nD,.si .i64 x.s.step,.sb x.s.begun,.si .i64 x.s.priority,.si .i64 x.s.passes,.si .i64 x.s.nextId,.si .i64 x.s.nH,.si .u64 x.s.seed,.sl 1 (M.m Int (eI .i64) x.s.extra) false,.si .i64 x.s.over,.si .i64 x.s.uJ,.si .i64 x.p,.si .i64 x.id,.si .i64 x.price.og.generic,.si .i64 x.price.og.x,.si .i64 x.price.og.color.a0,.si .i64 x.price.og.color.a1,.si .i64 x.price.og.color.a2,.si .i64 x.price.og.color.a3,.si .i64 x.price.og.color.a4,.sb x.price.vZ,.sb x.price.vO,.si .i64 x.price.life]
def aee:vS:=vS.mk ([]) WE 0 0 TN
def xZ:Option Bool:=some true
def QA (c:Int):Option Bool :=
 br (decide (97<=c)) (some (decide (c<=122)))
 (some false)
def U1 (s:ByteArray)(s7:Int)(k8:Int->Option Bool):Option Bool :=
 br (decide (s7<(s.size:Int))) (jn (λs10:Bool =>
 br s10 (some false)
 (jn (λs19:Bool =>
 br s19 (some false)
 (k8 (jq s7 1))) λk20 =>
 br (decide (0<s7)) (bnd (Rn s s7) λx22 =>
 br (decide (x22=45)) (bnd (Rn s (jS s7 1)) λx23 =>
 k20 (decide (x23=45)))
 (k20 false))
 (k20 false))) λk11 =>
 bnd (Rn s s7) λx13 =>
 bnd (QA x13) λy14 =>
 br (y14==false) (bnd (Rn s s7) λx15 =>
 br (decide (x15<48)) (bnd (Rn s s7) λx16 =>
 k11 (!decide (x16=45)))
 (bnd (Rn s s7) λx17 =>
 br (decide (57<x17)) (bnd (Rn s s7) λx18 =>
 k11 (!decide (x18=45)))
 (k11 false)))
 (k11 false))
 (some true)
def Rx (s:ByteArray):Option Bool :=
 jn (λs1:Bool =>
 br s1 (some false)
 (jw (U1 s) 0)) λk2 =>
 br (decide ((s.size:Int)<1)) (k2 true)
 (br (decide (32<(s.size:Int))) (k2 true)
 (bnd (Rn s 0) λx4 =>
 bnd (QA x4) λy5 =>
 br (y5==false) (k2 true)
 (bnd (Rn s (jS (s.size:Int) 1)) λx6 =>
 k2 (decide (x6=45)))))
def G7 (c:oH)(s4:Int)(k5:Int->Option Bool):Option Bool :=
 br (decide (s4<5)) (jn (λs7:Bool =>
 br s7 (some false)
 (k5 (jq s4 1))) λk8 =>
 sel s4 5 λj10=>(match j10 with|0=>(br (decide (c.color.a0<0)) (k8 true) (sel s4 5 λj11=>(match j11 with|0=>(k8 (decide (9<c.color.a0)))  | 1=>(k8 (decide (9<c.color.a1)))  | 2=>(k8 (decide (9<c.color.a2)))  | 3=>(k8 (decide (9<c.color.a3)))  | _=>(k8 (decide (9<c.color.a4))) )))  | 1=>(br (decide (c.color.a1<0)) (k8 true) (sel s4 5 λj12=>(match j12 with|0=>(k8 (decide (9<c.color.a0)))  | 1=>(k8 (decide (9<c.color.a1)))  | 2=>(k8 (decide (9<c.color.a2)))  | 3=>(k8 (decide (9<c.color.a3)))  | _=>(k8 (decide (9<c.color.a4))) )))  | 2=>(br (decide (c.color.a2<0)) (k8 true) (sel s4 5 λj13=>(match j13 with|0=>(k8 (decide (9<c.color.a0)))  | 1=>(k8 (decide (9<c.color.a1)))  | 2=>(k8 (decide (9<c.color.a2)))  | 3=>(k8 (decide (9<c.color.a3)))  | _=>(k8 (decide (9<c.color.a4))) )))  | 3=>(br (decide (c.color.a3<0)) (k8 true) (sel s4 5 λj14=>(match j14 with|0=>(k8 (decide (9<c.color.a0)))  | 1=>(k8 (decide (9<c.color.a1)))  | 2=>(k8 (decide (9<c.color.a2)))  | 3=>(k8 (decide (9<c.color.a3)))  | _=>(k8 (decide (9<c.color.a4))) )))  | _=>(br (decide (c.color.a4<0)) (k8 true) (sel s4 5 λj15=>(match j15 with|0=>(k8 (decide (9<c.color.a0)))  | 1=>(k8 (decide (9<c.color.a1)))  | 2=>(k8 (decide (9<c.color.a2)))  | 3=>(k8 (decide (9<c.color.a3)))  | _=>(k8 (decide (9<c.color.a4))) ))) ))
 (some true)
def FM (c:oH):Option Bool :=
 jn (λs1:Bool =>
 br s1 (some false)
 (jw (G7 c) 0)) λk2 =>
 br (decide (c.generic<0)) (k2 true)
 (br (decide (99<c.generic)) (k2 true)
 (br (decide (c.x<0)) (k2 true)
 (k2 (decide (2<c.x)))))
def Nh (l:List ByteArray)(s:ByteArray)(s1:Int)(k2:Int->Option Int):Option Int :=
 br (decide (s1<(iV l))) (bnd (kJ l s1) λx4 =>
 br (lg .eql x4 s) (some s1)
 (k2 (jq s1 1)))
 (some (-1))
def Dz (l:List ByteArray)(s:ByteArray):Option Int :=
 jw (Nh l s) 0
def yf  : Option (List ByteArray) :=
 some ([(bs [98,97,115,105,99]),(bs [117,110,105,113,117,101])])
def wX  : Option (List ByteArray) :=
 some ([(bs [99,114,101,97,116,117,114,101]),(bs [105,110,115,116,97,110,116]),(bs [114,105,116,117,97,108]),(bs [114,101,108,105,99]),(bs [99,104,97,114,109]),(bs [108,97,110,100])])
def yO (s:ByteArray):Option Bool :=
 bnd (Rx s) λy1 =>
 br y1 (bnd (yf) λy2 =>
 bnd (Dz y2 s) λy3 =>
 br (decide (y3<0)) (bnd (wX) λy4 =>
 bnd (Dz y4 s) λy5 =>
 some (decide (y5<0)))
 (some false))
 (some false)
def Ry (i:Int)(s1:Int×Int)(k2:(Int×Int)->Option Bool):Option Bool :=
 br (decide (s1.2<i)) (bnd (divO .quo .i64 s1.1 2) λx4 =>
 k2 (x4,(jq s1.2 1)))
 (bnd (divO .rem .i64 s1.1 2) λx5 =>
 some (decide (x5=1)))
def Nj (mask:Int)(i:Int):Option Bool :=
 jw (Ry i) (mask,0)
def U3 (l:wu)(s4:Int)(k5:Int->Option Bool):Option Bool :=
 br (decide (s4<(iV l.subs))) (jn (λs7:Bool =>
 br s7 (some false)
 (k5 (jq s4 1))) λk8 =>
 bnd (kJ l.subs s4) λx10 =>
 bnd (yO x10) λy11 =>
 br (y11==false) (k8 true)
 (br (decide (0<s4)) (bnd (kJ l.subs (jS s4 1)) λx12 =>
 bnd (kJ l.subs s4) λx13 =>
 k8 (lg .geq x12 x13))
 (k8 false)))
 (br (decide (l.types=2)) (some true)
 (br (decide (l.types=4)) (some true)
 (bnd (Nj l.types 1) λy14 =>
 br (y14==false) (bnd (Nj l.types 2) λy15 =>
 some (y15==false))
 (some false))))
def JP (l:wu):Option Bool :=
 jn (λs1:Bool =>
 br s1 (some false)
 (jw (U3 l) 0)) λk2 =>
 br (decide (l.OV<0)) (k2 true)
 (br (decide (3<l.OV)) (k2 true)
 (br (decide (l.types<1)) (k2 true)
 (br (decide (63<l.types)) (k2 true)
 (k2 (decide (4<(iV l.subs)))))))
def OW (mask:Int):Option Bool :=
 br (decide (0<=mask)) (some (decide (mask<=131071)))
 (some false)
def Bi (c:jI):Option Bool :=
 some (!decide ((kz .and .i64 c.line.types 1)=0))
def Nk  (s4:Int×Int×Int)(k5:(Int×Int×Int)->Option Bool):Option Bool :=
 br (decide (s4.2.2<6)) (jn (λs7:Bool =>
 br s7 (some false)
 (bnd (divO .quo .i64 s4.1 2) λx12 =>
 bnd (divO .quo .i64 s4.2.1 2) λx13 =>
 k5 (x12,x13,(jq s4.2.2 1)))) λk8 =>
 bnd (divO .rem .i64 s4.1 2) λx10 =>
 br (decide (x10=1)) (bnd (divO .rem .i64 s4.2.1 2) λx11 =>
 k8 (decide (x11=1)))
 (k8 false))
 (some true)
def G8 (a:Int)(b:Int)(most:Int):Option Bool :=
 jn (λs1:Bool =>
 br s1 (some false)
 (jw (Nk) (a,b,0))) λk2 =>
 br (decide (a<0)) (k2 true)
 (br (decide (most<a)) (k2 true)
 (br (decide (b<0)) (k2 true)
 (k2 (decide (most<b)))))
def DC (b:xX):Option Bool :=
 jn (λs1:Bool =>
 br s1 (some false)
 (br (!decide (b.kind=0)) (some true)
 (some (decide (b.n=0))))) λk2 =>
 br (decide (b.kind<0)) (k2 true)
 (br (decide (3<b.kind)) (k2 true)
 (br (decide (b.n<0)) (k2 true)
 (k2 (decide (1000000<b.n)))))
def Bj (f:lX):Option Bool :=
 jn (λs1:Bool =>
 br s1 (some false)
 (jn (λs4:Bool =>
 br s4 (some false)
 (jn (λs9:Bool =>
 br s9 (some false)
 (bnd (DC f.power) λy13 =>
 br y13 (bnd (DC f.jE) λy14 =>
 br y14 (bnd (DC f.value) λy15 =>
 some y15)
 (some false))
 (some false))) λk10 =>
 br (lg .neq f.sub (bs [])) (bnd (yO f.sub) λy12 =>
 br (y12==false) (k10 true)
 (br (decide (f.keys<0)) (k10 true)
 (k10 (decide (131071<f.keys)))))
 (br (decide (f.keys<0)) (k10 true)
 (k10 (decide (131071<f.keys)))))) λk5 =>
 bnd (G8 f.types f.jU 63) λy7 =>
 br (y7==false) (k5 true)
 (bnd (G8 f.kU f.jL 31) λy8 =>
 k5 (y8==false)))) λk2 =>
 br (decide (f.jQ<0)) (k2 true)
 (br (decide (5<f.jQ)) (k2 true)
 (br (decide (f.who<0)) (k2 true)
 (br (decide (2<f.who)) (k2 true)
 (br (decide (f.self<0)) (k2 true)
 (br (decide (2<f.self)) (k2 true)
 (br (decide (f.vZ<0)) (k2 true)
 (k2 (decide (2<f.vZ)))))))))
def OX (m:nN):Option nN :=
 br (decide (m.kind=2)) (some { m with kind:=0,n:=0 })
 (br (decide (m.kind=3)) (some { m with kind:=0,n:=0 })
 (br (decide (m.kind=6)) (some { m with kind:=0,n:=0 })
 (br (decide (m.kind=7)) (some { m with kind:=0,n:=0 })
 (br (decide (m.kind=8)) (some { m with kind:=0,n:=0 })
 (br (decide (m.kind=9)) (some { m with kind:=0,n:=0 })
 (br (decide (m.kind=4)) (some { m with kind:=0,sub:=(bs []) })
 (br (decide (m.kind=5)) (some { m with kind:=0,sub:=(bs []) })
 (br (decide (m.kind=11)) (some { m with kind:=0,filter:=qL })
 (br (decide (m.kind=12)) (some (nN.mk 0 0 0 m.sub m.filter))
 (br (decide (m.kind=13)) (some (nN.mk 0 0 0 m.sub m.filter))
 (some { m with kind:=0 })))))))))))
def Am (mask:Int):Option Bool :=
 br (decide (1<=mask)) (br (decide (mask<=63)) (some (decide ((kz .and .i64 mask 6)=0)))
 (some false))
 (some false)
def JQ (m:nN):Option Bool :=
 jn (λs1:Bool =>
 br s1 (some false)
 (br (decide (m.kind=2)) (bnd (Am m.n) λy6 =>
 some y6)
 (br (decide (m.kind=3)) (bnd (Am m.n) λy7 =>
 some y7)
 (br (decide (m.kind=4)) (bnd (yO m.sub) λy8 =>
 some y8)
 (br (decide (m.kind=5)) (bnd (yO m.sub) λy9 =>
 some y9)
 (br (decide (m.kind=6)) (br (decide (0<=m.n)) (some (decide (m.n<=31)))
 (some false))
 (br (decide (m.kind=7)) (br (decide (1<=m.n)) (some (decide (m.n<=31)))
 (some false))
 (br (decide (m.kind=8)) (br (decide (1<=m.n)) (some (decide (m.n<=131071)))
 (some false))
 (br (decide (m.kind=9)) (br (decide (1<=m.n)) (some (decide (m.n<=131071)))
 (some false))
 (br (decide (m.kind=11)) (bnd (Bj m.filter) λy10 =>
 some y10)
 (br (decide (m.kind=12)) (br (decide (0<=m.n)) (br (decide (m.n<=99)) (br (decide (0<=m.m)) (some (decide (m.m<=99)))
 (some false))
 (some false))
 (some false))
 (br (decide (m.kind=13)) (br (decide ((-99)<=m.n)) (br (decide (m.n<=99)) (br (decide ((-99)<=m.m)) (some (decide (m.m<=99)))
 (some false))
 (some false))
 (some false))
 (some true))))))))))))) λk2 =>
 br (decide (m.kind<1)) (k2 true)
 (br (decide (14<m.kind)) (k2 true)
 (bnd (OX m) λy4 =>
 lt ((decide (y4.kind=0)&&(decide (y4.n=0)&&(decide (y4.m=0)&&(lg .eql y4.sub (bs [])&&(decide (y4.filter.jQ=0)&&(decide (y4.filter.who=0)&&(decide (y4.filter.self=0)&&(decide (y4.filter.types=0)&&(decide (y4.filter.jU=0)&&(decide (y4.filter.kU=0)&&(decide (y4.filter.jL=0)&&(lg .eql y4.filter.sub (bs [])&&(decide (y4.filter.keys=0)&&(decide (y4.filter.vZ=0)&&(decide (y4.filter.power.kind=0)&&(decide (y4.filter.power.n=0)&&(decide (y4.filter.jE.kind=0)&&(decide (y4.filter.jE.n=0)&&(decide (y4.filter.value.kind=0)&&(decide (y4.filter.value.n=0)&&true))))))))))))))))))))==false) λv5 =>
 k2 v5))
def Eo (l:List ByteArray)(mask:Int)(pby:ByteArray)(s1:ByteArray×Int)(k2:(ByteArray×Int)->Option ByteArray):Option ByteArray :=
 br (decide (s1.2<(iV l))) (jn (λs4:ByteArray =>
 k2 (s4,(jq s1.2 1))) λk5 =>
 bnd (Nj mask s1.2) λy7 =>
 br y7 (jn (λs8:ByteArray =>
 bnd (kJ l s1.2) λx12 =>
 bnd (uY s8 x12) λx13 =>
 k5 x13) λk9 =>
 br (lg .neq s1.1 (bs [])) (bnd (uY s1.1 pby) λx11 =>
 k9 x11)
 (k9 s1.1))
 (k5 s1.1))
 (some s1.1)
def Ie (l:List ByteArray)(mask:Int)(pby:ByteArray):Option ByteArray :=
 jw (Eo l mask pby) ((bs []),0)
def uK (mask:Int):Option ByteArray :=
 br (decide (mask<1)) (some (bs []))
 (br (decide (63<mask)) (some (bs []))
 (bnd (wX) λy1 =>
 bnd (Ie y1 mask (bs [43])) λy2 =>
 some y2))
def X5 (mask:Int):Option Bool :=
 br (decide (0<=mask)) (some (decide (mask<=31)))
 (some false)
def Ig (i:Int):Option ByteArray :=
 br (decide (i=0)) (some (bs [97,109,98,101,114]))
 (br (decide (i=1)) (some (bs [99,111,98,97,108,116]))
 (br (decide (i=2)) (some (bs [106,101,116]))
 (br (decide (i=3)) (some (bs [114,117,98,121]))
 (br (decide (i=4)) (some (bs [101,109,101,114,97,108,100]))
 (some (bs []))))))
def Jg (mask:Int)(s2:ByteArray×Int)(k3:(ByteArray×Int)->Option ByteArray):Option ByteArray :=
 br (decide (s2.2<5)) (jn (λs5:ByteArray =>
 k3 (s5,(jq s2.2 1))) λk6 =>
 bnd (adV .shl .i64 1 s2.2) λx8 =>
 bnd (divO .quo .i64 mask x8) λx9 =>
 bnd (divO .rem .i64 x9 2) λx10 =>
 br (decide (x10=1)) (jn (λs11:ByteArray =>
 bnd (Ig s2.2) λy15 =>
 bnd (uY s11 y15) λx16 =>
 k6 x16) λk12 =>
 br (lg .neq s2.1 (bs [])) (bnd (uY s2.1 (bs [43])) λx14 =>
 k12 x14)
 (k12 s2.1))
 (k6 s2.1))
 (some s2.1)
def KQ (mask:Int):Option ByteArray :=
 bnd (X5 mask) λy1 =>
 br (y1==false) (some (bs []))
 (br (decide (mask=0)) (some (bs [110,111,110,101]))
 (jw (Jg mask) ((bs []),0)))
def KR  : Option (List ByteArray) :=
 some ([(bs [102,108,121,105,110,103]),(bs [114,101,97,99,104]),(bs [104,97,115,116,101]),(bs [118,105,103,105,108,97,110,116]),(bs [116,114,97,109,112,108,101]),(bs [102,105,114,115,116,45,115,116,114,105,107,101]),(bs [100,111,117,98,108,101,45,115,116,114,105,107,101]),(bs [100,101,97,100,108,121]),(bs [108,105,102,101,108,105,110,107]),(bs [109,101,110,97,99,101]),(bs [100,101,102,101,110,100,101,114]),(bs [119,97,114,100,101,100]),(bs [115,116,117,114,100,121]),(bs [101,108,117,115,105,118,101]),(bs [110,111,45,97,116,116,97,99,107]),(bs [110,111,45,98,108,111,99,107]),(bs [109,117,115,116,45,97,116,116,97,99,107])])
def KT (i:Int):Option ByteArray :=
 br (decide (i<0)) (some (bs []))
 (br (decide (16<i)) (some (bs []))
 (bnd (KR) λy1 =>
 bnd (kJ y1 i) λx2 =>
 some x2))
def OY  (s2:Int×ByteArray×Int)(k3:(Int×ByteArray×Int)->Option ByteArray):Option ByteArray :=
 br (decide (s2.2.2<17)) (jn (λs5:Int×ByteArray =>
 k3 (s5.1,s5.2,(jq s2.2.2 1))) λk6 =>
 jn (λs8:ByteArray =>
 bnd (divO .quo .i64 s2.1 2) λx18 =>
 k6 (x18,s8)) λk9 =>
 bnd (divO .rem .i64 s2.1 2) λx11 =>
 br (decide (x11=1)) (jn (λs12:ByteArray =>
 bnd (KT s2.2.2) λy16 =>
 bnd (uY s12 y16) λx17 =>
 k9 x17) λk13 =>
 br (lg .neq s2.2.1 (bs [])) (bnd (uY s2.2.1 (bs [43])) λx15 =>
 k13 x15)
 (k13 s2.2.1))
 (k9 s2.2.1))
 (br (lg .eql s2.2.1 (bs [])) (some (bs [110,111,110,101]))
 (some s2.2.1))
def KU (mask:Int):Option ByteArray :=
 bnd (OW mask) λy1 =>
 br (y1==false) (some (bs []))
 (jw (OY) (mask,(bs []),0))
def zA  : Option (List ByteArray) :=
 some ([(bs []),(bs [105,110,45,104,97,110,100]),(bs [105,110,45,108,105,98,114,97,114,121]),(bs [105,110,45,103,114,97,118,101,121,97,114,100]),(bs [105,110,45,101,120,105,108,101]),(bs [111,110,45,115,116,97,99,107])])
def Bl  : Option (List ByteArray) :=
 some ([(bs []),(bs [121,111,117,114,115]),(bs [116,104,101,105,114,115])])
def zB  : Option (List ByteArray) :=
 some ([(bs []),(bs [115,101,108,102]),(bs [111,116,104,101,114])])
def Bo  : Option (List ByteArray) :=
 some ([(bs []),(bs [116,97,112,112,101,100]),(bs [117,110,116,97,112,112,101,100])])
def Bq (l:List ByteArray)(s:ByteArray):Option (List ByteArray) :=
 br (lg .eql s (bs [])) (some l)
 (jW (l.length+([s]).length) 16 (
 some (l++[s])))
def Rz (i:Int)(s1:Int×Int)(k2:(Int×Int)->Option Bool):Option Bool :=
 br (decide (s1.2<i)) (bnd (divO .quo .i64 s1.1 2) λx4 =>
 k2 (x4,(jq s1.2 1)))
 (bnd (divO .rem .i64 s1.1 2) λx5 =>
 some (decide (x5=1)))
def Gi (mask:Int)(i:Int):Option Bool :=
 jw (Rz i) (mask,0)
def FN (i:Int)(s1:Int×Int)(k2:(Int×Int)->Option ByteArray):Option ByteArray :=
 br (decide (s1.2<i)) (k2 ((zu s1.1 2),(jq s1.2 1)))
 (bnd (uK s1.1) λy4 =>
 some y4)
def yP (i:Int):Option ByteArray :=
 jw (FN i) (1,0)
def JR  (s4:Int×ByteArray)(k5:(Int×ByteArray)->Option ByteArray):Option ByteArray :=
 br (decide (0<s4.1)) (bnd (divO .rem .u64 s4.1 10) λx7 =>
 bnd (adW ([(IntKind.wrap .u8 (kz .add .u64 48 x7))])) λx8 =>
 bnd (uY x8 s4.2) λx9 =>
 bnd (divO .quo .u64 s4.1 10) λx10 =>
 k5 (x10,x9))
 (some s4.2)
def DD (u:Int):Option ByteArray :=
 bnd (divO .rem .u64 u 10) λx1 =>
 bnd (adW ([(IntKind.wrap .u8 (kz .add .u64 48 x1))])) λx2 =>
 bnd (divO .quo .u64 u 10) λx3 =>
 jw (JR) (x3,x2)
def zC (n:Int):Option ByteArray :=
 br (decide (n<0)) (bnd (DD (IntKind.wrap .u64 (0-(IntKind.wrap .u64 n)))) λy1 =>
 bnd (uY (bs [45]) y1) λx2 =>
 some x2)
 (bnd (DD (IntKind.wrap .u64 n)) λy3 =>
 some y3)
def KW  : Option (List ByteArray) :=
 some ([(bs []),(bs [62,61]),(bs [60,61]),(bs [61])])
def uM (name:ByteArray)(b:xX):Option ByteArray :=
 br (decide (b.kind=0)) (some (bs []))
 (bnd (KW) λy1 =>
 bnd (kJ y1 b.kind) λx2 =>
 bnd (uY name x2) λx3 =>
 bnd (zC b.n) λy4 =>
 bnd (uY x3 y4) λx5 =>
 some x5)
def Jh (l:List ByteArray)(pby:ByteArray)(s1:ByteArray×Int)(k2:(ByteArray×Int)->Option ByteArray):Option ByteArray :=
 br (decide (s1.2<(iV l))) (jn (λs4:ByteArray =>
 k2 (s4,(jq s1.2 1))) λk5 =>
 jn (λs7:ByteArray =>
 bnd (kJ l s1.2) λx11 =>
 bnd (uY s7 x11) λx12 =>
 k5 x12) λk8 =>
 br (decide (0<s1.2)) (bnd (uY s1.1 pby) λx10 =>
 k8 x10)
 (k8 s1.1))
 (some s1.1)
def OZ (l:List ByteArray)(pby:ByteArray):Option ByteArray :=
 jw (Jh l pby) ((bs []),0)
def Ji (f:lX)(y5:List ByteArray)(s50:Int×(List ByteArray))(k51:(Int×(List ByteArray))->Option ByteArray):Option ByteArray :=
 br (decide (s50.1<17)) (jn (λs53:(List ByteArray) =>
 k51 ((jq s50.1 1),s53)) λk54 =>
 bnd (Gi f.keys s50.1) λy56 =>
 br y56 (bnd (KT s50.1) λy57 =>
 bnd (uY (bs [119,105,116,104,58]) y57) λx58 =>
 jW (s50.2.length+([x58]).length) 16 (
 k54 (s50.2++[x58])))
 (k54 s50.2))
 (bnd (kJ y5 f.vZ) λx59 =>
 bnd (Bq s50.2 x59) λy60 =>
 bnd (uM (bs [112,111,119,101,114]) f.power) λy61 =>
 bnd (Bq y60 y61) λy62 =>
 bnd (uM (bs [116,111,117,103,104]) f.jE) λy63 =>
 bnd (Bq y62 y63) λy64 =>
 bnd (uM (bs [118,97,108,117,101]) f.value) λy65 =>
 bnd (Bq y64 y65) λy66 =>
 br (decide ((iV y66)=0)) (some (bs [97,110,121]))
 (bnd (OZ y66 (bs [32])) λy67 =>
 some y67))
def Jj (f:lX)(y5:List ByteArray)(s37:Int×(List ByteArray))(k38:(Int×(List ByteArray))->Option ByteArray):Option ByteArray :=
 br (decide (s37.1<5)) (jn (λs40:(List ByteArray) =>
 k38 ((jq s37.1 1),s40)) λk41 =>
 bnd (Gi f.jL s37.1) λy43 =>
 br y43 (bnd (Ig s37.1) λy44 =>
 bnd (uY (bs [110,111,110,45]) y44) λx45 =>
 jW (s37.2.length+([x45]).length) 16 (
 k41 (s37.2++[x45])))
 (k41 s37.2))
 (jn (λs46:(List ByteArray) =>
 jw (Ji f y5) (0,s46)) λk47 =>
 br (lg .neq f.sub (bs [])) (bnd (uY (bs [115,117,98,58]) f.sub) λx49 =>
 jW (s37.2.length+([x49]).length) 16 (
 k47 (s37.2++[x49])))
 (k47 s37.2))
def Jk (f:lX)(y5:List ByteArray)(s29:Int×(List ByteArray))(k30:(Int×(List ByteArray))->Option ByteArray):Option ByteArray :=
 br (decide (s29.1<5)) (jn (λs32:(List ByteArray) =>
 k30 ((jq s29.1 1),s32)) λk33 =>
 bnd (Gi f.kU s29.1) λy35 =>
 br y35 (bnd (Ig s29.1) λy36 =>
 jW (s29.2.length+([y36]).length) 16 (
 k33 (s29.2++[y36])))
 (k33 s29.2))
 (jw (Jj f y5) (0,s29.2))
def Jl (f:lX)(y5:List ByteArray)(s20:Int×(List ByteArray))(k21:(Int×(List ByteArray))->Option ByteArray):Option ByteArray :=
 br (decide (s20.1<6)) (jn (λs23:(List ByteArray) =>
 k21 ((jq s20.1 1),s23)) λk24 =>
 bnd (Gi f.jU s20.1) λy26 =>
 br y26 (bnd (yP s20.1) λy27 =>
 bnd (uY (bs [110,111,110,45]) y27) λx28 =>
 jW (s20.2.length+([x28]).length) 16 (
 k24 (s20.2++[x28])))
 (k24 s20.2))
 (jw (Jk f y5) (0,s20.2))
def Jm (f:lX)(y5:List ByteArray)(s12:Int×(List ByteArray))(k13:(Int×(List ByteArray))->Option ByteArray):Option ByteArray :=
 br (decide (s12.1<6)) (jn (λs15:(List ByteArray) =>
 k13 ((jq s12.1 1),s15)) λk16 =>
 bnd (Gi f.types s12.1) λy18 =>
 br y18 (bnd (yP s12.1) λy19 =>
 jW (s12.2.length+([y19]).length) 16 (
 k16 (s12.2++[y19])))
 (k16 s12.2))
 (jw (Jl f y5) (0,s12.2))
def O0 (f:lX):Option ByteArray :=
 bnd (Bj f) λy1 =>
 br (y1==false) (some (bs []))
 (bnd (zA) λy2 =>
 bnd (Bl) λy3 =>
 bnd (zB) λy4 =>
 bnd (Bo) λy5 =>
 bnd (kJ y2 f.jQ) λx6 =>
 bnd (Bq ([]) x6) λy7 =>
 bnd (kJ y3 f.who) λx8 =>
 bnd (Bq y7 x8) λy9 =>
 bnd (kJ y4 f.self) λx10 =>
 bnd (Bq y9 x10) λy11 =>
 jw (Jm f y5) (0,y11))
def O1 (m:nN):Option ByteArray :=
 bnd (JQ m) λy1 =>
 br (y1==false) (some (bs []))
 (br (decide (m.kind=1)) (some (bs [99,111,110,116,114,111,108]))
 (br (decide (m.kind=2)) (bnd (uK m.n) λy2 =>
 bnd (uY (bs [116,121,112,101,115,61]) y2) λx3 =>
 some x3)
 (br (decide (m.kind=3)) (bnd (uK m.n) λy4 =>
 bnd (uY (bs [116,121,112,101,115,43,61]) y4) λx5 =>
 some x5)
 (br (decide (m.kind=4)) (bnd (uY (bs [115,117,98,61]) m.sub) λx6 =>
 some x6)
 (br (decide (m.kind=5)) (bnd (uY (bs [115,117,98,43,61]) m.sub) λx7 =>
 some x7)
 (br (decide (m.kind=6)) (bnd (KQ m.n) λy8 =>
 bnd (uY (bs [99,111,108,111,114,115,61]) y8) λx9 =>
 some x9)
 (br (decide (m.kind=7)) (bnd (KQ m.n) λy10 =>
 bnd (uY (bs [99,111,108,111,114,115,43,61]) y10) λx11 =>
 some x11)
 (br (decide (m.kind=8)) (bnd (KU m.n) λy12 =>
 bnd (uY (bs [107,101,121,115,43,61]) y12) λx13 =>
 some x13)
 (br (decide (m.kind=9)) (bnd (KU m.n) λy14 =>
 bnd (uY (bs [107,101,121,115,45,61]) y14) λx15 =>
 some x15)
 (br (decide (m.kind=10)) (some (bs [98,108,97,110,107]))
 (br (decide (m.kind=11)) (bnd (O0 m.filter) λy16 =>
 bnd (uY (bs [112,116,61,99,111,117,110,116,40]) y16) λx17 =>
 bnd (uY x17 (bs [41])) λx18 =>
 some x18)
 (br (decide (m.kind=12)) (bnd (zC m.n) λy19 =>
 bnd (uY (bs [112,116,61]) y19) λx20 =>
 bnd (uY x20 (bs [47])) λx21 =>
 bnd (zC m.m) λy22 =>
 bnd (uY x21 y22) λx23 =>
 some x23)
 (br (decide (m.kind=13)) (bnd (zC m.n) λy24 =>
 bnd (uY (bs [112,116,43,61]) y24) λx25 =>
 bnd (uY x25 (bs [47])) λx26 =>
 bnd (zC m.m) λy27 =>
 bnd (uY x26 y27) λx28 =>
 some x28)
 (some (bs [112,116,45,115,119,105,116,99,104])))))))))))))))
def zK (l:List nN)(s4:ByteArray×Int)(k5:(ByteArray×Int)->Option ByteArray):Option ByteArray :=
 br (decide (s4.2<(iV l))) (jn (λs7:ByteArray =>
 k5 (s7,(jq s4.2 1))) λk8 =>
 bnd (kJ l s4.2) λx10 =>
 bnd (JQ x10) λy11 =>
 br (y11==false) (some (bs []))
 (jn (λs12:ByteArray =>
 bnd (kJ l s4.2) λx16 =>
 bnd (O1 x16) λy17 =>
 bnd (uY s12 y17) λx18 =>
 k8 x18) λk13 =>
 br (decide (0<s4.2)) (bnd (uY s4.1 (bs [44,32])) λx15 =>
 k13 x15)
 (k13 s4.1)))
 (some s4.1)
def wB (l:List nN):Option ByteArray :=
 jn (λs1:Bool =>
 br s1 (some (bs []))
 (jw (zK l) ((bs []),0))) λk2 =>
 br (decide ((iV l)=0)) (k2 true)
 (k2 (decide (6<(iV l))))
def KX (p:uh):Option Bool :=
 bnd (FM p.og) λy1 =>
 br y1 (br (decide (p.og.x=0)) (br (decide (0<=p.life)) (some (decide (p.life<=99)))
 (some false))
 (some false))
 (some false)
def KY (when:Int):Option ByteArray :=
 br (decide (when=1)) (some (bs [101,110,116,101,114,115]))
 (br (decide (when=2)) (some (bs [108,101,97,118,101,115]))
 (br (decide (when=3)) (some (bs [100,105,101,115]))
 (br (decide (when=4)) (some (bs [97,116,116,97,99,107,115]))
 (br (decide (when=5)) (some (bs [98,108,111,99,107,115]))
 (br (decide (when=6)) (some (bs [100,101,97,108,115]))
 (br (decide (when=7)) (some (bs [100,101,97,108,116]))
 (br (decide (when=8)) (some (bs [100,114,97,119,115]))
 (br (decide (when=9)) (some (bs [99,97,115,116,115]))
 (br (decide (when=10)) (some (bs [117,112,107,101,101,112]))
 (br (decide (when=11)) (some (bs [101,110,100]))
 (br (decide (when=12)) (some (bs [103,97,105,110,115]))
 (br (decide (when=13)) (some (bs [108,111,115,101,115]))
 (br (decide (when=14)) (some (bs [112,108,97,99,101,100]))
 (some (bs [])))))))))))))))
def DF (when:Int):Option Bool :=
 br (decide (when=8)) (some true)
 (br (decide (when=9)) (some true)
 (br (decide (when=10)) (some true)
 (br (decide (when=11)) (some true)
 (br (decide (when=12)) (some true)
 (some (decide (when=13)))))))
def zD (when:Int):Option Bool :=
 bnd (KY when) λy1 =>
 br (lg .neq y1 (bs [])) (bnd (DF when) λy2 =>
 br (y2==false) (some true)
 (some (decide (when=9))))
 (some false)
def X6 (t:xY):Option Bool :=
 jn (λs1:Bool =>
 br s1 (some false)
 (bnd (zD t.when) λy6 =>
 br (y6==false) (lt (decide (t.filter.jQ=0)&&(decide (t.filter.who=0)&&(decide (t.filter.self=0)&&(decide (t.filter.types=0)&&(decide (t.filter.jU=0)&&(decide (t.filter.kU=0)&&(decide (t.filter.jL=0)&&(lg .eql t.filter.sub (bs [])&&(decide (t.filter.keys=0)&&(decide (t.filter.vZ=0)&&(decide (t.filter.power.kind=0)&&(decide (t.filter.power.n=0)&&(decide (t.filter.jE.kind=0)&&(decide (t.filter.jE.n=0)&&(decide (t.filter.value.kind=0)&&(decide (t.filter.value.n=0)&&true)))))))))))))))) λv7 =>
 some v7)
 (jn (λs8:Int =>
 bnd (Bj t.filter) λy11 =>
 br y11 (some (decide (t.filter.jQ=s8)))
 (some false)) λk9 =>
 br (decide (t.when=9)) (k9 5)
 (k9 0)))) λk2 =>
 bnd (KY t.when) λy4 =>
 br (lg .eql y4 (bs [])) (k2 true)
 (br (decide (t.who<0)) (k2 true)
 (br (decide (2<t.who)) (k2 true)
 (bnd (DF t.when) λy5 =>
 br (y5==false) (k2 (!decide (t.who=0)))
 (k2 false))))
def DI (f:lX):Option Bool :=
 bnd (Bj f) λy1 =>
 br y1 (some (decide (f.jQ=0)))
 (some false)
def KZ (pr:rf):Option Bool :=
 jn (λs1:Bool =>
 br s1 (some false)
 (br (decide (pr.doF=5)) (br (decide (pr.n=0)) (br (decide (pr.counter=0)) (br (decide (pr.jQ=1)) (some true)
 (br (decide (pr.jQ=2)) (some true)
 (some (decide (pr.jQ=4)))))
 (some false))
 (some false))
 (br (decide (pr.doF=6)) (br (decide (pr.n=0)) (br (decide (pr.counter=0)) (some (decide (pr.jQ=0)))
 (some false))
 (some false))
 (br (decide (pr.doF=7)) (br (decide (pr.jQ=0)) (br (decide (1<=pr.n)) (br (decide (pr.n<=99)) (br (decide (0<=pr.counter)) (some (decide (pr.counter<3)))
 (some false))
 (some false))
 (some false))
 (some false))
 (some false))))) λk2 =>
 br (!decide (pr.who=0)) (k2 true)
 (bnd (DI pr.filter) λy4 =>
 k2 (y4==false))
def La (pr:rf):Option Bool :=
 jn (λs1:Bool =>
 br s1 (some false)
 (jn (λs4:Bool =>
 br s4 (br (decide (1<=pr.n)) (some (decide (pr.n<=99)))
 (some false))
 (some (decide (pr.n=0)))) λk5 =>
 br (decide (pr.doF=2)) (k5 true)
 (k5 (decide (pr.doF=4))))) λk2 =>
 br (!decide (pr.jQ=0)) (k2 true)
 (k2 (!decide (pr.counter=0)))
def X7 (pr:rf):Option Bool :=
 br (decide (pr.on=2)) (bnd (KZ pr) λy1 =>
 some y1)
 (bnd (La pr) λy2 =>
 br (y2==false) (some false)
 (lt (decide (pr.filter.jQ=0)&&(decide (pr.filter.who=0)&&(decide (pr.filter.self=0)&&(decide (pr.filter.types=0)&&(decide (pr.filter.jU=0)&&(decide (pr.filter.kU=0)&&(decide (pr.filter.jL=0)&&(lg .eql pr.filter.sub (bs [])&&(decide (pr.filter.keys=0)&&(decide (pr.filter.vZ=0)&&(decide (pr.filter.power.kind=0)&&(decide (pr.filter.power.n=0)&&(decide (pr.filter.jE.kind=0)&&(decide (pr.filter.jE.n=0)&&(decide (pr.filter.value.kind=0)&&(decide (pr.filter.value.n=0)&&true)))))))))))))))) λv3 =>
 jn (λs4:Bool×Bool =>
 br (decide (pr.on=1)) (jn (λs7:Bool =>
 br s7 (some false)
 (br (decide (pr.who=0)) (bnd (DI pr.filter) λy10 =>
 br y10 (some true)
 (br (decide (pr.who=1)) (some s4.1)
 (br (decide (pr.who=2)) (some s4.1)
 (some false))))
 (br (decide (pr.who=1)) (some s4.1)
 (br (decide (pr.who=2)) (some s4.1)
 (some false))))) λk8 =>
 br (!decide (pr.doF=1)) (br (!decide (pr.doF=2)) (br (!decide (pr.doF=3)) (k8 (!decide (pr.doF=4)))
 (k8 false))
 (k8 false))
 (k8 false))
 (br (decide (pr.on=8)) (br s4.2 (br (decide (pr.who=0)) (bnd (DI pr.filter) λy11 =>
 some y11)
 (some false))
 (some false))
 (br (decide (pr.on=3)) (br (decide (pr.doF=4)) (br (decide (0<=pr.who)) (br (decide (pr.who<=2)) (some s4.1)
 (some false))
 (some false))
 (br (decide (pr.doF=8)) (br (decide (0<=pr.who)) (br (decide (pr.who<=2)) (some s4.1)
 (some false))
 (some false))
 (some false)))
 (br (decide (pr.on=4)) (br s4.2 (br (decide (0<=pr.who)) (br (decide (pr.who<=2)) (some s4.1)
 (some false))
 (some false))
 (some false))
 (br (decide (pr.on=5)) (br s4.2 (br (decide (0<=pr.who)) (br (decide (pr.who<=2)) (some s4.1)
 (some false))
 (some false))
 (some false))
 (br (decide (pr.on=10)) (br s4.2 (br (decide (0<=pr.who)) (br (decide (pr.who<=2)) (some s4.1)
 (some false))
 (some false))
 (some false))
 (some false))))))) λk5 =>
 br (decide (pr.doF=3)) (k5 (v3,true))
 (br (decide (pr.doF=4)) (k5 (v3,true))
 (k5 (v3,(decide (pr.doF=8)))))))
def O3 (s:qM):Option Bool :=
 br (s.object==false) (jn (λs1:Bool =>
 some s1) λk2 =>
 br s.l9 (lt (decide (s.filter.jQ=0)&&(decide (s.filter.who=0)&&(decide (s.filter.self=0)&&(decide (s.filter.types=0)&&(decide (s.filter.jU=0)&&(decide (s.filter.kU=0)&&(decide (s.filter.jL=0)&&(lg .eql s.filter.sub (bs [])&&(decide (s.filter.keys=0)&&(decide (s.filter.vZ=0)&&(decide (s.filter.power.kind=0)&&(decide (s.filter.power.n=0)&&(decide (s.filter.jE.kind=0)&&(decide (s.filter.jE.n=0)&&(decide (s.filter.value.kind=0)&&(decide (s.filter.value.n=0)&&true)))))))))))))))) λv4 =>
 k2 v4)
 (k2 false))
 (bnd (Bj s.filter) λy5 =>
 br y5 (br (decide (s.filter.jQ=0)) (some true)
 (br (decide (s.filter.jQ=3)) (some true)
 (some (decide (s.filter.jQ=5)))))
 (some false))
def Nl (l:List qM)(s1:Int)(k2:Int->Option Bool):Option Bool :=
 br (decide (s1<(iV l))) (bnd (kJ l s1) λx4 =>
 bnd (O3 x4) λy5 =>
 br (y5==false) (some false)
 (k2 (jq s1 1)))
 (some (decide ((iV l)<=4)))
def Lc (l:List qM):Option Bool :=
 jw (Nl l) 0
def O4 (op:Int):Option ByteArray :=
 jn (λs1:Bool =>
 br s1 (some (bs []))
 (bnd (Hz 26 (jS op 1)) λj4 =>
 bnd (([(bs [100,97,109,97,103,101]),(bs [100,101,115,116,114,111,121]),(bs [109,111,118,101]),(bs [100,114,97,119]),(bs [100,105,115,99,97,114,100]),(bs [103,97,105,110]),(bs [108,111,115,101]),(bs [116,97,112]),(bs [117,110,116,97,112]),(bs [112,117,116]),(bs [116,97,107,101]),(bs [99,114,101,97,116,101]),(bs [109,111,100]),(bs [109,97,110,97]),(bs [99,111,117,110,116,101,114]),(bs [99,111,112,121]),(bs [98,101,99,111,109,101]),(bs [115,97,99,114,105,102,105,99,101]),(bs [109,105,108,108]),(bs [115,99,114,121]),(bs [115,101,97,114,99,104]),(bs [115,104,105,101,108,100]),(bs [116,117,114,110]),(bs [119,105,110]),(bs [100,101,102,101,97,116]),(bs [118,101,110,111,109])])[j4]?) λx5 =>
 some x5)) λk2 =>
 br (decide (op<1)) (k2 true)
 (k2 (decide (26<op)))
def O5 (op:Int):Option ByteArray :=
 br (decide (op=2)) (some (bs [114]))
 (br (decide (op=8)) (some (bs [114]))
 (br (decide (op=9)) (some (bs [114]))
 (br (decide (op=15)) (some (bs [114]))
 (br (decide (op=16)) (some (bs [114]))
 (br (decide (op=17)) (some (bs [114]))
 (br (decide (op=25)) (some (bs [114]))
 (br (decide (op=3)) (some (bs [114,122]))
 (br (decide (op=10)) (some (bs [114,107,97]))
 (br (decide (op=11)) (some (bs [114,107,97]))
 (br (decide (op=12)) (some (bs [114,99,97]))
 (br (decide (op=13)) (some (bs [114,109]))
 (br (decide (op=14)) (some (bs [112]))
 (br (decide (op=18)) (some (bs [114,97,102]))
 (br (decide (op=20)) (some (bs [97]))
 (br (decide (op=21)) (some (bs [102]))
 (br (decide (op=23)) (some (bs []))
 (br (decide (op=24)) (some (bs []))
 (some (bs [114,97])))))))))))))))))))
def O6 (field:Int)(y1:ByteArray)(s2:Int)(k3:Int->Option Bool):Option Bool :=
 br (decide (s2<(y1.size:Int))) (bnd (Rn y1 s2) λx5 =>
 br (decide (x5=field)) (some true)
 (k3 (jq s2 1)))
 (some false)
def wP (op:Int)(field:Int):Option Bool :=
 bnd (O5 op) λy1 =>
 jw (O6 field y1) 0
def Bv (kind:Int):Option Bool :=
 br (decide (kind=3)) (some true)
 (some (decide (kind=8)))
def X8 (pr:X4)(specs:Int):Option Bool :=
 jn (λs1:Int =>
 jn (λs4:Bool =>
 br s4 (some false)
 (jn (λs7:Unit =>
 br (decide (pr.kind=4)) (bnd (Bj pr.filter) λy14 =>
 some y14)
 (lt (decide (pr.filter.jQ=0)&&(decide (pr.filter.who=0)&&(decide (pr.filter.self=0)&&(decide (pr.filter.types=0)&&(decide (pr.filter.jU=0)&&(decide (pr.filter.kU=0)&&(decide (pr.filter.jL=0)&&(lg .eql pr.filter.sub (bs [])&&(decide (pr.filter.keys=0)&&(decide (pr.filter.vZ=0)&&(decide (pr.filter.power.kind=0)&&(decide (pr.filter.power.n=0)&&(decide (pr.filter.jE.kind=0)&&(decide (pr.filter.jE.n=0)&&(decide (pr.filter.value.kind=0)&&(decide (pr.filter.value.n=0)&&true)))))))))))))))) λv15 =>
 some v15)) λk8 =>
 bnd (Bv pr.kind) λy10 =>
 br y10 (jn (λs11:Bool =>
 br s11 (some false)
 (k8 ())) λk12 =>
 br (decide (pr.n<1)) (k12 true)
 (k12 (decide (s1<pr.n))))
 (br (!decide (pr.n=0)) (some false)
 (k8 ())))) λk5 =>
 br (decide (pr.kind<1)) (k5 true)
 (k5 (decide (8<pr.kind)))) λk2 =>
 br (decide (4<specs)) (k2 4)
 (k2 specs)
def Ld (kind:Int):Option ByteArray :=
 br (decide (kind=0)) (some (bs [112,108,117,115]))
 (br (decide (kind=1)) (some (bs [109,105,110,117,115]))
 (br (decide (kind=2)) (some (bs [99,104,97,114,103,101]))
 (some (bs []))))
def X9 (a:yN):Option Bool :=
 jn (λs1:yN =>
 br (decide (0<=a.kind)) (br (decide (a.kind<=7)) (lt (decide (s1.kind=a.kind)&&(decide (s1.n=0)&&(decide (s1.counter=0)&&(decide (s1.filter.jQ=0)&&(decide (s1.filter.who=0)&&(decide (s1.filter.self=0)&&(decide (s1.filter.types=0)&&(decide (s1.filter.jU=0)&&(decide (s1.filter.kU=0)&&(decide (s1.filter.jL=0)&&(lg .eql s1.filter.sub (bs [])&&(decide (s1.filter.keys=0)&&(decide (s1.filter.vZ=0)&&(decide (s1.filter.power.kind=0)&&(decide (s1.filter.power.n=0)&&(decide (s1.filter.jE.kind=0)&&(decide (s1.filter.jE.n=0)&&(decide (s1.filter.value.kind=0)&&(decide (s1.filter.value.n=0)&&true))))))))))))))))))) λv12 =>
 some v12)
 (some false))
 (some false)) λk2 =>
 br (decide (a.kind=0)) (jn (λs4:Bool =>
 br s4 (some false)
 (k2 { a with n:=0 })) λk5 =>
 br (decide (a.n<0)) (k5 true)
 (k5 (decide (1000000<a.n))))
 (br (decide (a.kind=2)) (jn (λs7:Bool =>
 br s7 (some false)
 (k2 { a with n:=0,filter:=qL })) λk8 =>
 br (decide (a.n<1)) (k8 true)
 (br (decide (99<a.n)) (k8 true)
 (bnd (Bj a.filter) λy10 =>
 k8 (y10==false))))
 (br (decide (a.kind=4)) (bnd (Ld a.counter) λy11 =>
 br (lg .eql y11 (bs [])) (some false)
 (k2 { a with counter:=0 }))
 (k2 a)))
def O7 (l:List nN):Option Bool :=
 bnd (wB l) λy1 =>
 some (lg .neq y1 (bs []))
def O8 (c:oH)(s11:ByteArray×Int)(k12:(ByteArray×Int)->Option ByteArray)(s14:ByteArray×Int)(k15:(ByteArray×Int)->Option ByteArray):Option ByteArray :=
 jn (λs17:Bool =>
 br s17 (bnd (agc (bs [65,67,74,82,69]) s11.2 (jq s11.2 1)) λx21 =>
 bnd (uY s14.1 x21) λx22 =>
 k15 (x22,(jq s14.2 1)))
 (k12 (s14.1,(jq s11.2 1)))) λk18 =>
 sel s11.2 5 λj20=>(match j20 with|0=>(k18 (decide (s14.2<c.color.a0)))  | 1=>(k18 (decide (s14.2<c.color.a1)))  | 2=>(k18 (decide (s14.2<c.color.a2)))  | 3=>(k18 (decide (s14.2<c.color.a3)))  | _=>(k18 (decide (s14.2<c.color.a4))) )
def Jn (c:oH)(s11:ByteArray×Int)(k12:(ByteArray×Int)->Option ByteArray):Option ByteArray :=
 br (decide (s11.2<5)) (jw (O8 c s11 k12) (s11.1,0))
 (br (lg .eql s11.1 (bs [])) (some (bs [48]))
 (some s11.1))
def Jo (c:oH)(s2:ByteArray×Int)(k3:(ByteArray×Int)->Option ByteArray):Option ByteArray :=
 br (decide (s2.2<c.x)) (bnd (uY s2.1 (bs [88])) λx5 =>
 k3 (x5,(jq s2.2 1)))
 (jn (λs6:ByteArray =>
 jw (Jn c) (s6,0)) λk7 =>
 br (!decide (c.generic=0)) (bnd (zC c.generic) λy9 =>
 bnd (uY s2.1 y9) λx10 =>
 k7 x10)
 (k7 s2.1))
def O9 (c:oH):Option ByteArray :=
 bnd (FM c) λy1 =>
 br (y1==false) (some (bs []))
 (jw (Jo c) ((bs []),0))
def Pg (p:rQ Int):Option oH :=
 some (oH.mk p.a0 0 (aco.mk p.a1 p.a2 p.a3 p.a4 p.a5))
def Bz (p:rQ Int):Option ByteArray :=
 bnd (Pg p) λy1 =>
 bnd (O9 y1) λy2 =>
 some y2
def Ih (op:Int)(f:lX):Option Bool :=
 jn (λs1:Int =>
 bnd (Bj f) λy4 =>
 br y4 (some (decide (f.jQ=s1)))
 (some false)) λk2 =>
 br (decide (op=21)) (k2 2)
 (k2 0)
def Ya (pe:jX)(specs:Int):Option Bool :=
 bnd (O4 pe.op) λy1 =>
 br (lg .eql y1 (bs [])) (some false)
 (lt (decide (pe.ref.kind=0)&&(decide (pe.ref.n=0)&&(decide (pe.ref.filter.jQ=0)&&(decide (pe.ref.filter.who=0)&&(decide (pe.ref.filter.self=0)&&(decide (pe.ref.filter.types=0)&&(decide (pe.ref.filter.jU=0)&&(decide (pe.ref.filter.kU=0)&&(decide (pe.ref.filter.jL=0)&&(lg .eql pe.ref.filter.sub (bs [])&&(decide (pe.ref.filter.keys=0)&&(decide (pe.ref.filter.vZ=0)&&(decide (pe.ref.filter.power.kind=0)&&(decide (pe.ref.filter.power.n=0)&&(decide (pe.ref.filter.jE.kind=0)&&(decide (pe.ref.filter.jE.n=0)&&(decide (pe.ref.filter.value.kind=0)&&(decide (pe.ref.filter.value.n=0)&&true)))))))))))))))))) λv2 =>
 jn (λs3:Bool =>
 jn (λs8:Bool =>
 jn (λs12:Bool =>
 jn (λs17:Bool =>
 lt (decide (pe.amount.kind=0)&&(decide (pe.amount.n=0)&&(decide (pe.amount.counter=0)&&(decide (pe.amount.filter.jQ=0)&&(decide (pe.amount.filter.who=0)&&(decide (pe.amount.filter.self=0)&&(decide (pe.amount.filter.types=0)&&(decide (pe.amount.filter.jU=0)&&(decide (pe.amount.filter.kU=0)&&(decide (pe.amount.filter.jL=0)&&(lg .eql pe.amount.filter.sub (bs [])&&(decide (pe.amount.filter.keys=0)&&(decide (pe.amount.filter.vZ=0)&&(decide (pe.amount.filter.power.kind=0)&&(decide (pe.amount.filter.power.n=0)&&(decide (pe.amount.filter.jE.kind=0)&&(decide (pe.amount.filter.jE.n=0)&&(decide (pe.amount.filter.value.kind=0)&&(decide (pe.amount.filter.value.n=0)&&true))))))))))))))))))) λv22 =>
 jn (λs23:Bool =>
 jn (λs28:Bool =>
 lt (decide (pe.pool.a0=0)&&(decide (pe.pool.a1=0)&&(decide (pe.pool.a2=0)&&(decide (pe.pool.a3=0)&&(decide (pe.pool.a4=0)&&(decide (pe.pool.a5=0)&&true)))))) λv33 =>
 jn (λs34:Bool =>
 lt (decide (pe.filter.jQ=0)&&(decide (pe.filter.who=0)&&(decide (pe.filter.self=0)&&(decide (pe.filter.types=0)&&(decide (pe.filter.jU=0)&&(decide (pe.filter.kU=0)&&(decide (pe.filter.jL=0)&&(lg .eql pe.filter.sub (bs [])&&(decide (pe.filter.keys=0)&&(decide (pe.filter.vZ=0)&&(decide (pe.filter.power.kind=0)&&(decide (pe.filter.power.n=0)&&(decide (pe.filter.jE.kind=0)&&(decide (pe.filter.jE.n=0)&&(decide (pe.filter.value.kind=0)&&(decide (pe.filter.value.n=0)&&true)))))))))))))))) λv39 =>
 jn (λs40:Bool =>
 br s3 (br s8 (br s12 (br s17 (br s23 (br s28 (br s34 (some s40)
 (some false))
 (some false))
 (some false))
 (some false))
 (some false))
 (some false))
 (some false)) λk41 =>
 bnd (wP pe.op 102) λy43 =>
 br y43 (bnd (Ih pe.op pe.filter) λy44 =>
 k41 y44)
 (k41 v39)) λk35 =>
 bnd (wP pe.op 112) λy37 =>
 br y37 (br (v33==false) (bnd (Bz pe.pool) λy38 =>
 k35 (lg .neq y38 (bs [])))
 (k35 false))
 (k35 v33)) λk29 =>
 bnd (wP pe.op 109) λy31 =>
 br y31 (bnd (O7 pe.mP) λy32 =>
 k29 y32)
 (k29 (decide ((iV pe.mP)=0)))) λk24 =>
 bnd (wP pe.op 97) λy26 =>
 br y26 (bnd (X9 pe.amount) λy27 =>
 k24 y27)
 (k24 v22)) λk18 =>
 bnd (wP pe.op 99) λy20 =>
 br y20 (bnd (Rx pe.card) λy21 =>
 k18 y21)
 (k18 (lg .eql pe.card (bs [])))) λk13 =>
 br (decide (pe.counter=0)) (k13 true)
 (bnd (wP pe.op 107) λy15 =>
 br y15 (bnd (Ld pe.counter) λy16 =>
 k13 (lg .neq y16 (bs [])))
 (k13 false))) λk9 =>
 br (decide (pe.jQ=0)) (k9 true)
 (bnd (wP pe.op 122) λy11 =>
 br y11 (br (decide (0<pe.jQ)) (k9 (decide (pe.jQ<=4)))
 (k9 false))
 (k9 false))) λk4 =>
 bnd (wP pe.op 114) λy6 =>
 br y6 (bnd (X8 pe.ref specs) λy7 =>
 k4 y7)
 (k4 v2))
def Ii (l:List jX)(n:Int)(s1:Int)(k2:Int->Option Bool):Option Bool :=
 br (decide (s1<(iV l))) (bnd (kJ l s1) λx4 =>
 bnd (Ya x4 n) λy5 =>
 br (y5==false) (some false)
 (k2 (jq s1 1)))
 (br (decide (1<=(iV l))) (some (decide ((iV l)<=8)))
 (some false))
def EY (l:List jX)(n:Int):Option Bool :=
 jw (Ii l n) 0
def Ph (a:kF):Option Bool :=
 jn (λs1:Bool =>
 br s1 (some false)
 (jn (λs4:Bool =>
 jn (λs7:Unit =>
 jn (λs19:Unit =>
 jn (λs27:Unit =>
 jn (λs35:Unit =>
 br s4 (jn (λs40:Bool =>
 some s40) λk41 =>
 bnd (Lc a.specs) λy43 =>
 br y43 (bnd (EY a.nR (iV a.specs)) λy44 =>
 k41 y44)
 (k41 false))
 (br (decide ((iV a.specs)=0)) (some (decide ((iV a.nR)=0)))
 (some false))) λk36 =>
 br (decide (a.kind=5)) (bnd (X7 a.replace) λy38 =>
 br (y38==false) (some false)
 (k36 ()))
 (lt ((decide (a.replace.on=0)&&(decide (a.replace.who=0)&&(decide (a.replace.filter.jQ=0)&&(decide (a.replace.filter.who=0)&&(decide (a.replace.filter.self=0)&&(decide (a.replace.filter.types=0)&&(decide (a.replace.filter.jU=0)&&(decide (a.replace.filter.kU=0)&&(decide (a.replace.filter.jL=0)&&(lg .eql a.replace.filter.sub (bs [])&&(decide (a.replace.filter.keys=0)&&(decide (a.replace.filter.vZ=0)&&(decide (a.replace.filter.power.kind=0)&&(decide (a.replace.filter.power.n=0)&&(decide (a.replace.filter.jE.kind=0)&&(decide (a.replace.filter.jE.n=0)&&(decide (a.replace.filter.value.kind=0)&&(decide (a.replace.filter.value.n=0)&&(decide (a.replace.doF=0)&&(decide (a.replace.n=0)&&(decide (a.replace.jQ=0)&&(decide (a.replace.counter=0)&&true))))))))))))))))))))))==false) λv39 =>
 br v39 (some false)
 (k36 ()))) λk28 =>
 br (decide (a.kind=4)) (bnd (X6 a.jg) λy30 =>
 br (y30==false) (some false)
 (k28 ()))
 (jn (λs31:Bool =>
 br s31 (some false)
 (k28 ())) λk32 =>
 lt ((decide (a.jg.when=0)&&(decide (a.jg.who=0)&&(decide (a.jg.filter.jQ=0)&&(decide (a.jg.filter.who=0)&&(decide (a.jg.filter.self=0)&&(decide (a.jg.filter.types=0)&&(decide (a.jg.filter.jU=0)&&(decide (a.jg.filter.kU=0)&&(decide (a.jg.filter.jL=0)&&(lg .eql a.jg.filter.sub (bs [])&&(decide (a.jg.filter.keys=0)&&(decide (a.jg.filter.vZ=0)&&(decide (a.jg.filter.power.kind=0)&&(decide (a.jg.filter.power.n=0)&&(decide (a.jg.filter.jE.kind=0)&&(decide (a.jg.filter.jE.n=0)&&(decide (a.jg.filter.value.kind=0)&&(decide (a.jg.filter.value.n=0)&&true))))))))))))))))))==false) λv34 =>
 br v34 (k32 true)
 (k32 a.may))) λk20 =>
 br (decide (a.kind=3)) (bnd (KX a.price) λy22 =>
 br (y22==false) (some false)
 (k20 ()))
 (jn (λs23:Bool =>
 br s23 (some false)
 (k20 ())) λk24 =>
 lt ((decide (a.price.og.generic=0)&&(decide (a.price.og.x=0)&&(decide (a.price.og.color.a0=0)&&(decide (a.price.og.color.a1=0)&&(decide (a.price.og.color.a2=0)&&(decide (a.price.og.color.a3=0)&&(decide (a.price.og.color.a4=0)&&(a.price.vZ==false&&(a.price.vO==false&&(decide (a.price.life=0)&&true))))))))))==false) λv26 =>
 br v26 (k24 true)
 (k24 a.slow))) λk8 =>
 br (decide (a.kind=1)) (jn (λs10:Bool =>
 br s10 (some false)
 (k8 ())) λk11 =>
 bnd (Bj a.filter) λy13 =>
 br (y13==false) (k11 true)
 (br (!decide (a.filter.jQ=0)) (k11 true)
 (bnd (wB a.mP) λy14 =>
 k11 (lg .eql y14 (bs [])))))
 (jn (λs15:Bool =>
 br s15 (some false)
 (k8 ())) λk16 =>
 lt ((decide (a.filter.jQ=0)&&(decide (a.filter.who=0)&&(decide (a.filter.self=0)&&(decide (a.filter.types=0)&&(decide (a.filter.jU=0)&&(decide (a.filter.kU=0)&&(decide (a.filter.jL=0)&&(lg .eql a.filter.sub (bs [])&&(decide (a.filter.keys=0)&&(decide (a.filter.vZ=0)&&(decide (a.filter.power.kind=0)&&(decide (a.filter.power.n=0)&&(decide (a.filter.jE.kind=0)&&(decide (a.filter.jE.n=0)&&(decide (a.filter.value.kind=0)&&(decide (a.filter.value.n=0)&&true))))))))))))))))==false) λv18 =>
 br v18 (k16 true)
 (k16 (decide (0<(iV a.mP)))))) λk5 =>
 br (decide (a.kind=2)) (k5 true)
 (br (decide (a.kind=3)) (k5 true)
 (k5 (decide (a.kind=4)))))) λk2 =>
 br (decide (a.kind<1)) (k2 true)
 (k2 (decide (5<a.kind)))
def Pj (c:jI):Option Bool :=
 br (decide (c.line.types=2)) (some true)
 (some (decide (c.line.types=4)))
def U4 (c:jI)(s12:Int×Int)(k13:(Int×Int)->Option Bool):Option Bool :=
 br (decide (s12.2<(iV c.jO))) (jn (λs15:Int =>
 k13 (s15,(jq s12.2 1))) λk16 =>
 bnd (kJ c.jO s12.2) λx18 =>
 bnd (Ph x18) λy19 =>
 br (y19==false) (some false)
 (bnd (kJ c.jO s12.2) λx20 =>
 br (decide (x20.kind=2)) (k16 (jq s12.1 1))
 (k16 s12.1)))
 (bnd (Pj c) λy21 =>
 br y21 (jn (λs22:Bool =>
 some s22) λk23 =>
 br (c.token==false) (br (decide (c.keys=0)) (br (decide ((iV c.jO)=1)) (k23 (decide (s12.1=1)))
 (k23 false))
 (k23 false))
 (k23 false))
 (br (decide (s12.1=0)) (br (c.token==false) (br (decide ((kz .and .i64 c.line.types 32)=0)) (some true)
 (lt (decide (c.cost.generic=0)&&(decide (c.cost.x=0)&&(decide (c.cost.color.a0=0)&&(decide (c.cost.color.a1=0)&&(decide (c.cost.color.a2=0)&&(decide (c.cost.color.a3=0)&&(decide (c.cost.color.a4=0)&&true))))))) λv25 =>
 some v25))
 (lt (decide (c.cost.generic=0)&&(decide (c.cost.x=0)&&(decide (c.cost.color.a0=0)&&(decide (c.cost.color.a1=0)&&(decide (c.cost.color.a2=0)&&(decide (c.cost.color.a3=0)&&(decide (c.cost.color.a4=0)&&true))))))) λv26 =>
 some v26))
 (some false)))
def Pm (c:jI):Option Bool :=
 jn (λs1:Bool =>
 br s1 (some false)
 (jn (λs8:Bool =>
 br s8 (some false)
 (jw (U4 c) (0,0))) λk9 =>
 br (decide (c.power<0)) (k9 true)
 (br (decide (99<c.power)) (k9 true)
 (br (decide (c.jE<0)) (k9 true)
 (br (decide (99<c.jE)) (k9 true)
 (bnd (Bi c) λy11 =>
 br (y11==false) (br (!decide (c.power=0)) (k9 true)
 (br (!decide (c.jE=0)) (k9 true)
 (k9 (decide (8<(iV c.jO))))))
 (k9 (decide (8<(iV c.jO)))))))))) λk2 =>
 bnd (Rx c.name) λy4 =>
 br (y4==false) (k2 true)
 (bnd (FM c.cost) λy5 =>
 br (y5==false) (k2 true)
 (bnd (JP c.line) λy6 =>
 br (y6==false) (k2 true)
 (bnd (OW c.keys) λy7 =>
 br (y7==false) (k2 true)
 (br (decide (c.color<0)) (k2 true)
 (k2 (decide (31<c.color)))))))
def Pn (l:List jI)(name:ByteArray)(s1:Int)(k2:Int->Option Int):Option Int :=
 br (decide (s1<(iV l))) (bnd (kJ l s1) λx4 =>
 br (lg .eql x4.name name) (some s1)
 (k2 (jq s1 1)))
 (some (-1))
def Po (l:List jI)(name:ByteArray):Option Int :=
 jw (Pn l name) 0
def Np (l:List jI)(name:ByteArray)(s1:Int)(k2:Int->Option Bool):Option Bool :=
 br (decide (s1<(iV l))) (jn (λs4:Bool =>
 br s4 (some true)
 (k2 (jq s1 1))) λk5 =>
 bnd (kJ l s1) λx7 =>
 br (lg .eql x7.name name) (bnd (kJ l s1) λx8 =>
 k5 x8.token)
 (k5 false))
 (some false)
def Le (l:List jI)(name:ByteArray):Option Bool :=
 jw (Np l name) 0
def BA (l:List jI)(c:jI)(s1:Int)(k2:Int->Option Bool)(s4:Int)(k5:Int->Option Bool):Option Bool :=
 bnd (kJ c.jO s1) λx7 =>
 br (decide (s4<(iV x7.nR))) (bnd (kJ c.jO s1) λx8 =>
 bnd (kJ x8.nR s4) λx9 =>
 jn (λs10:Bool =>
 br s10 (some false)
 (k5 (jq s4 1))) λk11 =>
 br (decide (x9.op=12)) (bnd (Le l x9.card) λy13 =>
 k11 (y13==false))
 (k11 false))
 (k2 (jq s1 1))
def BB (l:List jI)(c:jI)(s1:Int)(k2:Int->Option Bool):Option Bool :=
 br (decide (s1<(iV c.jO))) (jw (BA l c s1 k2) 0)
 (some true)
def EZ (l:List jI)(c:jI):Option Bool :=
 jw (BB l c) 0
def Gj (l:List jI)(s1:Int)(k2:Int->Option (Int×Int)):Option (Int×Int) :=
 br (decide (s1<(iV l))) (bnd (kJ l s1) λx4 =>
 bnd (Pm x4) λy5 =>
 br (y5==false) (some (s1,9))
 (bnd (kJ l s1) λx6 =>
 bnd (Po l x6.name) λy7 =>
 br (decide (y7<s1)) (some (s1,6))
 (bnd (kJ l s1) λx8 =>
 bnd (EZ l x8) λy9 =>
 br (y9==false) (some (s1,7))
 (k2 (jq s1 1)))))
 (some ((-1),0))
def Ap (l:List jI):Option (Int×Int) :=
 br (decide (256<(iV l))) (some ((-1),5))
 (jw (Gj l) 0)
def vT (n:Int)(least:Int)(most:Int):Option Bool :=
 br (decide (least<=n)) (some (decide (n<=most)))
 (some false)
def BC (p:rQ Int)(s1:Int)(k2:Int->Option Bool):Option Bool :=
 br (decide (s1<6)) (jn (λs4:Bool =>
 br s4 (some false)
 (k2 (jq s1 1))) λk5 =>
 sel s1 6 λj7=>(match j7 with|0=>(br (decide (p.a0<0)) (k5 true) (sel s1 6 λj8=>(match j8 with|0=>(k5 (decide (1000000<p.a0)))  | 1=>(k5 (decide (1000000<p.a1)))  | 2=>(k5 (decide (1000000<p.a2)))  | 3=>(k5 (decide (1000000<p.a3)))  | 4=>(k5 (decide (1000000<p.a4)))  | _=>(k5 (decide (1000000<p.a5))) )))  | 1=>(br (decide (p.a1<0)) (k5 true) (sel s1 6 λj9=>(match j9 with|0=>(k5 (decide (1000000<p.a0)))  | 1=>(k5 (decide (1000000<p.a1)))  | 2=>(k5 (decide (1000000<p.a2)))  | 3=>(k5 (decide (1000000<p.a3)))  | 4=>(k5 (decide (1000000<p.a4)))  | _=>(k5 (decide (1000000<p.a5))) )))  | 2=>(br (decide (p.a2<0)) (k5 true) (sel s1 6 λj10=>(match j10 with|0=>(k5 (decide (1000000<p.a0)))  | 1=>(k5 (decide (1000000<p.a1)))  | 2=>(k5 (decide (1000000<p.a2)))  | 3=>(k5 (decide (1000000<p.a3)))  | 4=>(k5 (decide (1000000<p.a4)))  | _=>(k5 (decide (1000000<p.a5))) )))  | 3=>(br (decide (p.a3<0)) (k5 true) (sel s1 6 λj11=>(match j11 with|0=>(k5 (decide (1000000<p.a0)))  | 1=>(k5 (decide (1000000<p.a1)))  | 2=>(k5 (decide (1000000<p.a2)))  | 3=>(k5 (decide (1000000<p.a3)))  | 4=>(k5 (decide (1000000<p.a4)))  | _=>(k5 (decide (1000000<p.a5))) )))  | 4=>(br (decide (p.a4<0)) (k5 true) (sel s1 6 λj12=>(match j12 with|0=>(k5 (decide (1000000<p.a0)))  | 1=>(k5 (decide (1000000<p.a1)))  | 2=>(k5 (decide (1000000<p.a2)))  | 3=>(k5 (decide (1000000<p.a3)))  | 4=>(k5 (decide (1000000<p.a4)))  | _=>(k5 (decide (1000000<p.a5))) )))  | _=>(br (decide (p.a5<0)) (k5 true) (sel s1 6 λj13=>(match j13 with|0=>(k5 (decide (1000000<p.a0)))  | 1=>(k5 (decide (1000000<p.a1)))  | 2=>(k5 (decide (1000000<p.a2)))  | 3=>(k5 (decide (1000000<p.a3)))  | 4=>(k5 (decide (1000000<p.a4)))  | _=>(k5 (decide (1000000<p.a5))) ))) ))
 (some true)
def Aq (p:rQ Int):Option Bool :=
 jw (BC p) 0
def BD (s:iT)(id:Int)(s1:Int)(k2:Int->Option Int):Option Int :=
 br (decide (s1<(iV s.objects))) (bnd (kJ s.objects s1) λx4 =>
 br (decide (x4.id=id)) (some s1)
 (k2 (jq s1 1)))
 (some (-1))
def DJ (s:iT)(id:Int):Option Int :=
 jw (BD s id) 0
def E8 (s:iT)(id:Int):Option (iW×Bool) :=
 bnd (DJ s id) λy1 =>
 br (decide (y1<0)) (some (KP,false))
 (bnd (kJ s.objects y1) λx2 =>
 some (x2,true))
def DK (s:iT)(id:Int):Option (iW×Bool) :=
 bnd (E8 s id) λy1 =>
 some (y1.1,y1.2)
def Nq (l:List Int)(n:Int)(s1:Int×Int)(k2:(Int×Int)->Option Int):Option Int :=
 br (decide (s1.2<(iV l))) (jn (λs4:Int =>
 k2 (s4,(jq s1.2 1))) λk5 =>
 bnd (kJ l s1.2) λx7 =>
 br (decide (x7=n)) (k5 (jq s1.1 1))
 (k5 s1.1))
 (some s1.1)
def DL (l:List Int)(n:Int):Option Int :=
 jw (Nq l n) (0,0)
def Pq (s:iT)(l:List Int)(jQ:Int)(owner:Int)(s1:Int)(k2:Int->Option Bool):Option Bool :=
 br (decide (s1<(iV l))) (bnd (kJ l s1) λx4 =>
 bnd (DK s x4) λy5 =>
 jn (λs6:Bool =>
 br s6 (some false)
 (k2 (jq s1 1))) λk7 =>
 br (y5.2==false) (k7 true)
 (br (!decide (y5.1.jQ=jQ)) (k7 true)
 (br (decide (0<=owner)) (br (!decide (y5.1.owner=owner)) (k7 true)
 (bnd (kJ l s1) λx9 =>
 bnd (DL l x9) λy10 =>
 k7 (!decide (y10=1))))
 (bnd (kJ l s1) λx11 =>
 bnd (DL l x11) λy12 =>
 k7 (!decide (y12=1))))))
 (some true)
def BF (s:iT)(l:List Int)(jQ:Int)(owner:Int):Option Bool :=
 jw (Pq s l jQ owner) 0
def Ij (s:iT)(s2:Int)(k3:Int->Option Bool):Option Bool :=
 br (decide (s2<(iV s.ji))) (bnd (kJ s.ji s2) λx5 =>
 jn (λs6:Bool =>
 br s6 (some false)
 (jn (λs13:Bool =>
 br s13 (some false)
 (k3 (jq s2 1))) λk14 =>
 bnd (BF s x5.library 2 s2) λy16 =>
 br (y16==false) (k14 true)
 (bnd (BF s x5.hand 1 s2) λy17 =>
 br (y17==false) (k14 true)
 (bnd (BF s x5.sO 3 s2) λy18 =>
 k14 (y18==false))))) λk7 =>
 bnd (vT x5.life (-1000000) 1000000) λy9 =>
 br (y9==false) (k7 true)
 (bnd (vT x5.aiy 0 1000000) λy10 =>
 br (y10==false) (k7 true)
 (bnd (vT x5.lands 0 1000000) λy11 =>
 br (y11==false) (k7 true)
 (bnd (Aq x5.pool) λy12 =>
 k7 (y12==false)))))
 (bnd (BF s s.lq 0 (-1)) λy19 =>
 br y19 (bnd (BF s s.uU 4 (-1)) λy20 =>
 some y20)
 (some false))
def Fa (s:iT):Option Bool :=
 bnd (vT (iV s.ji) 2 4) λy1 =>
 br (y1==false) (some false)
 (jw (Ij s) 0)
def pF (s:iT)(p:Int):Option Bool :=
 bnd (vT p 0 (jS (iV s.ji) 1)) λy1 =>
 some y1
def U5 (c:UQ Int)(s1:Int)(k2:Int->Option Bool):Option Bool :=
 br (decide (s1<3)) (jn (λs4:Bool =>
 br s4 (some false)
 (k2 (jq s1 1))) λk5 =>
 sel s1 3 λj7=>(match j7 with|0=>(br (decide (c.a0<0)) (k5 true) (sel s1 3 λj8=>(match j8 with|0=>(k5 (decide (1000000<c.a0)))  | 1=>(k5 (decide (1000000<c.a1)))  | _=>(k5 (decide (1000000<c.a2))) )))  | 1=>(br (decide (c.a1<0)) (k5 true) (sel s1 3 λj9=>(match j9 with|0=>(k5 (decide (1000000<c.a0)))  | 1=>(k5 (decide (1000000<c.a1)))  | _=>(k5 (decide (1000000<c.a2))) )))  | _=>(br (decide (c.a2<0)) (k5 true) (sel s1 3 λj10=>(match j10 with|0=>(k5 (decide (1000000<c.a0)))  | 1=>(k5 (decide (1000000<c.a1)))  | _=>(k5 (decide (1000000<c.a2))) ))) ))
 (some true)
def Yb (c:UQ Int):Option Bool :=
 jw (U5 c) 0
def Px (o:iW):Option iW :=
 some { o with lG:=(-1),blocked:=false,blocks:=0 }
def Lh (o:iW):Option iW :=
 some { o with deadly:=false,zn:=0,FK:=0 }
def Py (o:iW)(cards:Int)(ji:Int):Option Bool :=
 jn (λs1:Bool =>
 br s1 (some false)
 (jn (λs4:Bool =>
 br s4 (some false)
 (jn (λs7:Bool =>
 br s7 (some false)
 (br (decide (o.jQ=0)) (some true)
 (bnd (Px o) λy11 =>
 lt (decide (o.id=y11.id)&&(decide (o.card=y11.card)&&(decide (o.owner=y11.owner)&&(decide (o.control=y11.control)&&(decide (o.jQ=y11.jQ)&&(o.token==y11.token&&(o.nC==y11.nC&&(o.Df==y11.Df&&(o.deadly==y11.deadly&&(decide (o.zn=y11.zn)&&(decide (o.counters.a0=y11.counters.a0)&&(decide (o.counters.a1=y11.counters.a1)&&(decide (o.counters.a2=y11.counters.a2)&&(decide (o.stamp=y11.stamp)&&(decide (o.copy=y11.copy)&&(decide (o.lG=y11.lG)&&(o.blocked==y11.blocked&&(decide (o.blocks=y11.blocks)&&(decide (o.FK=y11.FK)&&true))))))))))))))))))) λv12 =>
 br v12 (bnd (Lh o) λy13 =>
 lt (decide (o.id=y13.id)&&(decide (o.card=y13.card)&&(decide (o.owner=y13.owner)&&(decide (o.control=y13.control)&&(decide (o.jQ=y13.jQ)&&(o.token==y13.token&&(o.nC==y13.nC&&(o.Df==y13.Df&&(o.deadly==y13.deadly&&(decide (o.zn=y13.zn)&&(decide (o.counters.a0=y13.counters.a0)&&(decide (o.counters.a1=y13.counters.a1)&&(decide (o.counters.a2=y13.counters.a2)&&(decide (o.stamp=y13.stamp)&&(decide (o.copy=y13.copy)&&(decide (o.lG=y13.lG)&&(o.blocked==y13.blocked&&(decide (o.blocks=y13.blocks)&&(decide (o.FK=y13.FK)&&true))))))))))))))))))) λv14 =>
 br v14 (br (o.nC==false) (br (o.Df==false) (lt (decide (o.counters.a0=0)&&(decide (o.counters.a1=0)&&(decide (o.counters.a2=0)&&true))) λv15 =>
 some v15)
 (some false))
 (some false))
 (some false))
 (some false)))) λk8 =>
 bnd (Yb o.counters) λy10 =>
 br (y10==false) (k8 true)
 (br (decide (o.copy<(-1))) (k8 true)
 (br (decide (cards<=o.copy)) (k8 true)
 (br (decide (o.lG<(-1))) (k8 true)
 (k8 (decide (ji<=o.lG)))))))) λk5 =>
 br (decide (o.zn<0)) (k5 true)
 (br (decide (1000000<o.zn)) (k5 true)
 (br (decide (o.stamp<0)) (k5 true)
 (br (decide (1000000<o.stamp)) (k5 true)
 (br (decide (o.blocks<0)) (k5 true)
 (br (decide (1000000<o.blocks)) (k5 true)
 (br (decide (o.FK<0)) (k5 true)
 (k5 (decide (1000000<o.FK))))))))))) λk2 =>
 br (decide (o.id<1)) (k2 true)
 (br (decide (o.card<0)) (k2 true)
 (br (decide (cards<=o.card)) (k2 true)
 (br (decide (o.owner<0)) (k2 true)
 (br (decide (ji<=o.owner)) (k2 true)
 (br (decide (o.control<0)) (k2 true)
 (br (decide (ji<=o.control)) (k2 true)
 (br (decide (o.jQ<0)) (k2 true)
 (k2 (decide (5<o.jQ))))))))))
def JS (s:iT)(id:Int)(s1:Int×Int)(k2:(Int×Int)->Option Int):Option Int :=
 br (decide (s1.2<(iV s.stack))) (jn (λs4:Int =>
 k2 (s4,(jq s1.2 1))) λk5 =>
 jn (λs7:Bool =>
 br s7 (k5 (jq s1.1 1))
 (k5 s1.1)) λk8 =>
 bnd (kJ s.stack s1.2) λx10 =>
 br (decide (x10.kind=1)) (bnd (kJ s.stack s1.2) λx11 =>
 k8 (decide (x11.id=id)))
 (k8 false))
 (some s1.1)
def Ik (s:iT)(id:Int):Option Int :=
 jw (JS s id) (0,0)
def BG (l:List Int):Option (List Int) :=
 jW (0+l.length) 8 (
 some l)
def Pz (s:iT)(jQ:Int)(l9:Int):Option (List Int) :=
 br (decide (jQ=0)) (bnd (BG s.lq) λy1 =>
 some y1)
 (br (decide (jQ=4)) (bnd (BG s.uU) λy2 =>
 some y2)
 (jn (λs3:Bool =>
 br s3 (some ([]))
 (br (decide (jQ=1)) (bnd (kJ s.ji l9) λx6 =>
 bnd (BG x6.hand) λy7 =>
 some y7)
 (br (decide (jQ=2)) (bnd (kJ s.ji l9) λx8 =>
 bnd (BG x8.library) λy9 =>
 some y9)
 (br (decide (jQ=3)) (bnd (kJ s.ji l9) λx10 =>
 bnd (BG x10.sO) λy11 =>
 some y11)
 (some ([])))))) λk4 =>
 br (decide (l9<0)) (k4 true)
 (k4 (decide ((iV s.ji)<=l9)))))
def Il (s:iT)(o:iW):Option Bool :=
 br (decide (o.jQ=5)) (bnd (Ik s o.id) λy1 =>
 some (decide (y1=1)))
 (bnd (Pz s o.jQ o.owner) λy2 =>
 bnd (DL y2 o.id) λy3 =>
 some (decide (y3=1)))
def tC (cards:List jI)(s:iT)(s1:Int)(k2:Int->Option Bool):Option Bool :=
 br (decide (s1<(iV s.objects))) (bnd (kJ s.objects s1) λx4 =>
 jn (λs5:Bool =>
 br s5 (some false)
 (bnd (Il s x4) λy10 =>
 br (y10==false) (some false)
 (k2 (jq s1 1)))) λk6 =>
 bnd (Py x4 (iV cards) (iV s.ji)) λy8 =>
 br (y8==false) (k6 true)
 (br (decide (s.nextId<=x4.id)) (k6 true)
 (br (decide (s.nH<=x4.stamp)) (k6 true)
 (br (decide (0<s1)) (bnd (kJ s.objects (jS s1 1)) λx9 =>
 k6 (decide (x4.id<=x9.id)))
 (k6 false)))))
 (some true)
def sG (cards:List jI)(s:iT):Option Bool :=
 br (decide (2048<(iV s.objects))) (some false)
 (jw (tC cards s) 0)
def FO (a:List nN)(b:List nN)(s1:Int)(k2:Int->Option Bool):Option Bool :=
 br (decide (s1<(iV a))) (bnd (kJ a s1) λx4 =>
 bnd (kJ b s1) λx5 =>
 lt ((decide (x4.kind=x5.kind)&&(decide (x4.n=x5.n)&&(decide (x4.m=x5.m)&&(lg .eql x4.sub x5.sub&&(decide (x4.filter.jQ=x5.filter.jQ)&&(decide (x4.filter.who=x5.filter.who)&&(decide (x4.filter.self=x5.filter.self)&&(decide (x4.filter.types=x5.filter.types)&&(decide (x4.filter.jU=x5.filter.jU)&&(decide (x4.filter.kU=x5.filter.kU)&&(decide (x4.filter.jL=x5.filter.jL)&&(lg .eql x4.filter.sub x5.filter.sub&&(decide (x4.filter.keys=x5.filter.keys)&&(decide (x4.filter.vZ=x5.filter.vZ)&&(decide (x4.filter.power.kind=x5.filter.power.kind)&&(decide (x4.filter.power.n=x5.filter.power.n)&&(decide (x4.filter.jE.kind=x5.filter.jE.kind)&&(decide (x4.filter.jE.n=x5.filter.jE.n)&&(decide (x4.filter.value.kind=x5.filter.value.kind)&&(decide (x4.filter.value.n=x5.filter.value.n)&&true))))))))))))))))))))==false) λv6 =>
 br v6 (some false)
 (k2 (jq s1 1)))
 (some true)
def yQ (a:List nN)(b:List nN):Option Bool :=
 br (!decide ((iV a)=(iV b))) (some false)
 (jw (FO a b) 0)
def PD (a:jX)(b:jX):Option Bool :=
 br (decide (a.op=b.op)) (lt (decide (a.ref.kind=b.ref.kind)&&(decide (a.ref.n=b.ref.n)&&(decide (a.ref.filter.jQ=b.ref.filter.jQ)&&(decide (a.ref.filter.who=b.ref.filter.who)&&(decide (a.ref.filter.self=b.ref.filter.self)&&(decide (a.ref.filter.types=b.ref.filter.types)&&(decide (a.ref.filter.jU=b.ref.filter.jU)&&(decide (a.ref.filter.kU=b.ref.filter.kU)&&(decide (a.ref.filter.jL=b.ref.filter.jL)&&(lg .eql a.ref.filter.sub b.ref.filter.sub&&(decide (a.ref.filter.keys=b.ref.filter.keys)&&(decide (a.ref.filter.vZ=b.ref.filter.vZ)&&(decide (a.ref.filter.power.kind=b.ref.filter.power.kind)&&(decide (a.ref.filter.power.n=b.ref.filter.power.n)&&(decide (a.ref.filter.jE.kind=b.ref.filter.jE.kind)&&(decide (a.ref.filter.jE.n=b.ref.filter.jE.n)&&(decide (a.ref.filter.value.kind=b.ref.filter.value.kind)&&(decide (a.ref.filter.value.n=b.ref.filter.value.n)&&true)))))))))))))))))) λv1 =>
 br v1 (lt (decide (a.amount.kind=b.amount.kind)&&(decide (a.amount.n=b.amount.n)&&(decide (a.amount.counter=b.amount.counter)&&(decide (a.amount.filter.jQ=b.amount.filter.jQ)&&(decide (a.amount.filter.who=b.amount.filter.who)&&(decide (a.amount.filter.self=b.amount.filter.self)&&(decide (a.amount.filter.types=b.amount.filter.types)&&(decide (a.amount.filter.jU=b.amount.filter.jU)&&(decide (a.amount.filter.kU=b.amount.filter.kU)&&(decide (a.amount.filter.jL=b.amount.filter.jL)&&(lg .eql a.amount.filter.sub b.amount.filter.sub&&(decide (a.amount.filter.keys=b.amount.filter.keys)&&(decide (a.amount.filter.vZ=b.amount.filter.vZ)&&(decide (a.amount.filter.power.kind=b.amount.filter.power.kind)&&(decide (a.amount.filter.power.n=b.amount.filter.power.n)&&(decide (a.amount.filter.jE.kind=b.amount.filter.jE.kind)&&(decide (a.amount.filter.jE.n=b.amount.filter.jE.n)&&(decide (a.amount.filter.value.kind=b.amount.filter.value.kind)&&(decide (a.amount.filter.value.n=b.amount.filter.value.n)&&true))))))))))))))))))) λv2 =>
 br v2 (br (decide (a.counter=b.counter)) (br (decide (a.jQ=b.jQ)) (br (lg .eql a.card b.card) (lt (decide (a.filter.jQ=b.filter.jQ)&&(decide (a.filter.who=b.filter.who)&&(decide (a.filter.self=b.filter.self)&&(decide (a.filter.types=b.filter.types)&&(decide (a.filter.jU=b.filter.jU)&&(decide (a.filter.kU=b.filter.kU)&&(decide (a.filter.jL=b.filter.jL)&&(lg .eql a.filter.sub b.filter.sub&&(decide (a.filter.keys=b.filter.keys)&&(decide (a.filter.vZ=b.filter.vZ)&&(decide (a.filter.power.kind=b.filter.power.kind)&&(decide (a.filter.power.n=b.filter.power.n)&&(decide (a.filter.jE.kind=b.filter.jE.kind)&&(decide (a.filter.jE.n=b.filter.jE.n)&&(decide (a.filter.value.kind=b.filter.value.kind)&&(decide (a.filter.value.n=b.filter.value.n)&&true)))))))))))))))) λv3 =>
 br v3 (lt (decide (a.pool.a0=b.pool.a0)&&(decide (a.pool.a1=b.pool.a1)&&(decide (a.pool.a2=b.pool.a2)&&(decide (a.pool.a3=b.pool.a3)&&(decide (a.pool.a4=b.pool.a4)&&(decide (a.pool.a5=b.pool.a5)&&true)))))) λv4 =>
 br v4 (bnd (yQ a.mP b.mP) λy5 =>
 some y5)
 (some false))
 (some false))
 (some false))
 (some false))
 (some false))
 (some false))
 (some false))
 (some false)
def FP (a:List jX)(b:List jX)(s1:Int)(k2:Int->Option Bool):Option Bool :=
 br (decide (s1<(iV a))) (bnd (kJ a s1) λx4 =>
 bnd (kJ b s1) λx5 =>
 bnd (PD x4 x5) λy6 =>
 br (y6==false) (some false)
 (k2 (jq s1 1)))
 (some true)
def BH (a:List jX)(b:List jX):Option Bool :=
 br (!decide ((iV a)=(iV b))) (some false)
 (jw (FP a b) 0)
def PE (a:kF)(b:kF)(s1:Int)(k2:Int->Option Bool):Option Bool :=
 br (decide (s1<(iV a.specs))) (bnd (kJ a.specs s1) λx4 =>
 bnd (kJ b.specs s1) λx5 =>
 lt ((x4.l9==x5.l9&&(x4.object==x5.object&&(decide (x4.filter.jQ=x5.filter.jQ)&&(decide (x4.filter.who=x5.filter.who)&&(decide (x4.filter.self=x5.filter.self)&&(decide (x4.filter.types=x5.filter.types)&&(decide (x4.filter.jU=x5.filter.jU)&&(decide (x4.filter.kU=x5.filter.kU)&&(decide (x4.filter.jL=x5.filter.jL)&&(lg .eql x4.filter.sub x5.filter.sub&&(decide (x4.filter.keys=x5.filter.keys)&&(decide (x4.filter.vZ=x5.filter.vZ)&&(decide (x4.filter.power.kind=x5.filter.power.kind)&&(decide (x4.filter.power.n=x5.filter.power.n)&&(decide (x4.filter.jE.kind=x5.filter.jE.kind)&&(decide (x4.filter.jE.n=x5.filter.jE.n)&&(decide (x4.filter.value.kind=x5.filter.value.kind)&&(decide (x4.filter.value.n=x5.filter.value.n)&&true))))))))))))))))))==false) λv6 =>
 br v6 (some false)
 (k2 (jq s1 1)))
 (br (decide (a.kind=b.kind)) (lt (decide (a.filter.jQ=b.filter.jQ)&&(decide (a.filter.who=b.filter.who)&&(decide (a.filter.self=b.filter.self)&&(decide (a.filter.types=b.filter.types)&&(decide (a.filter.jU=b.filter.jU)&&(decide (a.filter.kU=b.filter.kU)&&(decide (a.filter.jL=b.filter.jL)&&(lg .eql a.filter.sub b.filter.sub&&(decide (a.filter.keys=b.filter.keys)&&(decide (a.filter.vZ=b.filter.vZ)&&(decide (a.filter.power.kind=b.filter.power.kind)&&(decide (a.filter.power.n=b.filter.power.n)&&(decide (a.filter.jE.kind=b.filter.jE.kind)&&(decide (a.filter.jE.n=b.filter.jE.n)&&(decide (a.filter.value.kind=b.filter.value.kind)&&(decide (a.filter.value.n=b.filter.value.n)&&true)))))))))))))))) λv7 =>
 br v7 (bnd (yQ a.mP b.mP) λy8 =>
 br y8 (lt (decide (a.price.og.generic=b.price.og.generic)&&(decide (a.price.og.x=b.price.og.x)&&(decide (a.price.og.color.a0=b.price.og.color.a0)&&(decide (a.price.og.color.a1=b.price.og.color.a1)&&(decide (a.price.og.color.a2=b.price.og.color.a2)&&(decide (a.price.og.color.a3=b.price.og.color.a3)&&(decide (a.price.og.color.a4=b.price.og.color.a4)&&(a.price.vZ==b.price.vZ&&(a.price.vO==b.price.vO&&(decide (a.price.life=b.price.life)&&true)))))))))) λv9 =>
 br v9 (br (a.slow==b.slow) (lt (decide (a.jg.when=b.jg.when)&&(decide (a.jg.who=b.jg.who)&&(decide (a.jg.filter.jQ=b.jg.filter.jQ)&&(decide (a.jg.filter.who=b.jg.filter.who)&&(decide (a.jg.filter.self=b.jg.filter.self)&&(decide (a.jg.filter.types=b.jg.filter.types)&&(decide (a.jg.filter.jU=b.jg.filter.jU)&&(decide (a.jg.filter.kU=b.jg.filter.kU)&&(decide (a.jg.filter.jL=b.jg.filter.jL)&&(lg .eql a.jg.filter.sub b.jg.filter.sub&&(decide (a.jg.filter.keys=b.jg.filter.keys)&&(decide (a.jg.filter.vZ=b.jg.filter.vZ)&&(decide (a.jg.filter.power.kind=b.jg.filter.power.kind)&&(decide (a.jg.filter.power.n=b.jg.filter.power.n)&&(decide (a.jg.filter.jE.kind=b.jg.filter.jE.kind)&&(decide (a.jg.filter.jE.n=b.jg.filter.jE.n)&&(decide (a.jg.filter.value.kind=b.jg.filter.value.kind)&&(decide (a.jg.filter.value.n=b.jg.filter.value.n)&&true)))))))))))))))))) λv10 =>
 br v10 (br (a.may==b.may) (bnd (BH a.nR b.nR) λy11 =>
 br y11 (lt (decide (a.replace.on=b.replace.on)&&(decide (a.replace.who=b.replace.who)&&(decide (a.replace.filter.jQ=b.replace.filter.jQ)&&(decide (a.replace.filter.who=b.replace.filter.who)&&(decide (a.replace.filter.self=b.replace.filter.self)&&(decide (a.replace.filter.types=b.replace.filter.types)&&(decide (a.replace.filter.jU=b.replace.filter.jU)&&(decide (a.replace.filter.kU=b.replace.filter.kU)&&(decide (a.replace.filter.jL=b.replace.filter.jL)&&(lg .eql a.replace.filter.sub b.replace.filter.sub&&(decide (a.replace.filter.keys=b.replace.filter.keys)&&(decide (a.replace.filter.vZ=b.replace.filter.vZ)&&(decide (a.replace.filter.power.kind=b.replace.filter.power.kind)&&(decide (a.replace.filter.power.n=b.replace.filter.power.n)&&(decide (a.replace.filter.jE.kind=b.replace.filter.jE.kind)&&(decide (a.replace.filter.jE.n=b.replace.filter.jE.n)&&(decide (a.replace.filter.value.kind=b.replace.filter.value.kind)&&(decide (a.replace.filter.value.n=b.replace.filter.value.n)&&(decide (a.replace.doF=b.replace.doF)&&(decide (a.replace.n=b.replace.n)&&(decide (a.replace.jQ=b.replace.jQ)&&(decide (a.replace.counter=b.replace.counter)&&true)))))))))))))))))))))) λv12 =>
 some v12)
 (some false))
 (some false))
 (some false))
 (some false))
 (some false))
 (some false))
 (some false))
 (some false))
def PG (a:kF)(b:kF):Option Bool :=
 br (!decide ((iV a.specs)=(iV b.specs))) (some false)
 (jw (PE a b) 0)
def PH (s:iT)(x:ou):Option Bool :=
 jn (λs1:Bool =>
 br s1 (some false)
 (bnd (DK s x.id) λy7 =>
 br (decide (x.kind=1)) (bnd (PG x.jd G6) λy8 =>
 jn (λs9:Bool =>
 some s9) λk10 =>
 br (decide (x.source=x.id)) (br y7.2 (br (decide (y7.1.jQ=5)) (br y8 (k10 true)
 (bnd (Ph x.jd) λy12 =>
 k10 y12))
 (k10 false))
 (k10 false))
 (k10 false))
 (br (decide (x.kind=2)) (br (y7.2==false) (bnd (Ph x.jd) λy13 =>
 some y13)
 (some false))
 (some false)))) λk2 =>
 bnd (vT x.id 1 (jS s.nextId 1)) λy4 =>
 br (y4==false) (k2 true)
 (bnd (vT x.x 0 1000000) λy5 =>
 br (y5==false) (k2 true)
 (br (decide (4<(iV x.targets))) (k2 true)
 (bnd (pF s x.control) λy6 =>
 k2 (y6==false))))
def U6 (l:List Int)(s1:Int)(k2:Int->Option Bool):Option Bool :=
 br (decide (s1<(iV l))) (bnd (kJ l (jS s1 1)) λx4 =>
 bnd (kJ l s1) λx5 =>
 br (decide (x5<=x4)) (some false)
 (k2 (jq s1 1)))
 (some true)
def Yc (l:List Int):Option Bool :=
 jw (U6 l) 1
def Nr (s:iT)(s4:Int)(k5:Int->Option Bool)(s9:Int)(k10:Int->Option Bool):Option Bool :=
 br (decide (s9<s4)) (bnd (kJ s.stack s9) λx12 =>
 bnd (kJ s.stack s4) λx13 =>
 br (decide (x12.id=x13.id)) (some false)
 (k10 (jq s9 1)))
 (k5 (jq s4 1))
def Ns (s:iT)(s23:Int)(k24:Int->Option Bool):Option Bool :=
 br (decide (s23<(iV s.oq))) (bnd (kJ s.oq s23) λx26 =>
 jn (λs27:Bool =>
 br s27 (some false)
 (k24 (jq s23 1))) λk28 =>
 bnd (pF s x26.control) λy30 =>
 br (y30==false) (k28 true)
 (br (decide (s.nH<=x26.stamp)) (k28 true)
 (bnd (vT x26.ad8 1 2) λy31 =>
 br (y31==false) (k28 true)
 (bnd (Yc x26.objects) λy32 =>
 br (y32==false) (k28 true)
 (bnd (wB x26.mP) λy33 =>
 k28 (lg .eql y33 (bs [])))))))
 (some true)
def Nu (s:iT)(s14:Int)(k15:Int->Option Bool):Option Bool :=
 br (decide (s14<(iV s.waiting))) (bnd (kJ s.waiting s14) λx17 =>
 jn (λs18:Bool =>
 br s18 (some false)
 (k15 (jq s14 1))) λk19 =>
 bnd (pF s x17.control) λy21 =>
 br (y21==false) (k19 true)
 (br (!decide (x17.jd.kind=4)) (k19 true)
 (bnd (Ph x17.jd) λy22 =>
 k19 (y22==false))))
 (jw (Ns s) 0)
def Nv (s:iT)(s4:Int)(k5:Int->Option Bool):Option Bool :=
 br (decide (s4<(iV s.stack))) (bnd (kJ s.stack s4) λx7 =>
 bnd (PH s x7) λy8 =>
 br (y8==false) (some false)
 (jw (Nr s s4 k5) 0))
 (jw (Nu s) 0)
def Lj (s:iT):Option Bool :=
 jn (λs1:Bool =>
 br s1 (some false)
 (jw (Nv s) 0)) λk2 =>
 br (decide (64<(iV s.stack))) (k2 true)
 (br (decide (64<(iV s.waiting))) (k2 true)
 (k2 (decide (64<(iV s.oq)))))
def DN (cards:List jI)(s:iT)(s16:Int)(k17:Int->Option Bool):Option Bool :=
 br (decide (s16<(iV s.extra))) (bnd (kJ s.extra s16) λx19 =>
 bnd (pF s x19) λy20 =>
 br (y20==false) (some false)
 (k17 (jq s16 1)))
 (jn (λs21:Bool =>
 br s21 (some false)
 (bnd (sG cards s) λy25 =>
 br y25 (bnd (Lj s) λy26 =>
 some y26)
 (some false))) λk22 =>
 br (decide (s.over=1)) (bnd (pF s s.uJ) λy24 =>
 br (y24==false) (k22 true)
 (br (!decide (s.over=1)) (k22 (!decide (s.uJ=(-1))))
 (k22 false)))
 (br (!decide (s.over=1)) (k22 (!decide (s.uJ=(-1))))
 (k22 false)))
def uN (cards:List jI)(s:iT):Option Bool :=
 jn (λs1:Bool =>
 br s1 (some false)
 (jn (λs8:Bool =>
 br s8 (some false)
 (jw (DN cards s) 0)) λk9 =>
 bnd (Fa s) λy11 =>
 br (y11==false) (k9 true)
 (bnd (pF s s.nD) λy12 =>
 br (y12==false) (k9 true)
 (bnd (pF s s.priority) λy13 =>
 br (y13==false) (k9 true)
 (bnd (vT s.passes 0 (iV s.ji)) λy14 =>
 br (y14==false) (k9 true)
 (br (decide (500<(iV s.extra))) (k9 true)
 (bnd (vT s.over 0 2) λy15 =>
 k9 (y15==false)))))))) λk2 =>
 bnd (vT s.nextId 1 1000000) λy4 =>
 br (y4==false) (k2 true)
 (bnd (vT s.nH 1 1000000) λy5 =>
 br (y5==false) (k2 true)
 (bnd (vT s.turn 0 500) λy6 =>
 br (y6==false) (k2 true)
 (bnd (vT s.step 0 10) λy7 =>
 br (y7==false) (k2 true)
 (k2 (decide (2048<(iV s.objects)))))))
def Ar (cards:List jI)(s:iT):Option Bool :=
 bnd (Ap cards) λy1 =>
 br (decide (y1.2=0)) (bnd (uN cards s) λy2 =>
 some y2)
 (some false)
def JU (c:oH)(s2:Int×Int×Int)(k3:(Int×Int×Int)->Option Int):Option Int :=
 br (decide (s2.2.2<5)) (jn (λs5:Int =>
 k3 (s5,(zu 2 s2.2.1),(jq s2.2.2 1))) λk6 =>
 jn (λs8:Int =>
 k6 s8) λk9 =>
 jn (λs11:Bool =>
 br s11 (k9 (jq s2.1 s2.2.1))
 (k9 s2.1)) λk12 =>
 sel s2.2.2 5 λj14=>(match j14 with|0=>(k12 (decide (0<c.color.a0)))  | 1=>(k12 (decide (0<c.color.a1)))  | 2=>(k12 (decide (0<c.color.a2)))  | 3=>(k12 (decide (0<c.color.a3)))  | _=>(k12 (decide (0<c.color.a4))) ))
 (some s2.1)
def Io (c:oH):Option Int :=
 bnd (FM c) λy1 =>
 br (y1==false) (some 0)
 (jw (JU c) (0,1,0))
def BI (a:kF)(s1:Int×(List jX))(k2:(Int×(List jX))->Option kF):Option kF :=
 br (decide (s1.1<(iV a.nR))) (bnd (kJ a.nR s1.1) λx4 =>
 jW (0+x4.mP.length) 176 (
 jW (s1.2.length+([{ x4 with mP:=x4.mP }]).length) 560 (
 k2 ((jq s1.1 1),(s1.2++[{ x4 with mP:=x4.mP }])))))
 (some { a with mP:=a.mP,specs:=a.specs,nR:=s1.2 })
def Fb (a:kF):Option kF :=
 jW (0+a.mP.length) 176 (
 jW (0+a.specs.length) 144 (
 jw (BI a) (0,[])))
def BJ (c:jI)(y1:Int)(s2:Int×(List kF))(k3:(Int×(List kF))->Option iM):Option iM :=
 br (decide (s2.1<(iV c.jO))) (bnd (kJ c.jO s2.1) λx5 =>
 bnd (Fb x5) λy6 =>
 jW (s2.2.length+([y6]).length) 640 (
 k3 ((jq s2.1 1),(s2.2++[y6]))))
 (some (iM.mk c.name c.cost (kz .or .i64 y1 c.color) { c.line with subs:=c.line.subs } c.power c.jE c.keys s2.2 0))
def Fe (c:jI):Option iM :=
 bnd (Io c.cost) λy1 =>
 jW (0+c.line.subs.length) 16 (
 jw (BJ c y1) (0,[]))
def U7 (cards:List jI)(o:iW):Option iM :=
 jn (λs1:Int =>
 jn (λs4:iM =>
 br (decide (o.jQ=0)) (some { s4 with control:=o.control })
 (br (decide (o.jQ=5)) (some { s4 with control:=o.control })
 (some { s4 with control:=o.owner }))) λk5 =>
 jn (λs7:Bool =>
 br s7 (bnd (kJ cards s1) λx10 =>
 bnd (Fe x10) λy11 =>
 k5 y11)
 (k5 rU)) λk8 =>
 br (decide (0<=s1)) (k8 (decide (s1<(iV cards))))
 (k8 false)) λk2 =>
 br (decide (o.copy<0)) (k2 o.card)
 (k2 o.copy)
def Ep (k5:(List jJ)->Option (List jJ))(x7:iW)(y8:iM)(s9:Int×(List jJ))(k10:(Int×(List jJ))->Option (List jJ)):Option (List jJ) :=
 br (decide (s9.1<(iV y8.jO))) (jn (λs12:(List jJ) =>
 k10 ((jq s9.1 1),s12)) λk13 =>
 bnd (kJ y8.jO s9.1) λx15 =>
 br (decide (x15.kind=1)) (lt (jJ.mk x7.id s9.1 x7.control x7.stamp false ([]) x15.filter x15.mP) λx16 =>
 jW (s9.2.length+([x16]).length) 224 (
 k13 (s9.2++[x16])))
 (k13 s9.2))
 (k5 s9.2)
def Es (s:iT)(s17:Int×(List jJ))(k18:(Int×(List jJ))->Option (List jJ)):Option (List jJ) :=
 br (decide (s17.1<(iV s.oq))) (bnd (kJ s.oq s17.1) λx20 =>
 lt (jJ.mk x20.source (-1) x20.control x20.stamp true x20.objects qL x20.mP) λx21 =>
 jW (s17.2.length+([x21]).length) 224 (
 k18 ((jq s17.1 1),(s17.2++[x21]))))
 (some s17.2)
def Et (cards:List jI)(s:iT)(s1:Int×(List jJ))(k2:(Int×(List jJ))->Option (List jJ)):Option (List jJ) :=
 br (decide (s1.1<(iV s.objects))) (jn (λs4:(List jJ) =>
 k2 ((jq s1.1 1),s4)) λk5 =>
 bnd (kJ s.objects s1.1) λx7 =>
 br (!decide (x7.jQ=0)) (k5 s1.2)
 (bnd (U7 cards x7) λy8 =>
 jw (Ep k5 x7 y8) (0,s1.2)))
 (jw (Es s) (0,s1.2))
def Ip (cards:List jI)(s:iT):Option (List jJ) :=
 jw (Et cards s) (0,[])
def Gl (cards:List jI)(s:iT)(y1:List jJ)(s2:Int×(List iM))(k3:(Int×(List iM))->Option jP):Option jP :=
 br (decide (s2.1<(iV s.objects))) (bnd (kJ s.objects s2.1) λx5 =>
 bnd (U7 cards x5) λy6 =>
 jW (s2.2.length+([y6]).length) 176 (
 k3 ((jq s2.1 1),(s2.2++[y6]))))
 (bnd (XK (iV y1) (iV y1) 1) λj7 =>
 lt false λx8 =>
 bnd (XK (iV y1) (iV y1) 24) λj9 =>
 lt ([]) λx10 =>
 bnd (XK (iV s.objects) (iV s.objects) 1) λj11 =>
 lt false λx12 =>
 some (jP.mk s s2.2 y1 (List.replicate j7 x8) (List.replicate j9 x10) (List.replicate j11 x12)))
def Ll (cards:List jI)(s:iT):Option jP :=
 bnd (Ip cards s) λy1 =>
 jw (Gl cards s y1) (0,[])
def qc (n:Int):Option Int :=
 br (decide (1000000<n)) (some 1000000)
 (br (decide (n<(-1000000))) (some (-1000000))
 (some n))
def Jp (a:Int)(b:Int):Option Int :=
 bnd (qc a) λy1 =>
 bnd (qc b) λy2 =>
 bnd (qc (jS y1 y2)) λy3 =>
 some y3
def Lm (c:UQ Int):Option Int :=
 bnd (Jp c.a0 c.a1) λy1 =>
 some y1
def uw (a:Int)(b:Int):Option Int :=
 bnd (qc a) λy1 =>
 bnd (qc b) λy2 =>
 bnd (qc (jq y1 y2)) λy3 =>
 some y3
def BK (w:jP)(s1:Int×(List iM))(k2:(Int×(List iM))->Option jP):Option jP :=
 br (decide (s1.1<(iV w.all))) (jn (λs4:(List iM) =>
 k2 ((jq s1.1 1),s4)) λk5 =>
 bnd (kJ w.all s1.1) λx7 =>
 bnd (kJ w.s.objects s1.1) λx8 =>
 jn (λs9:Int×Int =>
 jW (s1.2.length+([{ x7 with power:=s9.1,jE:=s9.2 }]).length) 176 (
 k5 (s1.2++[{ x7 with power:=s9.1,jE:=s9.2 }]))) λk10 =>
 jn (λs12:Bool =>
 br s12 (bnd (Lm x8.counters) λy17 =>
 bnd (uw x7.power y17) λy18 =>
 bnd (uw x7.jE y17) λy19 =>
 k10 (y18,y19))
 (k10 (x7.power,x7.jE))) λk13 =>
 br (decide (x8.jQ=0)) (bnd (divO .quo .i64 x7.line.types 1) λx15 =>
 bnd (divO .rem .i64 x15 2) λx16 =>
 k13 (decide (x16=1)))
 (k13 false))
 (some { w with all:=s1.2 })
def Ff (w:jP):Option jP :=
 jw (BK w) (0,[])
def wY (kind:Int):Option Int :=
 br (decide (kind=1)) (some 1)
 (br (decide (kind=2)) (some 2)
 (br (decide (kind=3)) (some 2)
 (br (decide (kind=4)) (some 2)
 (br (decide (kind=5)) (some 2)
 (br (decide (kind=6)) (some 3)
 (br (decide (kind=7)) (some 3)
 (br (decide (kind=8)) (some 4)
 (br (decide (kind=9)) (some 4)
 (br (decide (kind=10)) (some 4)
 (br (decide (kind=11)) (some 5)
 (br (decide (kind=12)) (some 6)
 (br (decide (kind=13)) (some 7)
 (br (decide (kind=14)) (some 8)
 (some 0))))))))))))))
def Iq (f:jJ)(stage:Int)(s1:Int)(k2:Int->Option Bool):Option Bool :=
 br (decide (s1<(iV f.mP))) (bnd (kJ f.mP s1) λx4 =>
 bnd (wY x4.kind) λy5 =>
 br (decide (y5=stage)) (some true)
 (k2 (jq s1 1)))
 (some false)
def Fg (f:jJ)(stage:Int):Option Bool :=
 jw (Iq f stage) 0
def Nw (s:iT)(id:Int)(s1:Int)(k2:Int->Option Int):Option Int :=
 br (decide (s1<(iV s.objects))) (bnd (kJ s.objects s1) λx4 =>
 br (decide (x4.id=id)) (some s1)
 (k2 (jq s1 1)))
 (some (-1))
def DR (s:iT)(id:Int):Option Int :=
 jw (Nw s id) 0
def yg (w:jP)(i:Int):Option Bool :=
 jn (λs1:Bool =>
 br s1 (some true)
 (bnd (kJ w.l i) λx6 =>
 bnd (DR w.s x6.source) λy7 =>
 br (decide (y7<0)) (some true)
 (bnd (kJ w.blank y7) λx8 =>
 some (x8==false)))) λk2 =>
 bnd (kJ w.l i) λx4 =>
 br x4.fixed (k2 true)
 (bnd (kJ w.begun i) λx5 =>
 k2 x5)
def Gm (w:jP)(i:Int):Option Int :=
 bnd (kJ w.l i) λx1 =>
 bnd (DR w.s x1.source) λy2 =>
 jn (λs3:Bool =>
 br s3 (bnd (kJ w.l i) λx7 =>
 some x7.control)
 (bnd (kJ w.all y2) λx8 =>
 some x8.control)) λk4 =>
 bnd (kJ w.l i) λx6 =>
 br x6.fixed (k4 true)
 (k4 (decide (y2<0)))
def Gn (l:List Int)(n:Int)(s1:Int)(k2:Int->Option Int):Option Int :=
 br (decide (s1<(iV l))) (bnd (kJ l s1) λx4 =>
 br (decide (x4=n)) (some s1)
 (k2 (jq s1 1)))
 (some (-1))
def Lp (l:List Int)(n:Int):Option Int :=
 jw (Gn l n) 0
def QB (l:List Int)(n:Int):Option Bool :=
 bnd (Lp l n) λy1 =>
 some (decide (0<=y1))
def yR (mask:Int)(key:Int):Option Bool :=
 some (decide ((kz .and .i64 mask key)=key))
def TQ (control:Int)(you:Int)(w:Int):Option Bool :=
 br (decide (w=1)) (some (decide (control=you)))
 (br (!decide (w=2)) (some true)
 (some (!decide (control=you))))
def PI (id:Int)(source:Int)(w:Int):Option Bool :=
 br (decide (w=1)) (some (decide (id=source)))
 (br (!decide (w=2)) (some true)
 (some (!decide (id=source))))
def TR (nC:Bool)(w:Int):Option Bool :=
 br (decide (w=1)) (some nC)
 (br (!decide (w=2)) (some true)
 (some (nC==false)))
def rq (a:Int)(b:Int):Option Bool :=
 some (!decide ((kz .and .i64 a b)=0))
def DT (l:wu)(sub:ByteArray):Option Bool :=
 bnd (Dz l.subs sub) λy1 =>
 some (decide (0<=y1))
def DU (b:xX)(n:Int):Option Bool :=
 br (decide (b.kind=0)) (some true)
 (br (decide (b.kind=1)) (some (decide (b.n<=n)))
 (br (decide (b.kind=2)) (some (decide (n<=b.n)))
 (br (decide (b.kind=3)) (some (decide (n=b.n)))
 (some false))))
def QC (a:Int)(b:Int):Option Int :=
 bnd (qc a) λy1 =>
 bnd (qc b) λy2 =>
 bnd (qc (zu y1 y2)) λy3 =>
 some y3
def Lr (c:oH)(x:Int):Option Int :=
 bnd (FM c) λy1 =>
 br (y1==false) (some 0)
 (bnd (uw c.generic c.color.a0) λy3 =>
 bnd (uw y3 c.color.a1) λy4 =>
 bnd (uw y4 c.color.a2) λy5 =>
 bnd (uw y5 c.color.a3) λy6 =>
 bnd (uw y6 c.color.a4) λy7 =>
 br (decide (x<0)) (bnd (QC c.x 0) λy8 =>
 bnd (uw y7 y8) λy9 =>
 some y9)
 (bnd (QC c.x x) λy10 =>
 bnd (uw y7 y10) λy11 =>
 some y11))
def DV (t:iM)(f:lX):Option Bool :=
 bnd (rq t.line.types 1) λy1 =>
 jn (λs2:Bool =>
 br s2 (some false)
 (jn (λs6:Bool =>
 br s6 (some false)
 (bnd (Lr t.cost 0) λy10 =>
 bnd (DU f.value y10) λy11 =>
 some y11)) λk7 =>
 br (!decide (f.jE.kind=0)) (br y1 (bnd (DU f.jE t.jE) λy9 =>
 k7 (y9==false))
 (k7 true))
 (k7 false))) λk3 =>
 br (!decide (f.power.kind=0)) (br y1 (bnd (DU f.power t.power) λy5 =>
 k3 (y5==false))
 (k3 true))
 (k3 false)
def yh (o:iW)(t:iM)(you:Int)(source:Int)(f:lX):Option Bool :=
 jn (λs1:Bool =>
 br s1 (some false)
 (jn (λs8:Bool =>
 br s8 (some false)
 (jn (λs14:Bool =>
 br s14 (some false)
 (br (lg .neq f.sub (bs [])) (bnd (DT t.line f.sub) λy20 =>
 br (y20==false) (some false)
 (bnd (yR t.keys f.keys) λy21 =>
 br (y21==false) (some false)
 (bnd (DV t f) λy22 =>
 some y22)))
 (bnd (yR t.keys f.keys) λy23 =>
 br (y23==false) (some false)
 (bnd (DV t f) λy24 =>
 some y24)))) λk15 =>
 br (!decide (f.kU=0)) (bnd (rq t.kU f.kU) λy17 =>
 br (y17==false) (k15 true)
 (bnd (rq t.kU f.jL) λy18 =>
 k15 y18))
 (bnd (rq t.kU f.jL) λy19 =>
 k15 y19))) λk9 =>
 br (!decide (f.types=0)) (bnd (rq t.line.types f.types) λy11 =>
 br (y11==false) (k9 true)
 (bnd (rq t.line.types f.jU) λy12 =>
 k9 y12))
 (bnd (rq t.line.types f.jU) λy13 =>
 k9 y13))) λk2 =>
 bnd (Bj f) λy4 =>
 br (y4==false) (k2 true)
 (br (!decide (o.jQ=f.jQ)) (k2 true)
 (bnd (TQ t.control you f.who) λy5 =>
 br (y5==false) (k2 true)
 (bnd (PI o.id source f.self) λy6 =>
 br (y6==false) (k2 true)
 (bnd (TR o.nC f.vZ) λy7 =>
 k2 (y7==false)))))
def BL (w:jP)(i:Int)(x4:jJ)(s5:Int×(List Int))(k6:(Int×(List Int))->Option (List Int)):Option (List Int) :=
 br (decide (s5.1<(iV w.s.objects))) (jn (λs8:(List Int) =>
 k6 ((jq s5.1 1),s8)) λk9 =>
 bnd (kJ w.s.objects s5.1) λx11 =>
 br (!decide (x11.jQ=0)) (k9 s5.2)
 (jn (λs12:Bool =>
 br s12 (jW (s5.2.length+([x11.id]).length) 8 (
 k9 (s5.2++[x11.id])))
 (k9 s5.2)) λk13 =>
 br x4.fixed (bnd (QB x4.objects x11.id) λy15 =>
 br y15 (k13 true)
 (br (x4.fixed==false) (bnd (kJ w.all s5.1) λx16 =>
 bnd (Gm w i) λy17 =>
 bnd (yh x11 x16 y17 x4.source x4.filter) λy18 =>
 k13 y18)
 (k13 false)))
 (br (x4.fixed==false) (bnd (kJ w.all s5.1) λx19 =>
 bnd (Gm w i) λy20 =>
 bnd (yh x11 x19 y20 x4.source x4.filter) λy21 =>
 k13 y21)
 (k13 false))))
 (some s5.2)
def yj (w:jP)(i:Int):Option (List Int) :=
 bnd (kJ w.begun i) λx1 =>
 br x1 (bnd (kJ w.sets i) λx2 =>
 some x2)
 (bnd (yg w i) λy3 =>
 br (y3==false) (some ([]))
 (bnd (kJ w.l i) λx4 =>
 jw (BL w i x4) (0,[])))
def Yd (all:List iM)(i:Int):Option iM :=
 br (decide (i<0)) (some rU)
 (br (decide ((iV all)<=i)) (some rU)
 (bnd (kJ all i) λx1 =>
 some x1))
def Jq (s:iT)(all:List iM)(you:Int)(source:Int)(f:lX)(s1:Int×(List Int))(k2:(Int×(List Int))->Option (List Int)):Option (List Int) :=
 br (decide (s1.1<(iV s.objects))) (jn (λs4:(List Int) =>
 k2 ((jq s1.1 1),s4)) λk5 =>
 bnd (kJ s.objects s1.1) λx7 =>
 bnd (Yd all s1.1) λy8 =>
 bnd (yh x7 y8 you source f) λy9 =>
 br y9 (bnd (kJ s.objects s1.1) λx10 =>
 jW (s1.2.length+([x10.id]).length) 8 (
 k5 (s1.2++[x10.id])))
 (k5 s1.2))
 (some s1.2)
def PK (s:iT)(all:List iM)(you:Int)(source:Int)(f:lX):Option (List Int) :=
 jw (Jq s all you source f) (0,[])
def BM (w:jP)(i:Int)(stage:Int)(x1:jJ)(s2:Int×(List Int))(k3:(Int×(List Int))->Option (List Int)):Option (List Int) :=
 br (decide (s2.1<(iV x1.mP))) (jn (λs5:(List Int) =>
 k3 ((jq s2.1 1),s5)) λk6 =>
 bnd (kJ x1.mP s2.1) λx8 =>
 bnd (wY x8.kind) λy9 =>
 br (!decide (y9=stage)) (k6 s2.2)
 (jn (λs10:Int =>
 jW (s2.2.length+([s10]).length) 8 (
 k6 (s2.2++[s10]))) λk11 =>
 bnd (kJ x1.mP s2.1) λx13 =>
 br (decide (x13.kind=11)) (bnd (Gm w i) λy14 =>
 bnd (kJ x1.mP s2.1) λx15 =>
 bnd (PK w.s w.all y14 x1.source x15.filter) λy16 =>
 k11 (iV y16))
 (k11 0)))
 (some s2.2)
def yt (w:jP)(i:Int)(stage:Int):Option (List Int) :=
 bnd (kJ w.l i) λx1 =>
 jw (BM w i stage x1) (0,[])
def Eu (l:wu)(sub:ByteArray)(s6:Int)(k7:Int->Option wu):Option wu :=
 jn (λs9:Bool =>
 br s9 (k7 (jq s6 1))
 (bnd (UO l.subs.length 0 s6) λx14 =>
 jW (0+(zo l.subs (0+x14.1) (x14.2-x14.1)).length) 16 (
 jW ((zo l.subs (0+x14.1) (x14.2-x14.1)).length+([sub]).length) 16 (
 bnd (UO l.subs.length s6 ((l.subs.length:Nat):Int)) λx15 =>
 jW (((zo l.subs (0+x14.1) (x14.2-x14.1))++[sub]).length+(zo l.subs (0+x15.1) (x15.2-x15.1)).length) 16 (
 some { l with subs:=(((zo l.subs (0+x14.1) (x14.2-x14.1))++[sub])++(zo l.subs (0+x15.1) (x15.2-x15.1))) }))))) λk10 =>
 br (decide (s6<(iV l.subs))) (bnd (Hz l.subs.length s6) λj12 =>
 bnd (l.subs[j12]?) λx13 =>
 k10 (lg .lss x13 sub))
 (k10 false)
def Ir (l:wu)(sub:ByteArray):Option wu :=
 jW (0+l.subs.length) 16 (
 jn (λs1:Bool =>
 br s1 (some { l with subs:=l.subs })
 (jw (Eu l sub) 0)) λk2 =>
 bnd (yO sub) λy4 =>
 br (y4==false) (k2 true)
 (bnd (DT l sub) λy5 =>
 br y5 (k2 true)
 (k2 (decide (4<=(iV l.subs))))))
def Ls (t:iM)(m:nN)(you:Int)(count:Int):Option iM :=
 bnd (JQ m) λy1 =>
 br (y1==false) (some t)
 (br (decide (m.kind=1)) (some { t with control:=you })
 (br (decide (m.kind=2)) (some { t with line:={ t.line with types:=m.n } })
 (br (decide (m.kind=3)) (some { t with line:={ t.line with types:=(kz .or .i64 t.line.types m.n) } })
 (br (decide (m.kind=4)) (some { t with line:={ t.line with subs:=[m.sub] } })
 (br (decide (m.kind=5)) (bnd (Ir t.line m.sub) λy2 =>
 some { t with line:=y2 })
 (br (decide (m.kind=6)) (some { t with kU:=m.n })
 (br (decide (m.kind=7)) (some { t with kU:=(kz .or .i64 t.kU m.n) })
 (br (decide (m.kind=8)) (some { t with keys:=(kz .or .i64 t.keys m.n) })
 (br (decide (m.kind=9)) (some { t with keys:=(kz .andNot .i64 t.keys m.n) })
 (br (decide (m.kind=10)) (some { t with keys:=0,jO:=[] })
 (br (decide (m.kind=11)) (bnd (qc count) λy3 =>
 bnd (qc count) λy4 =>
 some { t with power:=y3,jE:=y4 })
 (br (decide (m.kind=12)) (some { t with power:=m.n,jE:=m.m })
 (br (decide (m.kind=13)) (bnd (uw t.power m.n) λy5 =>
 bnd (uw t.jE m.m) λy6 =>
 some { t with power:=y5,jE:=y6 })
 (br (decide (m.kind=14)) (some { t with power:=t.jE,jE:=t.power })
 (some t)))))))))))))))
def FQ (f:jJ)(stage:Int)(l9:Int)(nums:List Int)(s1:iM×Int×Int)(k2:(iM×Int×Int)->Option iM):Option iM :=
 br (decide (s1.2.2<(iV f.mP))) (jn (λs4:iM×Int =>
 k2 (s4.1,s4.2,(jq s1.2.2 1))) λk5 =>
 bnd (kJ f.mP s1.2.2) λx7 =>
 bnd (wY x7.kind) λy8 =>
 br (decide (y8=stage)) (bnd (kJ f.mP s1.2.2) λx9 =>
 bnd (kJ nums s1.2.1) λx10 =>
 bnd (Ls s1.1 x9 l9 x10) λy11 =>
 k5 (y11,(jq s1.2.1 1)))
 (k5 (s1.1,s1.2.1)))
 (some s1.1)
def BN (t:iM)(f:jJ)(stage:Int)(l9:Int)(nums:List Int):Option iM :=
 jw (FQ f stage l9 nums) (t,0,0)
def Ny (f:jJ)(stage:Int)(s1:Int)(k2:Int->Option Bool):Option Bool :=
 br (decide (s1<(iV f.mP))) (jn (λs4:Bool =>
 br s4 (some true)
 (k2 (jq s1 1))) λk5 =>
 bnd (kJ f.mP s1) λx7 =>
 br (decide (x7.kind=10)) (bnd (kJ f.mP s1) λx8 =>
 bnd (wY x8.kind) λy9 =>
 k5 (decide (y9=stage)))
 (k5 false))
 (some false)
def Lt (f:jJ)(stage:Int):Option Bool :=
 jw (Ny f stage) 0
def BO (w:jP)(i:Int)(stage:Int)(y2:List Int)(y3:List Int)(y4:Int)(j5:Nat)(x6:Bool)(j8:Nat)(s10:Int×(List iM)×(List Bool))(k11:(Int×(List iM)×(List Bool))->Option jP):Option jP :=
 br (decide (s10.1<(iV w.s.objects))) (jn (λs13:(List iM)×(List Bool) =>
 k11 ((jq s10.1 1),s13.1,s13.2)) λk14 =>
 bnd (kJ w.s.objects s10.1) λx16 =>
 bnd (QB y2 x16.id) λy17 =>
 br (y17==false) (k14 (s10.2.1,s10.2.2))
 (bnd (kJ w.all s10.1) λx18 =>
 bnd (kJ w.l i) λx19 =>
 bnd (BN x18 x19 stage y4 y3) λy20 =>
 bnd (Hz s10.2.1.length s10.1) λj21 =>
 bnd (s10.2.1[j21]?) λx22 =>
 bnd (kJ w.l i) λx23 =>
 bnd (Lt x23 stage) λy24 =>
 br y24 (bnd (Hz s10.2.2.length s10.1) λj25 =>
 lt true λx26 =>
 bnd (s10.2.2[j25]?) λx27 =>
 k14 ((s10.2.1.set j21 y20),(s10.2.2.set j25 x26)))
 (k14 ((s10.2.1.set j21 y20),s10.2.2))))
 (some (jP.mk w.s s10.2.1 w.l (w.begun.set j5 x6) (w.sets.set j8 y2) s10.2.2))
def Au (w:jP)(i:Int)(stage:Int):Option jP :=
 bnd (yg w i) λy1 =>
 br (y1==false) (some w)
 (bnd (yj w i) λy2 =>
 bnd (yt w i stage) λy3 =>
 bnd (Gm w i) λy4 =>
 jW w.all.length 176 (
 jW w.begun.length 1 (
 jW w.sets.length 24 (
 jW w.blank.length 1 (
 bnd (Hz w.begun.length i) λj5 =>
 lt true λx6 =>
 bnd (w.begun[j5]?) λx7 =>
 bnd (Hz w.sets.length i) λj8 =>
 bnd (w.sets[j8]?) λx9 =>
 jw (BO w i stage y2 y3 y4 j5 x6 j8) (0,w.all,w.blank))))))
def Jr (a:List Int)(b:List Int)(s1:Int)(k2:Int->Option Bool):Option Bool :=
 br (decide (s1<(iV a))) (bnd (kJ a s1) λx4 =>
 bnd (kJ b s1) λx5 =>
 br (!decide (x4=x5)) (some false)
 (k2 (jq s1 1)))
 (some true)
def Lu (a:List Int)(b:List Int):Option Bool :=
 br (!decide ((iV a)=(iV b))) (some false)
 (jw (Jr a b) 0)
def LC (w:jP)(i:Int)(j:Int)(stage:Int):Option Bool :=
 br (decide (i=j)) (some false)
 (bnd (Au w j stage) λy1 =>
 bnd (yg w i) λy2 =>
 bnd (yg y1 i) λy3 =>
 br ((y2==y3)==false) (some true)
 (bnd (yj w i) λy4 =>
 bnd (yj y1 i) λy5 =>
 bnd (Lu y4 y5) λy6 =>
 br (y6==false) (some true)
 (bnd (yt w i stage) λy7 =>
 bnd (yt y1 i stage) λy8 =>
 bnd (Lu y7 y8) λy9 =>
 some (y9==false))))
def Nz (l:List Int)(i:Int)(s1:Int)(k2:Int->Option Bool):Option Bool :=
 br (decide (s1<(iV l))) (bnd (kJ l s1) λx4 =>
 br (decide (x4=i)) (some true)
 (k2 (jq s1 1)))
 (some false)
def NC (l:List Int)(i:Int):Option Bool :=
 jw (Nz l i) 0
def zL (left:List Int)(s1:Int×(List Int))(k2:(Int×(List Int))->Option (List Int)):Option (List Int) :=
 br (decide (s1.1<(iV left))) (jn (λs4:(List Int) =>
 k2 ((jq s1.1 1),s4)) λk5 =>
 jn (λs7:Bool =>
 br s7 (bnd (kJ left s1.1) λx13 =>
 jW (s1.2.length+([x13]).length) 8 (
 k5 (s1.2++[x13])))
 (k5 s1.2)) λk8 =>
 bnd (kJ left s1.1) λx10 =>
 br (decide (0<=x10)) (bnd (kJ left s1.1) λx11 =>
 bnd (NC s1.2 x11) λy12 =>
 k8 (y12==false))
 (k8 false))
 (some s1.2)
def BP (left:List Int):Option (List Int) :=
 jw (zL left) (0,[])
def Iu (needs:List (List Bool))(i:Int)(j:Int):Option Bool :=
 br (decide (i<(iV needs))) (bnd (kJ needs i) λx1 =>
 br (decide (j<(iV x1))) (bnd (kJ needs i) λx2 =>
 bnd (kJ x2 j) λx3 =>
 some x3)
 (some false))
 (some false)
def BQ (l:List Int)(needs:List (List Bool))(s10:Int×(List Int))(k11:(Int×(List Int))->Option (List Int))(s13:Int×(List Int))(k14:(Int×(List Int))->Option (List Int)):Option (List Int) :=
 br (decide (s13.1<(iV l))) (jn (λs16:(List Int) =>
 k14 ((jq s13.1 1),s16)) λk17 =>
 jn (λs19:Bool =>
 br s19 (bnd (kJ l s13.1) λx28 =>
 jW (s13.2.length+([x28]).length) 8 (
 k17 (s13.2++[x28])))
 (k17 s13.2)) λk20 =>
 bnd (Hz s13.2.length s10.1) λj22 =>
 bnd (s13.2[j22]?) λx23 =>
 bnd (kJ l s13.1) λx24 =>
 bnd (Iu needs x23 x24) λy25 =>
 br y25 (bnd (kJ l s13.1) λx26 =>
 bnd (NC s13.2 x26) λy27 =>
 k20 (y27==false))
 (k20 false))
 (k11 ((jq s10.1 1),s13.2))
def Iw (l:List Int)(needs:List (List Bool))(s10:Int×(List Int))(k11:(Int×(List Int))->Option (List Int)):Option (List Int) :=
 br (decide (s10.1<(iV s10.2))) (jw (BQ l needs s10 k11) (0,s10.2))
 (some s10.2)
def BR (l:List Int)(needs:List (List Bool))(i:Int)(s1:Int×(List Int))(k2:(Int×(List Int))->Option (List Int)):Option (List Int) :=
 br (decide (s1.1<(iV l))) (jn (λs4:(List Int) =>
 k2 ((jq s1.1 1),s4)) λk5 =>
 bnd (kJ l s1.1) λx7 =>
 bnd (Iu needs i x7) λy8 =>
 br y8 (bnd (kJ l s1.1) λx9 =>
 jW (s1.2.length+([x9]).length) 8 (
 k5 (s1.2++[x9])))
 (k5 s1.2))
 (jw (Iw l needs) (0,s1.2))
def Fh (l:List Int)(needs:List (List Bool))(i:Int):Option (List Int) :=
 jw (BR l needs i) (0,[])
def Gp (needs:List (List Bool))(y1:List Int)(s2:Int×(List Int))(k6:(List Int)->Option (List Int))(s8:Bool×Int)(k9:(Bool×Int)->Option (List Int)):Option (List Int) :=
 br (decide (s8.2<(iV y1))) (jn (λs11:Bool =>
 k9 (s11,(jq s8.2 1))) λk12 =>
 jn (λs14:Bool =>
 br s14 (k12 false)
 (k12 s8.1)) λk15 =>
 br (!decide (s8.2=s2.1)) (bnd (kJ y1 s2.1) λx17 =>
 bnd (kJ y1 s8.2) λx18 =>
 bnd (Iu needs x17 x18) λy19 =>
 br y19 (bnd (kJ y1 s8.2) λx20 =>
 bnd (Fh y1 needs x20) λy21 =>
 bnd (kJ y1 s2.1) λx22 =>
 bnd (NC y21 x22) λy23 =>
 k15 (y23==false))
 (k15 false))
 (k15 false))
 (br s8.1 (bnd (kJ y1 s2.1) λx24 =>
 jW (s2.2.length+([x24]).length) 8 (
 k6 (s2.2++[x24])))
 (k6 s2.2))
def Gq (needs:List (List Bool))(y1:List Int)(s2:Int×(List Int))(k3:(Int×(List Int))->Option (List Int)):Option (List Int) :=
 br (decide (s2.1<(iV y1))) (jn (λs5:(List Int) =>
 k3 ((jq s2.1 1),s5)) λk6 =>
 jw (Gp needs y1 s2 k6) (true,0))
 (some s2.2)
def LD (left:List Int)(needs:List (List Bool)):Option (List Int) :=
 bnd (BP left) λy1 =>
 jw (Gq needs y1) (0,[])
def DW (stamps:List Int)(i:Int):Option Int :=
 br (decide (i<(iV stamps))) (bnd (kJ stamps i) λx1 =>
 some x1)
 (some 0)
def Js (stamps:List Int)(y1:List Int)(s2:Int×Int)(k3:(Int×Int)->Option Int):Option Int :=
 br (decide (s2.2<(iV y1))) (jn (λs5:Int =>
 k3 (s5,(jq s2.2 1))) λk6 =>
 bnd (kJ y1 s2.2) λx8 =>
 bnd (DW stamps x8) λy9 =>
 jn (λs10:Bool =>
 br s10 (bnd (kJ y1 s2.2) λx16 =>
 k6 x16)
 (k6 s2.1)) λk11 =>
 br (decide (s2.1<0)) (k11 true)
 (bnd (DW stamps s2.1) λy13 =>
 br (decide (y9<y13)) (k11 true)
 (bnd (DW stamps s2.1) λy14 =>
 br (decide (y9=y14)) (bnd (kJ y1 s2.2) λx15 =>
 k11 (decide (x15<s2.1)))
 (k11 false))))
 (some s2.1)
def LG (left:List Int)(stamps:List Int)(needs:List (List Bool)):Option Int :=
 bnd (LD left needs) λy1 =>
 jw (Js stamps y1) ((-1),0)
def Jt (w:jP)(left:List Int)(stage:Int)(s8:Int×(List (List Bool)))(k9:(Int×(List (List Bool)))->Option Int)(s11:Int×(List (List Bool)))(k12:(Int×(List (List Bool)))->Option Int):Option Int :=
 br (decide (s11.1<(iV left))) (bnd (kJ left s8.1) λx14 =>
 bnd (Hz s11.2.length x14) λj15 =>
 bnd (s11.2[j15]?) λx16 =>
 bnd (kJ left s11.1) λx17 =>
 bnd (kJ left s8.1) λx18 =>
 bnd (kJ left s11.1) λx19 =>
 bnd (LC w x18 x19 stage) λy20 =>
 bnd (Hz x16.length x17) λj21 =>
 bnd (s11.2[j15]?) λx22 =>
 bnd (x22[j21]?) λx23 =>
 k12 ((jq s11.1 1),(s11.2.set j15 (x22.set j21 y20))))
 (k9 ((jq s8.1 1),s11.2))
def Ju (w:jP)(left:List Int)(stage:Int)(s1:Int×(List Int)×(List (List Bool)))(s8:Int×(List (List Bool)))(k9:(Int×(List (List Bool)))->Option Int):Option Int :=
 br (decide (s8.1<(iV left))) (jw (Jt w left stage s8 k9) (0,s8.2))
 (bnd (LG left s1.2.1 s8.2) λy24 =>
 some y24)
def Jv (w:jP)(left:List Int)(stage:Int)(s1:Int×(List Int)×(List (List Bool)))(k2:(Int×(List Int)×(List (List Bool)))->Option Int):Option Int :=
 br (decide (s1.1<(iV w.l))) (bnd (kJ w.l s1.1) λx4 =>
 jW (s1.2.1.length+([x4.stamp]).length) 8 (
 bnd (XK (iV w.l) (iV w.l) 1) λj5 =>
 lt false λx6 =>
 jW (s1.2.2.length+1) 24 (
 k2 ((jq s1.1 1),(s1.2.1++[x4.stamp]),(s1.2.2++[(List.replicate j5 x6)])))))
 (jw (Ju w left stage s1) (0,s1.2.2))
def PL (w:jP)(left:List Int)(stage:Int):Option Int :=
 jw (Jv w left stage) (0,[],[])
def BU (l:List Int)(n:Int)(s1:Int×(List Int))(k2:(Int×(List Int))->Option (List Int)):Option (List Int) :=
 br (decide (s1.1<(iV l))) (jn (λs4:(List Int) =>
 k2 ((jq s1.1 1),s4)) λk5 =>
 bnd (kJ l s1.1) λx7 =>
 br (!decide (x7=n)) (bnd (kJ l s1.1) λx8 =>
 jW (s1.2.length+([x8]).length) 8 (
 k5 (s1.2++[x8])))
 (k5 s1.2))
 (some s1.2)
def Fj (l:List Int)(n:Int):Option (List Int) :=
 jw (BU l n) (0,[])
def JV (stage:Int)(s5:Int×(List Int))(s13:jP×(List Int)×Int×(List Int))(k14:(jP×(List Int)×Int×(List Int))->Option (jP×(List Int))):Option (jP×(List Int)) :=
 br (decide (s13.2.2.1<(iV s5.2))) (bnd (PL s13.1 s13.2.1 stage) λy16 =>
 jW (s13.2.2.2.length+([y16]).length) 8 (
 bnd (Au s13.1 y16 stage) λy17 =>
 bnd (Fj s13.2.1 y16) λy18 =>
 k14 (y17,y18,(jq s13.2.2.1 1),(s13.2.2.2++[y16]))))
 (some (s13.1,s13.2.2.2))
def Ew (stage:Int)(s1:jP)(s5:Int×(List Int))(k6:(Int×(List Int))->Option (jP×(List Int))):Option (jP×(List Int)) :=
 br (decide (s5.1<(iV s1.l))) (jn (λs8:(List Int) =>
 k6 ((jq s5.1 1),s8)) λk9 =>
 bnd (kJ s1.l s5.1) λx11 =>
 bnd (Fg x11 stage) λy12 =>
 br y12 (jW (s5.2.length+([s5.1]).length) 8 (
 k9 (s5.2++[s5.1])))
 (k9 s5.2))
 (jw (JV stage s5) (s1,s5.2,0,[]))
def rJ (w:jP)(stage:Int):Option (jP×(List Int)) :=
 jn (λs1:jP =>
 jw (Ew stage s1) (0,[])) λk2 =>
 br (decide (stage=7)) (bnd (Ff w) λy4 =>
 k2 y4)
 (k2 w)
def zM (cards:List jI)(s:iT):Option (List iM) :=
 bnd (Ll cards s) λy1 =>
 bnd (rJ y1 1) λy3 =>
 bnd (rJ y3.1 2) λy4 =>
 bnd (rJ y4.1 3) λy5 =>
 bnd (rJ y5.1 4) λy6 =>
 bnd (rJ y6.1 5) λy7 =>
 bnd (rJ y7.1 6) λy8 =>
 bnd (rJ y8.1 7) λy9 =>
 bnd (rJ y9.1 8) λy10 =>
 some y10.1.all
def Ey (a:List iL)(b:List iL)(s1:Int)(k2:Int->Option Bool):Option Bool :=
 br (decide (s1<(iV a))) (bnd (kJ a s1) λx4 =>
 bnd (kJ b s1) λx5 =>
 lt ((decide (x4.kind=x5.kind)&&(decide (x4.a=x5.a)&&(decide (x4.b=x5.b)&&true)))==false) λv6 =>
 br v6 (some false)
 (k2 (jq s1 1)))
 (some true)
def Iy (a:List iL)(b:List iL):Option Bool :=
 br (!decide ((iV a)=(iV b))) (some false)
 (jw (Ey a b) 0)
def kZ (mask:Int)(key:Int):Option Bool :=
 some (decide ((kz .and .i64 mask key)=key))
def uy (t:iM)(key:Int):Option Bool :=
 bnd (kZ t.keys key) λy1 =>
 some y1
def LH (b:iW)(tb:iM)(a:iW)(ta:iM):Option Bool :=
 jn (λs1:Bool =>
 br s1 (some false)
 (bnd (uy ta 1) λy6 =>
 br (y6==false) (some true)
 (bnd (uy tb 1) λy7 =>
 br y7 (some true)
 (bnd (uy tb 2) λy8 =>
 some y8)))) λk2 =>
 br (decide ((kz .and .i64 tb.line.types 1)=0)) (k2 true)
 (br b.nC (k2 true)
 (bnd (uy tb 32768) λy4 =>
 br y4 (k2 true)
 (bnd (uy ta 8192) λy5 =>
 k2 y5)))
def pq (all:List iM)(i:Int):Option iM :=
 br (decide (i<(iV all))) (bnd (kJ all i) λx1 =>
 some x1)
 (some rU)
def Ez (s:iT)(all:List iM)(p:Int)(s1:Int×(List iL))(k5:(List iL)->Option (List iL))(x7:iW)(s12:Int×(List iL))(k13:(Int×(List iL))->Option (List iL)):Option (List iL) :=
 br (decide (s12.1<(iV s.objects))) (jn (λs15:(List iL) =>
 k13 ((jq s12.1 1),s15)) λk16 =>
 bnd (kJ s.objects s12.1) λx18 =>
 jn (λs19:Bool =>
 br s19 (lt (iL.mk 8 x7.id x18.id) λx25 =>
 jW (s12.2.length+([x25]).length) 24 (
 k16 (s12.2++[x25])))
 (k16 s12.2)) λk20 =>
 br (decide (x18.jQ=0)) (br (decide (x18.lG=p)) (bnd (pq all s1.1) λy22 =>
 bnd (pq all s12.1) λy23 =>
 bnd (LH x7 y22 x18 y23) λy24 =>
 k20 y24)
 (k20 false))
 (k20 false))
 (k5 s12.2)
def EC (s:iT)(all:List iM)(p:Int)(s1:Int×(List iL))(k2:(Int×(List iL))->Option (List iL)):Option (List iL) :=
 br (decide (s1.1<(iV s.objects))) (jn (λs4:(List iL) =>
 k2 ((jq s1.1 1),s4)) λk5 =>
 bnd (kJ s.objects s1.1) λx7 =>
 jn (λs8:Bool =>
 br s8 (k5 s1.2)
 (jw (Ez s all p s1 k5 x7) (0,s1.2))) λk9 =>
 br (!decide (x7.jQ=0)) (k9 true)
 (bnd (pq all s1.1) λy11 =>
 k9 (!decide (y11.control=p))))
 (some s1.2)
def Ac (s:iT)(all:List iM)(p:Int):Option (List iL) :=
 jw (EC s all p) (0,[])
def zN (mask:Int)(bit:Int):Option Bool :=
 bnd (divO .quo .i64 mask bit) λx1 =>
 bnd (divO .rem .i64 x1 2) λx2 =>
 some (decide (x2=1))
def TS (b:iW)(tb:iM)(a:iW)(ta:iM):Option Bool :=
 jn (λs1:Bool =>
 br s1 (some false)
 (bnd (zN ta.keys 1) λy7 =>
 br (y7==false) (some true)
 (bnd (zN tb.keys 1) λy8 =>
 br y8 (some true)
 (bnd (zN tb.keys 2) λy9 =>
 some y9)))) λk2 =>
 bnd (zN tb.line.types 1) λy4 =>
 br (y4==false) (k2 true)
 (br b.nC (k2 true)
 (bnd (zN tb.keys 32768) λy5 =>
 br y5 (k2 true)
 (bnd (zN ta.keys 8192) λy6 =>
 k2 y6)))
def wC (all:List iM)(i:Int):Option iM :=
 br (decide (i<(iV all))) (bnd (kJ all i) λx1 =>
 some x1)
 (some rU)
def Aw (s:iT)(all:List iM)(p:Int)(s1:Int×(List iL))(k5:(List iL)->Option (List iL))(x7:iW)(s12:Int×(List iL))(k13:(Int×(List iL))->Option (List iL)):Option (List iL) :=
 br (decide (s12.1<(iV s.objects))) (jn (λs15:(List iL) =>
 k13 ((jq s12.1 1),s15)) λk16 =>
 bnd (kJ s.objects s12.1) λx18 =>
 jn (λs19:Bool =>
 br s19 (lt (iL.mk 8 x7.id x18.id) λx25 =>
 jW (s12.2.length+([x25]).length) 24 (
 k16 (s12.2++[x25])))
 (k16 s12.2)) λk20 =>
 br (decide (x18.jQ=0)) (br (decide (x18.lG=p)) (bnd (wC all s1.1) λy22 =>
 bnd (wC all s12.1) λy23 =>
 bnd (TS x7 y22 x18 y23) λy24 =>
 k20 y24)
 (k20 false))
 (k20 false))
 (k5 s12.2)
def Az (s:iT)(all:List iM)(p:Int)(s1:Int×(List iL))(k2:(Int×(List iL))->Option (List iL)):Option (List iL) :=
 br (decide (s1.1<(iV s.objects))) (jn (λs4:(List iL) =>
 k2 ((jq s1.1 1),s4)) λk5 =>
 bnd (kJ s.objects s1.1) λx7 =>
 jn (λs8:Bool =>
 br s8 (k5 s1.2)
 (jw (Aw s all p s1 k5 x7) (0,s1.2))) λk9 =>
 br (!decide (x7.jQ=0)) (k9 true)
 (bnd (wC all s1.1) λy11 =>
 k9 (!decide (y11.control=p))))
 (some s1.2)
def yu (s:iT)(all:List iM)(p:Int):Option (List iL) :=
 jw (Az s all p) (0,[])
def zO (cards:List jI)(s:iT)(p:Int):Option Bool :=
 bnd (Ar cards s) λy1 =>
 br (y1==false) (bnd (xZ) λy2 =>
 some y2)
 (bnd (zM cards s) λy3 =>
 bnd (xZ) λy4 =>
 br y4 (bnd (Ac s y3 p) λy5 =>
 bnd (yu s y3 p) λy6 =>
 bnd (Iy y5 y6) λy7 =>
 some y7)
 (some false))
def uO (x:iL)(c1:iL):Option Bool :=
 some (decide (x.a=c1.a))
def nU (s:List iL)(f:iL->Option Bool)(s1:Int)(k2:Int->Option Int):Option Int :=
 br (decide (s1<(iV s))) (bnd (kJ s s1) λx4 =>
 bnd (f x4) λy5 =>
 br y5 (some s1)
 (k2 (jq s1 1)))
 (some (-1))
def mi (s:List iL)(f:iL->Option Bool):Option Int :=
 jw (nU s f) 0
def jZ (s:List iL)(f:iL->Option Bool):Option Bool :=
 bnd (mi s f) λy1 =>
 some (decide (0<=y1))
def su (s:List iL)(v:iL)(s1:Int)(k2:Int->Option Int):Option Int :=
 br (decide (s1<(iV s))) (bnd (kJ s s1) λx4 =>
 lt (decide (v.kind=x4.kind)&&(decide (v.a=x4.a)&&(decide (v.b=x4.b)&&true))) λv5 =>
 br v5 (some s1)
 (k2 (jq s1 1)))
 (some (-1))
def rV (s:List iL)(v:iL):Option Int :=
 jw (su s v) 0
def pz (s:List iL)(v:iL):Option Bool :=
 bnd (rV s v) λy1 =>
 some (decide (0<=y1))
def BV (l:List iL)(k16:Unit->Option Int)(x18:iW)(s21:Int×Int)(k22:(Int×Int)->Option Int):Option Int :=
 br (decide (s21.2<(iV l))) (jn (λs24:Int =>
 k22 (s24,(jq s21.2 1))) λk25 =>
 bnd (kJ l s21.2) λx27 =>
 br (decide (x27.b=x18.id)) (k25 (jq s21.1 1))
 (k25 s21.1))
 (br (decide (s21.1=1)) (some 19)
 (k16 ()))
def BX (s:iT)(all:List iM)(l:List iL)(s12:Int)(k13:Int->Option Int):Option Int :=
 br (decide (s12<(iV s.objects))) (jn (λs15:Unit =>
 k13 (jq s12 1)) λk16 =>
 bnd (kJ s.objects s12) λx18 =>
 bnd (pq all s12) λy19 =>
 bnd (kZ y19.keys 512) λy20 =>
 br (y20==false) (k16 ())
 (jw (BV l k16 x18) (0,0)))
 (some 0)
def BZ (s:iT)(all:List iM)(l:List iL)(y1:List iL)(s2:Int)(k3:Int->Option Int):Option Int :=
 br (decide (s2<(iV l))) (bnd (kJ l s2) λx5 =>
 bnd (UO l.length 0 s2) λx6 =>
 bnd (jZ (zo l x6.1 (x6.2-x6.1)) (λa0=>uO a0 x5)) λy7 =>
 jn (λs8:Bool =>
 br s8 (some 19)
 (k3 (jq s2 1))) λk9 =>
 br y7 (k9 true)
 (bnd (pz y1 x5) λy11 =>
 k9 (y11==false)))
 (jw (BX s all l) 0)
def yw (s:iT)(all:List iM)(p:Int)(l:List iL):Option Int :=
 bnd (Ac s all p) λy1 =>
 jw (BZ s all l y1) 0
def QD (l:List iL)(o:iL)(s1:Int)(k2:Int->Option Bool):Option Bool :=
 br (decide (s1<(iV l))) (bnd (kJ l s1) λx4 =>
 lt (decide (x4.kind=o.kind)&&(decide (x4.a=o.a)&&(decide (x4.b=o.b)&&true))) λv5 =>
 br v5 (some true)
 (k2 (jq s1 1)))
 (some false)
def Ye (l:List iL)(o:iL):Option Bool :=
 jw (QD l o) 0
def ED (s:iT)(all:List iM)(id:Int)(s1:Int)(k2:Int->Option Bool):Option Bool :=
 br (decide (s1<(iV s.objects))) (bnd (kJ s.objects s1) λx4 =>
 br (decide (x4.id=id)) (bnd (wC all s1) λy5 =>
 bnd (zN y5.keys 512) λy6 =>
 some y6)
 (k2 (jq s1 1)))
 (some false)
def Iz (s:iT)(all:List iM)(id:Int):Option Bool :=
 jw (ED s all id) 0
def Gs (s:iT)(all:List iM)(l:List iL)(s2:Int)(k3:Int->Option Int)(s7:Int×Int)(k8:(Int×Int)->Option Int):Option Int :=
 br (decide (s7.2<(iV l))) (jn (λs10:Int =>
 k8 (s10,(jq s7.2 1))) λk11 =>
 jn (λs13:Bool =>
 br s13 (some 19)
 (bnd (kJ l s7.2) λx18 =>
 bnd (kJ l s2) λx19 =>
 br (decide (x18.b=x19.b)) (k11 (jq s7.1 1))
 (k11 s7.1))) λk14 =>
 br (!decide (s7.2=s2)) (bnd (kJ l s7.2) λx16 =>
 bnd (kJ l s2) λx17 =>
 k14 (decide (x16.a=x17.a)))
 (k14 false))
 (jn (λs20:Bool =>
 br s20 (some 19)
 (k3 (jq s2 1))) λk21 =>
 br (decide (s7.1=1)) (bnd (kJ l s2) λx23 =>
 bnd (Iz s all x23.b) λy24 =>
 k21 y24)
 (k21 false))
def Gt (s:iT)(all:List iM)(l:List iL)(y1:List iL)(s2:Int)(k3:Int->Option Int):Option Int :=
 br (decide (s2<(iV l))) (bnd (kJ l s2) λx5 =>
 bnd (Ye y1 x5) λy6 =>
 br (y6==false) (some 19)
 (jw (Gs s all l s2 k3) (0,0)))
 (some 0)
def G9 (s:iT)(all:List iM)(p:Int)(l:List iL):Option Int :=
 bnd (yu s all p) λy1 =>
 jw (Gt s all l y1) 0
def uz (s:iT)(l:List iL)(y6:List iM)(s7:Int)(k8:Int->Option Bool)(y10:List iL)(s11:Int×(List iL))(k12:(Int×(List iL))->Option Bool):Option Bool :=
 br (decide (s11.1<(iV l))) (jn (λs14:(List iL) =>
 k12 ((jq s11.1 1),s14)) λk15 =>
 bnd (kJ l s11.1) λx17 =>
 jn (λs18:Int×Int×Int =>
 jW (s11.2.length+([(iL.mk s18.1 s18.2.1 s18.2.2)]).length) 24 (
 k15 (s11.2++[(iL.mk s18.1 s18.2.1 s18.2.2)]))) λk19 =>
 jn (λs21:Bool =>
 br s21 (bnd (divO .rem .u64 (IntKind.wrap .u64 x17.a) (IntKind.wrap .u64 (iV y10))) λx24 =>
 bnd (kJ y10 (IntKind.wrap .i64 x24)) λx25 =>
 k19 (x25.kind,x25.a,x25.b))
 (k19 (x17.kind,x17.a,x17.b))) λk22 =>
 br (decide (x17.kind=0)) (k22 (decide (0<(iV y10))))
 (k22 false))
 (jn (λs26:Bool =>
 br s26 (some false)
 (k8 (jq s7 1))) λk27 =>
 bnd (yw s y6 s7 s11.2) λy29 =>
 bnd (G9 s y6 s7 s11.2) λy30 =>
 br (!decide (y29=y30)) (k27 true)
 (bnd (yw s y6 s7 ([])) λy31 =>
 k27 (!decide (y31=0))))
def uA (s:iT)(l:List iL)(y6:List iM)(s7:Int)(k8:Int->Option Bool):Option Bool :=
 br (decide (s7<(iV s.ji))) (bnd (yu s y6 s7) λy10 =>
 jw (uz s l y6 s7 k8 y10) (0,[]))
 (bnd (xZ) λy32 =>
 some y32)
def xm (cards:List jI)(s:iT)(l:List iL):Option Bool :=
 jn (λs1:Bool =>
 br s1 (bnd (xZ) λy5 =>
 some y5)
 (bnd (zM cards s) λy6 =>
 jw (uA s l y6) 0)) λk2 =>
 bnd (Ar cards s) λy4 =>
 br (y4==false) (k2 true)
 (k2 (decide (30<(iV l))))
def vk (s:List Int)(v:Int)(s1:Int)(k2:Int->Option Int):Option Int :=
 br (decide (s1<(iV s))) (bnd (kJ s s1) λx4 =>
 br (decide (v=x4)) (some s1)
 (k2 (jq s1 1)))
 (some (-1))
def slices_Index_int (s:List Int)(v:Int):Option Int :=
 jw (vk s v) 0
def slices_Contains_int (s:List Int)(v:Int):Option Bool :=
 bnd (slices_Index_int s v) λy1 =>
 some (decide (0<=y1))
def kG (s:List iW)(f:iW->Option Bool)(s1:Int)(k2:Int->Option Int):Option Int :=
 br (decide (s1<(iV s))) (bnd (kJ s s1) λx4 =>
 bnd (f x4) λy5 =>
 br y5 (some s1)
 (k2 (jq s1 1)))
 (some (-1))
def jF (s:List iW)(f:iW->Option Bool):Option Int :=
 jw (kG s f) 0
theorem oW {p:Prop}(h:p:=by (try simp only[pV,Bh,Nc,mW,rE,xk,GY,zl,VO,EX,mf,vP,lD,lJ,lF,ja,Ia,jC,pM,mX,qQ,jb,iY,kP,kL,iQ,oQ,mg,mQ,mD,jh,Ic,aaY,aaZ,WC,qL,aos,TN,GZ,amL,alz,acU,aix,G5,G6,amM,aiz,KP,aiA,TP,amN,agq,amO,WE,rU,ad9,aea,aiB,aeb,wO,aec,aed,V9,aee,amk,UR,ahW,Bd,q]);repeat' constructor):p:=h
theorem xB {u v:List PV}(e:u=v:=by simp only[q];try first|rfl|(simp only[pV,Bh,Nc,mW,rE,xk,GY,zl,VO,EX,mf,vP,lD,lJ,lF,ja,Ia,jC,pM,mX,qQ,jb,iY,kP,kL,iQ,oQ,mg,mQ,mD,jh,Ic,q];done)|simp[zZ,eI,eB,eL,eS,q]):LeL u v:=le_eq e
end Go.Proofs.YtlacmdnhabblcaaGreat
