import Derived.Test.YtchmoabpofnbaaaGreatB09
set_option linter.all false
namespace Go.Proofs.YtchmoabpofnbaaaGreat
open Go Go.Pv
set_option maxRecDepth 100000
set_option maxHeartbeats 2000000
variable [GM]
structure oP where
 life:Int
 Ym:Int
 lands:Int
 pool:Lj Int
 failed:Bool
 lost:Bool
 library:List Int
 hand:List Int
 Ak:List Int
def uy (M:EncM)(x:oP):List PV:=[.si .i64 x.life,.si .i64 x.Ym,.si .i64 x.lands,.si .i64 x.pool.a0,.si .i64 x.pool.a1,.si .i64 x.pool.a2,.si .i64 x.pool.a3,.si .i64 x.pool.a4,.si .i64 x.pool.a5,.sb x.failed,.sb x.lost,.sl 1 (M.m Int (eI .i64) x.library) false,.sl 1 (M.m Int (eI .i64) x.hand) false,.sl 1 (M.m Int (eI .i64) x.Ak) false]
def ad3:oP:=oP.mk 0 0 0 ZZ false false ([]) ([]) ([])
structure GObject where
 id:Int
 card:Int
 owner:Int
 control:Int
 iI:Int
 token:Bool
 lQ:Bool
 WC:Bool
 deadly:Bool
 Am:Int
 counters:NY Int
 stamp:Int
 copy:Int
 Ap:Int
 blocked:Bool
 blocks:Int
 yP:Int
def eGObject (M:EncM)(x:GObject):List PV:=[.si .i64 x.id,.si .i64 x.card,.si .i64 x.owner,.si .i64 x.control,.si .i64 x.iI,.sb x.token,.sb x.lQ,.sb x.WC,.sb x.deadly,.si .i64 x.Am,.si .i64 x.counters.a0,.si .i64 x.counters.a1,.si .i64 x.counters.a2,.si .i64 x.stamp,.si .i64 x.copy,.si .i64 x.Ap,.sb x.blocked,.si .i64 x.blocks,.si .i64 x.yP]
def N9:GObject:=GObject.mk 0 0 0 0 0 false false false false 0 ZY 0 0 0 false 0 0
structure qx where
 kind:Int
 n:Int
def C9 (M:EncM)(x:qx):List PV:=[.si .i64 x.kind,.si .i64 x.n]
def Q8:qx:=qx.mk 0 0
structure jf where
 iI:Int
 who:Int
 self:Int
 types:Int
 iy:Int
 iM:Int
 gZ:Int
 sub:ByteArray
 keys:Int
 rE:Int
 power:qx
 ik:qx
 value:qx
def iR (M:EncM)(x:jf):List PV:=[.si .i64 x.iI,.si .i64 x.who,.si .i64 x.self,.si .i64 x.types,.si .i64 x.iy,.si .i64 x.iM,.si .i64 x.gZ,.str x.sub,.si .i64 x.keys,.si .i64 x.rE,.si .i64 x.power.kind,.si .i64 x.power.n,.si .i64 x.ik.kind,.si .i64 x.ik.n,.si .i64 x.value.kind,.si .i64 x.value.n]
def kD:jf:=jf.mk 0 0 0 0 0 0 0 (bs []) 0 0 Q8 Q8 Q8
structure jv where
 kind:Int
 n:Int
 m:Int
 sub:ByteArray
 filter:jf
def uz (M:EncM)(x:jv):List PV:=[.si .i64 x.kind,.si .i64 x.n,.si .i64 x.m,.str x.sub,.si .i64 x.filter.iI,.si .i64 x.filter.who,.si .i64 x.filter.self,.si .i64 x.filter.types,.si .i64 x.filter.iy,.si .i64 x.filter.iM,.si .i64 x.filter.gZ,.str x.filter.sub,.si .i64 x.filter.keys,.si .i64 x.filter.rE,.si .i64 x.filter.power.kind,.si .i64 x.filter.power.n,.si .i64 x.filter.ik.kind,.si .i64 x.filter.ik.n,.si .i64 x.filter.value.kind,.si .i64 x.filter.value.n]
def ajU:jv:=jv.mk 0 0 0 (bs []) kD
structure oQ where
 generic:Int
 x:Int
 color:ZX Int
def qy (M:EncM)(x:oQ):List PV:=[.si .i64 x.generic,.si .i64 x.x,.si .i64 x.color.a0,.si .i64 x.color.a1,.si .i64 x.color.a2,.si .i64 x.color.a3,.si .i64 x.color.a4]
def WE:oQ:=oQ.mk 0 0 adV
structure Ip where
 lV:oQ
 rE:Bool
 uN:Bool
 life:Int
def Q9 (M:EncM)(x:Ip):List PV:=[.si .i64 x.lV.generic,.si .i64 x.lV.x,.si .i64 x.lV.color.a0,.si .i64 x.lV.color.a1,.si .i64 x.lV.color.a2,.si .i64 x.lV.color.a3,.si .i64 x.lV.color.a4,.sb x.rE,.sb x.uN,.si .i64 x.life]
def abx:Ip:=Ip.mk WE false false 0
structure vP where
 when:Int
 who:Int
 filter:jf
def Dy (M:EncM)(x:vP):List PV:=[.si .i64 x.when,.si .i64 x.who,.si .i64 x.filter.iI,.si .i64 x.filter.who,.si .i64 x.filter.self,.si .i64 x.filter.types,.si .i64 x.filter.iy,.si .i64 x.filter.iM,.si .i64 x.filter.gZ,.str x.filter.sub,.si .i64 x.filter.keys,.si .i64 x.filter.rE,.si .i64 x.filter.power.kind,.si .i64 x.filter.power.n,.si .i64 x.filter.ik.kind,.si .i64 x.filter.ik.n,.si .i64 x.filter.value.kind,.si .i64 x.filter.value.n]
def PN:vP:=vP.mk 0 0 kD
structure oJ where
 iY:Bool
 object:Bool
 filter:jf
def FW (M:EncM)(x:oJ):List PV:=[.sb x.iY,.sb x.object,.si .i64 x.filter.iI,.si .i64 x.filter.who,.si .i64 x.filter.self,.si .i64 x.filter.types,.si .i64 x.filter.iy,.si .i64 x.filter.iM,.si .i64 x.filter.gZ,.str x.filter.sub,.si .i64 x.filter.keys,.si .i64 x.filter.rE,.si .i64 x.filter.power.kind,.si .i64 x.filter.power.n,.si .i64 x.filter.ik.kind,.si .i64 x.filter.ik.n,.si .i64 x.filter.value.kind,.si .i64 x.filter.value.n]
def ahT:oJ:=oJ.mk false false kD
structure Tf where
 kind:Int
 n:Int
 filter:jf
def Qy (M:EncM)(x:Tf):List PV:=[.si .i64 x.kind,.si .i64 x.n,.si .i64 x.filter.iI,.si .i64 x.filter.who,.si .i64 x.filter.self,.si .i64 x.filter.types,.si .i64 x.filter.iy,.si .i64 x.filter.iM,.si .i64 x.filter.gZ,.str x.filter.sub,.si .i64 x.filter.keys,.si .i64 x.filter.rE,.si .i64 x.filter.power.kind,.si .i64 x.filter.power.n,.si .i64 x.filter.ik.kind,.si .i64 x.filter.ik.n,.si .i64 x.filter.value.kind,.si .i64 x.filter.value.n]
def ag6:Tf:=Tf.mk 0 0 kD
structure wC where
 kind:Int
 n:Int
 counter:Int
 filter:jf
def BD (M:EncM)(x:wC):List PV:=[.si .i64 x.kind,.si .i64 x.n,.si .i64 x.counter,.si .i64 x.filter.iI,.si .i64 x.filter.who,.si .i64 x.filter.self,.si .i64 x.filter.types,.si .i64 x.filter.iy,.si .i64 x.filter.iM,.si .i64 x.filter.gZ,.str x.filter.sub,.si .i64 x.filter.keys,.si .i64 x.filter.rE,.si .i64 x.filter.power.kind,.si .i64 x.filter.power.n,.si .i64 x.filter.ik.kind,.si .i64 x.filter.ik.n,.si .i64 x.filter.value.kind,.si .i64 x.filter.value.n]
def Yn:wC:=wC.mk 0 0 0 kD
structure iT where
 op:Int
 ref:Tf
 amount:wC
 counter:Int
 iI:Int
 card:ByteArray
 filter:jf
 pool:Lj Int
 jY:List jv
def ni (M:EncM)(x:iT):List PV:=[.si .i64 x.op,.si .i64 x.ref.kind,.si .i64 x.ref.n,.si .i64 x.ref.filter.iI,.si .i64 x.ref.filter.who,.si .i64 x.ref.filter.self,.si .i64 x.ref.filter.types,.si .i64 x.ref.filter.iy,.si .i64 x.ref.filter.iM,.si .i64 x.ref.filter.gZ,.str x.ref.filter.sub,.si .i64 x.ref.filter.keys,.si .i64 x.ref.filter.rE,.si .i64 x.ref.filter.power.kind,.si .i64 x.ref.filter.power.n,.si .i64 x.ref.filter.ik.kind,.si .i64 x.ref.filter.ik.n,.si .i64 x.ref.filter.value.kind,.si .i64 x.ref.filter.value.n,.si .i64 x.amount.kind,.si .i64 x.amount.n,.si .i64 x.amount.counter,.si .i64 x.amount.filter.iI,.si .i64 x.amount.filter.who,.si .i64 x.amount.filter.self,.si .i64 x.amount.filter.types,.si .i64 x.amount.filter.iy,.si .i64 x.amount.filter.iM,.si .i64 x.amount.filter.gZ,.str x.amount.filter.sub,.si .i64 x.amount.filter.keys,.si .i64 x.amount.filter.rE,.si .i64 x.amount.filter.power.kind,.si .i64 x.amount.filter.power.n,.si .i64 x.amount.filter.ik.kind,.si .i64 x.amount.filter.ik.n,.si .i64 x.amount.filter.value.kind,.si .i64 x.amount.filter.value.n,.si .i64 x.counter,.si .i64 x.iI,.str x.card,.si .i64 x.filter.iI,.si .i64 x.filter.who,.si .i64 x.filter.self,.si .i64 x.filter.types,.si .i64 x.filter.iy,.si .i64 x.filter.iM,.si .i64 x.filter.gZ,.str x.filter.sub,.si .i64 x.filter.keys,.si .i64 x.filter.rE,.si .i64 x.filter.power.kind,.si .i64 x.filter.power.n,.si .i64 x.filter.ik.kind,.si .i64 x.filter.ik.n,.si .i64 x.filter.value.kind,.si .i64 x.filter.value.n,.si .i64 x.pool.a0,.si .i64 x.pool.a1,.si .i64 x.pool.a2,.si .i64 x.pool.a3,.si .i64 x.pool.a4,.si .i64 x.pool.a5,.sl 20 (M.m jv (uz M) x.jY) false]
def ad4:iT:=iT.mk 0 ag6 Yn 0 0 (bs []) kD ZZ ([])
structure lu where
 on:Int
 who:Int
 filter:jf
 doF:Int
 n:Int
 iI:Int
 counter:Int
def oU (M:EncM)(x:lu):List PV:=[.si .i64 x.on,.si .i64 x.who,.si .i64 x.filter.iI,.si .i64 x.filter.who,.si .i64 x.filter.self,.si .i64 x.filter.types,.si .i64 x.filter.iy,.si .i64 x.filter.iM,.si .i64 x.filter.gZ,.str x.filter.sub,.si .i64 x.filter.keys,.si .i64 x.filter.rE,.si .i64 x.filter.power.kind,.si .i64 x.filter.power.n,.si .i64 x.filter.ik.kind,.si .i64 x.filter.ik.n,.si .i64 x.filter.value.kind,.si .i64 x.filter.value.n,.si .i64 x.doF,.si .i64 x.n,.si .i64 x.iI,.si .i64 x.counter]
def PO:lu:=lu.mk 0 0 kD 0 0 0 0
structure GAbility where
 kind:Int
 filter:jf
 jY:List jv
 price:Ip
 slow:Bool
 gG:vP
 may:Bool
 specs:List oJ
 kM:List iT
 replace:lu
def eGAbility (M:EncM)(x:GAbility):List PV:=[.si .i64 x.kind,.si .i64 x.filter.iI,.si .i64 x.filter.who,.si .i64 x.filter.self,.si .i64 x.filter.types,.si .i64 x.filter.iy,.si .i64 x.filter.iM,.si .i64 x.filter.gZ,.str x.filter.sub,.si .i64 x.filter.keys,.si .i64 x.filter.rE,.si .i64 x.filter.power.kind,.si .i64 x.filter.power.n,.si .i64 x.filter.ik.kind,.si .i64 x.filter.ik.n,.si .i64 x.filter.value.kind,.si .i64 x.filter.value.n,.sl 20 (M.m jv (uz M) x.jY) false,.si .i64 x.price.lV.generic,.si .i64 x.price.lV.x,.si .i64 x.price.lV.color.a0,.si .i64 x.price.lV.color.a1,.si .i64 x.price.lV.color.a2,.si .i64 x.price.lV.color.a3,.si .i64 x.price.lV.color.a4,.sb x.price.rE,.sb x.price.uN,.si .i64 x.price.life,.sb x.slow,.si .i64 x.gG.when,.si .i64 x.gG.who,.si .i64 x.gG.filter.iI,.si .i64 x.gG.filter.who,.si .i64 x.gG.filter.self,.si .i64 x.gG.filter.types,.si .i64 x.gG.filter.iy,.si .i64 x.gG.filter.iM,.si .i64 x.gG.filter.gZ,.str x.gG.filter.sub,.si .i64 x.gG.filter.keys,.si .i64 x.gG.filter.rE,.si .i64 x.gG.filter.power.kind,.si .i64 x.gG.filter.power.n,.si .i64 x.gG.filter.ik.kind,.si .i64 x.gG.filter.ik.n,.si .i64 x.gG.filter.value.kind,.si .i64 x.gG.filter.value.n,.sb x.may,.sl 18 (M.m oJ (FW M) x.specs) false,.sl 64 (M.m iT (ni M) x.kM) false,.si .i64 x.replace.on,.si .i64 x.replace.who,.si .i64 x.replace.filter.iI,.si .i64 x.replace.filter.who,.si .i64 x.replace.filter.self,.si .i64 x.replace.filter.types,.si .i64 x.replace.filter.iy,.si .i64 x.replace.filter.iM,.si .i64 x.replace.filter.gZ,.str x.replace.filter.sub,.si .i64 x.replace.filter.keys,.si .i64 x.replace.filter.rE,.si .i64 x.replace.filter.power.kind,.si .i64 x.replace.filter.power.n,.si .i64 x.replace.filter.ik.kind,.si .i64 x.replace.filter.ik.n,.si .i64 x.replace.filter.value.kind,.si .i64 x.replace.filter.value.n,.si .i64 x.replace.doF,.si .i64 x.replace.n,.si .i64 x.replace.iI,.si .i64 x.replace.counter]
def Dz:GAbility:=GAbility.mk 0 kD ([]) abx false PN false ([]) ([]) PO
structure wE where
 object:Int
 iY:Int
def JB (M:EncM)(x:wE):List PV:=[.si .i64 x.object,.si .i64 x.iY]
def ad5:wE:=wE.mk 0 0
structure GEvent where
 kind:Int
 source:Int
 object:Int
 iY:Int
 amount:Int
 Ad:Int
 to:Int
 cause:Int
 counter:Int
 card:Int
 D9:Bool
 lQ:Bool
 extra:NY Int
def eGEvent (M:EncM)(x:GEvent):List PV:=[.si .i64 x.kind,.si .i64 x.source,.si .i64 x.object,.si .i64 x.iY,.si .i64 x.amount,.si .i64 x.Ad,.si .i64 x.to,.si .i64 x.cause,.si .i64 x.counter,.si .i64 x.card,.sb x.D9,.sb x.lQ,.si .i64 x.extra.a0,.si .i64 x.extra.a1,.si .i64 x.extra.a2]
def Rf:GEvent:=GEvent.mk 0 0 0 0 0 0 0 0 0 0 false false ZY
structure uA where
 id:Int
 kind:Int
 source:Int
 control:Int
 x:Int
 copy:Bool
 gz:GAbility
 targets:List wE
 event:GEvent
def Aq (M:EncM)(x:uA):List PV:=[.si .i64 x.id,.si .i64 x.kind,.si .i64 x.source,.si .i64 x.control,.si .i64 x.x,.sb x.copy,.si .i64 x.gz.kind,.si .i64 x.gz.filter.iI,.si .i64 x.gz.filter.who,.si .i64 x.gz.filter.self,.si .i64 x.gz.filter.types,.si .i64 x.gz.filter.iy,.si .i64 x.gz.filter.iM,.si .i64 x.gz.filter.gZ,.str x.gz.filter.sub,.si .i64 x.gz.filter.keys,.si .i64 x.gz.filter.rE,.si .i64 x.gz.filter.power.kind,.si .i64 x.gz.filter.power.n,.si .i64 x.gz.filter.ik.kind,.si .i64 x.gz.filter.ik.n,.si .i64 x.gz.filter.value.kind,.si .i64 x.gz.filter.value.n,.sl 20 (M.m jv (uz M) x.gz.jY) false,.si .i64 x.gz.price.lV.generic,.si .i64 x.gz.price.lV.x,.si .i64 x.gz.price.lV.color.a0,.si .i64 x.gz.price.lV.color.a1,.si .i64 x.gz.price.lV.color.a2,.si .i64 x.gz.price.lV.color.a3,.si .i64 x.gz.price.lV.color.a4,.sb x.gz.price.rE,.sb x.gz.price.uN,.si .i64 x.gz.price.life,.sb x.gz.slow,.si .i64 x.gz.gG.when,.si .i64 x.gz.gG.who,.si .i64 x.gz.gG.filter.iI,.si .i64 x.gz.gG.filter.who,.si .i64 x.gz.gG.filter.self,.si .i64 x.gz.gG.filter.types,.si .i64 x.gz.gG.filter.iy,.si .i64 x.gz.gG.filter.iM,.si .i64 x.gz.gG.filter.gZ,.str x.gz.gG.filter.sub,.si .i64 x.gz.gG.filter.keys,.si .i64 x.gz.gG.filter.rE,.si .i64 x.gz.gG.filter.power.kind,.si .i64 x.gz.gG.filter.power.n,.si .i64 x.gz.gG.filter.ik.kind,.si .i64 x.gz.gG.filter.ik.n,.si .i64 x.gz.gG.filter.value.kind,.si .i64 x.gz.gG.filter.value.n,.sb x.gz.may,.sl 18 (M.m oJ (FW M) x.gz.specs) false,.sl 64 (M.m iT (ni M) x.gz.kM) false,.si .i64 x.gz.replace.on,.si .i64 x.gz.replace.who,.si .i64 x.gz.replace.filter.iI,.si .i64 x.gz.replace.filter.who,.si .i64 x.gz.replace.filter.self,.si .i64 x.gz.replace.filter.types,.si .i64 x.gz.replace.filter.iy,.si .i64 x.gz.replace.filter.iM,.si .i64 x.gz.replace.filter.gZ,.str x.gz.replace.filter.sub,.si .i64 x.gz.replace.filter.keys,.si .i64 x.gz.replace.filter.rE,.si .i64 x.gz.replace.filter.power.kind,.si .i64 x.gz.replace.filter.power.n,.si .i64 x.gz.replace.filter.ik.kind,.si .i64 x.gz.replace.filter.ik.n,.si .i64 x.gz.replace.filter.value.kind,.si .i64 x.gz.replace.filter.value.n,.si .i64 x.gz.replace.doF,.si .i64 x.gz.replace.n,.si .i64 x.gz.replace.iI,.si .i64 x.gz.replace.counter,.sl 2 (M.m wE (JB M) x.targets) false,.si .i64 x.event.kind,.si .i64 x.event.source,.si .i64 x.event.object,.si .i64 x.event.iY,.si .i64 x.event.amount,.si .i64 x.event.Ad,.si .i64 x.event.to,.si .i64 x.event.cause,.si .i64 x.event.counter,.si .i64 x.event.card,.sb x.event.D9,.sb x.event.lQ,.si .i64 x.event.extra.a0,.si .i64 x.event.extra.a1,.si .i64 x.event.extra.a2]
def ahU:uA:=uA.mk 0 0 0 0 0 false Dz ([]) Rf
structure mD where
 source:Int
 control:Int
 gz:GAbility
 event:GEvent
def wF (M:EncM)(x:mD):List PV:=[.si .i64 x.source,.si .i64 x.control,.si .i64 x.gz.kind,.si .i64 x.gz.filter.iI,.si .i64 x.gz.filter.who,.si .i64 x.gz.filter.self,.si .i64 x.gz.filter.types,.si .i64 x.gz.filter.iy,.si .i64 x.gz.filter.iM,.si .i64 x.gz.filter.gZ,.str x.gz.filter.sub,.si .i64 x.gz.filter.keys,.si .i64 x.gz.filter.rE,.si .i64 x.gz.filter.power.kind,.si .i64 x.gz.filter.power.n,.si .i64 x.gz.filter.ik.kind,.si .i64 x.gz.filter.ik.n,.si .i64 x.gz.filter.value.kind,.si .i64 x.gz.filter.value.n,.sl 20 (M.m jv (uz M) x.gz.jY) false,.si .i64 x.gz.price.lV.generic,.si .i64 x.gz.price.lV.x,.si .i64 x.gz.price.lV.color.a0,.si .i64 x.gz.price.lV.color.a1,.si .i64 x.gz.price.lV.color.a2,.si .i64 x.gz.price.lV.color.a3,.si .i64 x.gz.price.lV.color.a4,.sb x.gz.price.rE,.sb x.gz.price.uN,.si .i64 x.gz.price.life,.sb x.gz.slow,.si .i64 x.gz.gG.when,.si .i64 x.gz.gG.who,.si .i64 x.gz.gG.filter.iI,.si .i64 x.gz.gG.filter.who,.si .i64 x.gz.gG.filter.self,.si .i64 x.gz.gG.filter.types,.si .i64 x.gz.gG.filter.iy,.si .i64 x.gz.gG.filter.iM,.si .i64 x.gz.gG.filter.gZ,.str x.gz.gG.filter.sub,.si .i64 x.gz.gG.filter.keys,.si .i64 x.gz.gG.filter.rE,.si .i64 x.gz.gG.filter.power.kind,.si .i64 x.gz.gG.filter.power.n,.si .i64 x.gz.gG.filter.ik.kind,.si .i64 x.gz.gG.filter.ik.n,.si .i64 x.gz.gG.filter.value.kind,.si .i64 x.gz.gG.filter.value.n,.sb x.gz.may,.sl 18 (M.m oJ (FW M) x.gz.specs) false,.sl 64 (M.m iT (ni M) x.gz.kM) false,.si .i64 x.gz.replace.on,.si .i64 x.gz.replace.who,.si .i64 x.gz.replace.filter.iI,.si .i64 x.gz.replace.filter.who,.si .i64 x.gz.replace.filter.self,.si .i64 x.gz.replace.filter.types,.si .i64 x.gz.replace.filter.iy,.si .i64 x.gz.replace.filter.iM,.si .i64 x.gz.replace.filter.gZ,.str x.gz.replace.filter.sub,.si .i64 x.gz.replace.filter.keys,.si .i64 x.gz.replace.filter.rE,.si .i64 x.gz.replace.filter.power.kind,.si .i64 x.gz.replace.filter.power.n,.si .i64 x.gz.replace.filter.ik.kind,.si .i64 x.gz.replace.filter.ik.n,.si .i64 x.gz.replace.filter.value.kind,.si .i64 x.gz.replace.filter.value.n,.si .i64 x.gz.replace.doF,.si .i64 x.gz.replace.n,.si .i64 x.gz.replace.iI,.si .i64 x.gz.replace.counter,.si .i64 x.event.kind,.si .i64 x.event.source,.si .i64 x.event.object,.si .i64 x.event.iY,.si .i64 x.event.amount,.si .i64 x.event.Ad,.si .i64 x.event.to,.si .i64 x.event.cause,.si .i64 x.event.counter,.si .i64 x.event.card,.sb x.event.D9,.sb x.event.lQ,.si .i64 x.event.extra.a0,.si .i64 x.event.extra.a1,.si .i64 x.event.extra.a2]
def acs:mD:=mD.mk 0 0 Dz Rf
structure uX where
 stamp:Int
 control:Int
 source:Int
 Ti:Int
 objects:List Int
 jY:List jv
def Ea (M:EncM)(x:uX):List PV:=[.si .i64 x.stamp,.si .i64 x.control,.si .i64 x.source,.si .i64 x.Ti,.sl 1 (M.m Int (eI .i64) x.objects) false,.sl 20 (M.m jv (uz M) x.jY) false]
def ahV:uX:=uX.mk 0 0 0 0 ([]) ([])
structure GState where
 jk:List oP
 objects:List GObject
 qW:List Int
 Oa:List Int
 stack:List uA
 waiting:List mD
 uB:List uX
 turn:Int
 Cf:Int
 step:Int
 begun:Bool
 priority:Int
 passes:Int
 nextId:Int
 sG:Int
 seed:Int
 extra:List Int
 over:Int
 Iq:Int
def eGState (M:EncM)(x:GState):List PV:=[.sl 14 (M.m oP (uy M) x.jk) false,.sl 19 (M.m GObject (eGObject M) x.objects) false,.sl 1 (M.m Int (eI .i64) x.qW) false,.sl 1 (M.m Int (eI .i64) x.Oa) false,.sl 94 (M.m uA (Aq M) x.stack) false,.sl 89 (M.m mD (wF M) x.waiting) false,.sl 6 (M.m uX (Ea M) x.uB) false,.si .i64 x.turn,.si .i64 x.Cf,.si .i64 x.step,.sb x.begun,.si .i64 x.priority,.si .i64 x.passes,.si .i64 x.nextId,.si .i64 x.sG,.si .u64 x.seed,.sl 1 (M.m Int (eI .i64) x.extra) false,.si .i64 x.over,.si .i64 x.Iq]
def WG:GState:=GState.mk ([]) ([]) ([]) ([]) ([]) ([]) ([]) 0 0 0 false 0 0 0 0 0 ([]) 0 0
structure wO where
 Gt:Int
 types:Int
 subs:List ByteArray
def DN (M:EncM)(x:wO):List PV:=[.si .i64 x.Gt,.si .i64 x.types,.sl 1 (M.m ByteArray eS x.subs) false]
def WH:wO:=wO.mk 0 0 ([])
structure GCard where
 name:ByteArray
 token:Bool
 cost:oQ
 color:Int
 line:wO
 power:Int
 ik:Int
 keys:Int
 abilities:List GAbility
def eGCard (M:EncM)(x:GCard):List PV:=[.str x.name,.sb x.token,.si .i64 x.cost.generic,.si .i64 x.cost.x,.si .i64 x.cost.color.a0,.si .i64 x.cost.color.a1,.si .i64 x.cost.color.a2,.si .i64 x.cost.color.a3,.si .i64 x.cost.color.a4,.si .i64 x.color,.si .i64 x.line.Gt,.si .i64 x.line.types,.sl 1 (M.m ByteArray eS x.line.subs) false,.si .i64 x.power,.si .i64 x.ik,.si .i64 x.keys,.sl 72 (M.m GAbility (eGAbility M) x.abilities) false]
def ahW:GCard:=GCard.mk (bs []) false WE 0 WH 0 0 0 ([])
structure GOption where
 kind:Int
 a:Int
 b:Int
def eGOption (M:EncM)(x:GOption):List PV:=[.si .i64 x.kind,.si .i64 x.a,.si .i64 x.b]
def Yo:GOption:=GOption.mk 0 0 0
structure KT where
 kind:Int
 iY:Int
 source:Int
 least:Int
 most:Int
 n:Int
 options:List GOption
def Tj (M:EncM)(x:KT):List PV:=[.si .i64 x.kind,.si .i64 x.iY,.si .i64 x.source,.si .i64 x.least,.si .i64 x.most,.si .i64 x.n,.sl 3 (M.m GOption (eGOption M) x.options) false]
def Gu:KT:=KT.mk 0 0 0 0 0 0 ([])
structure kV where
 answers:List (List Int)
 used:Int
 pending:KT
 waits:Bool
 bad:Bool
def Ar (M:EncM)(x:kV):List PV:=[.sl 1 (M.m (List Int) (eL M 1 (eI .i64)) x.answers) false,.si .i64 x.used,.si .i64 x.pending.kind,.si .i64 x.pending.iY,.si .i64 x.pending.source,.si .i64 x.pending.least,.si .i64 x.pending.most,.si .i64 x.pending.n,.sl 3 (M.m GOption (eGOption M) x.pending.options) false,.sb x.waits,.sb x.bad]
def Z9:kV:=kV.mk ([]) 0 Gu false false
structure GTraits where
 name:ByteArray
 cost:oQ
 iM:Int
 line:wO
 power:Int
 ik:Int
 keys:Int
 abilities:List GAbility
 control:Int
def eGTraits (M:EncM)(x:GTraits):List PV:=[.str x.name,.si .i64 x.cost.generic,.si .i64 x.cost.x,.si .i64 x.cost.color.a0,.si .i64 x.cost.color.a1,.si .i64 x.cost.color.a2,.si .i64 x.cost.color.a3,.si .i64 x.cost.color.a4,.si .i64 x.iM,.si .i64 x.line.Gt,.si .i64 x.line.types,.sl 1 (M.m ByteArray eS x.line.subs) false,.si .i64 x.power,.si .i64 x.ik,.si .i64 x.keys,.sl 72 (M.m GAbility (eGAbility M) x.abilities) false,.si .i64 x.control]
def BF:GTraits:=GTraits.mk (bs []) WE 0 WH 0 0 0 ([]) 0
structure iD where
 source:Int
 gz:Int
 control:Int
 stamp:Int
 fixed:Bool
 objects:List Int
 filter:jf
 jY:List jv
def jb (M:EncM)(x:iD):List PV:=[.si .i64 x.source,.si .i64 x.gz,.si .i64 x.control,.si .i64 x.stamp,.sb x.fixed,.sl 1 (M.m Int (eI .i64) x.objects) false,.si .i64 x.filter.iI,.si .i64 x.filter.who,.si .i64 x.filter.self,.si .i64 x.filter.types,.si .i64 x.filter.iy,.si .i64 x.filter.iM,.si .i64 x.filter.gZ,.str x.filter.sub,.si .i64 x.filter.keys,.si .i64 x.filter.rE,.si .i64 x.filter.power.kind,.si .i64 x.filter.power.n,.si .i64 x.filter.ik.kind,.si .i64 x.filter.ik.n,.si .i64 x.filter.value.kind,.si .i64 x.filter.value.n,.sl 20 (M.m jv (uz M) x.jY) false]
def WI:iD:=iD.mk 0 0 0 0 false ([]) kD ([])
structure gI where
 s:GState
 forces:List iD
 gX:List GTraits
 dropped:List Bool
 done:List Bool
 hits:List (List Int)
def kG (M:EncM)(x:gI):List PV:=[.sl 14 (M.m oP (uy M) x.s.jk) false,.sl 19 (M.m GObject (eGObject M) x.s.objects) false,.sl 1 (M.m Int (eI .i64) x.s.qW) false,.sl 1 (M.m Int (eI .i64) x.s.Oa) false,.sl 94 (M.m uA (Aq M) x.s.stack) false,.sl 89 (M.m mD (wF M) x.s.waiting) false,.sl 6 (M.m uX (Ea M) x.s.uB) false,.si .i64 x.s.turn,.si .i64 x.s.Cf,.si .i64 x.s.step,.sb x.s.begun,.si .i64 x.s.priority,.si .i64 x.s.passes,.si .i64 x.s.nextId,.si .i64 x.s.sG,.si .u64 x.s.seed,.sl 1 (M.m Int (eI .i64) x.s.extra) false,.si .i64 x.s.over,.si .i64 x.s.Iq,.sl 23 (M.m iD (jb M) x.forces) false,.sl 17 (M.m GTraits (eGTraits M) x.gX) false,.sl 1 (M.m Bool eB x.dropped) false,.sl 1 (M.m Bool eB x.done) false,.sl 1 (M.m (List Int) (eL M 1 (eI .i64)) x.hits) false]
def WJ:gI:=gI.mk WG ([]) ([]) ([]) ([]) ([])
structure jm where
 Cf:Bool
 hits:List Int
 numbers:List Int
def mF (M:EncM)(x:jm):List PV:=[.sb x.Cf,.sl 1 (M.m Int (eI .i64) x.hits) false,.sl 1 (M.m Int (eI .i64) x.numbers) false]
def Qz:jm:=jm.mk false ([]) ([])
structure qA where
 cards:List GCard
 s:GState
 e:GEvent
 answers:List (List Int)
def yt (M:EncM)(x:qA):List PV:=[.sl 17 (M.m GCard (eGCard M) x.cards) false,.sl 14 (M.m oP (uy M) x.s.jk) false,.sl 19 (M.m GObject (eGObject M) x.s.objects) false,.sl 1 (M.m Int (eI .i64) x.s.qW) false,.sl 1 (M.m Int (eI .i64) x.s.Oa) false,.sl 94 (M.m uA (Aq M) x.s.stack) false,.sl 89 (M.m mD (wF M) x.s.waiting) false,.sl 6 (M.m uX (Ea M) x.s.uB) false,.si .i64 x.s.turn,.si .i64 x.s.Cf,.si .i64 x.s.step,.sb x.s.begun,.si .i64 x.s.priority,.si .i64 x.s.passes,.si .i64 x.s.nextId,.si .i64 x.s.sG,.si .u64 x.s.seed,.sl 1 (M.m Int (eI .i64) x.s.extra) false,.si .i64 x.s.over,.si .i64 x.s.Iq,.si .i64 x.e.kind,.si .i64 x.e.source,.si .i64 x.e.object,.si .i64 x.e.iY,.si .i64 x.e.amount,.si .i64 x.e.Ad,.si .i64 x.e.to,.si .i64 x.e.cause,.si .i64 x.e.counter,.si .i64 x.e.card,.sb x.e.D9,.sb x.e.lQ,.si .i64 x.e.extra.a0,.si .i64 x.e.extra.a1,.si .i64 x.e.extra.a2,.sl 1 (M.m (List Int) (eL M 1 (eI .i64)) x.answers) false]
def Yp:qA:=qA.mk ([]) WG Rf ([])
def uS (n:Int)(least:Int)(most:Int):Option Bool :=
 br (decide (least<=n)) (some (decide (n<=most)))
 (some false)
def Ir (p:Lj Int)(s1:Int)(k2:Int->Option Bool):Option Bool :=
 br (decide (s1<6)) (jn (λs4:Bool =>
 br s4 (some false)
 (k2 (iL s1 1))) λk5 =>
 sel s1 6 λj7=>(match j7 with|0=>(br (decide (p.a0<0)) (k5 true) (sel s1 6 λj8=>(match j8 with|0=>(k5 (decide (1000000<p.a0)))  | 1=>(k5 (decide (1000000<p.a1)))  | 2=>(k5 (decide (1000000<p.a2)))  | 3=>(k5 (decide (1000000<p.a3)))  | 4=>(k5 (decide (1000000<p.a4)))  | _=>(k5 (decide (1000000<p.a5))) )))  | 1=>(br (decide (p.a1<0)) (k5 true) (sel s1 6 λj9=>(match j9 with|0=>(k5 (decide (1000000<p.a0)))  | 1=>(k5 (decide (1000000<p.a1)))  | 2=>(k5 (decide (1000000<p.a2)))  | 3=>(k5 (decide (1000000<p.a3)))  | 4=>(k5 (decide (1000000<p.a4)))  | _=>(k5 (decide (1000000<p.a5))) )))  | 2=>(br (decide (p.a2<0)) (k5 true) (sel s1 6 λj10=>(match j10 with|0=>(k5 (decide (1000000<p.a0)))  | 1=>(k5 (decide (1000000<p.a1)))  | 2=>(k5 (decide (1000000<p.a2)))  | 3=>(k5 (decide (1000000<p.a3)))  | 4=>(k5 (decide (1000000<p.a4)))  | _=>(k5 (decide (1000000<p.a5))) )))  | 3=>(br (decide (p.a3<0)) (k5 true) (sel s1 6 λj11=>(match j11 with|0=>(k5 (decide (1000000<p.a0)))  | 1=>(k5 (decide (1000000<p.a1)))  | 2=>(k5 (decide (1000000<p.a2)))  | 3=>(k5 (decide (1000000<p.a3)))  | 4=>(k5 (decide (1000000<p.a4)))  | _=>(k5 (decide (1000000<p.a5))) )))  | 4=>(br (decide (p.a4<0)) (k5 true) (sel s1 6 λj12=>(match j12 with|0=>(k5 (decide (1000000<p.a0)))  | 1=>(k5 (decide (1000000<p.a1)))  | 2=>(k5 (decide (1000000<p.a2)))  | 3=>(k5 (decide (1000000<p.a3)))  | 4=>(k5 (decide (1000000<p.a4)))  | _=>(k5 (decide (1000000<p.a5))) )))  | _=>(br (decide (p.a5<0)) (k5 true) (sel s1 6 λj13=>(match j13 with|0=>(k5 (decide (1000000<p.a0)))  | 1=>(k5 (decide (1000000<p.a1)))  | 2=>(k5 (decide (1000000<p.a2)))  | 3=>(k5 (decide (1000000<p.a3)))  | 4=>(k5 (decide (1000000<p.a4)))  | _=>(k5 (decide (1000000<p.a5))) ))) ))
 (some true)
def Gv (p:Lj Int):Option Bool :=
 iF (Ir p) 0
def yQ (s:GState)(id:Int)(s1:Int)(k2:Int->Option Int):Option Int :=
 br (decide (s1<(gK s.objects))) (bnd (kQ s.objects s1) λx4 =>
 br (decide (x4.id=id)) (some s1)
 (k2 (iL s1 1)))
 (some (-1))
def yu (s:GState)(id:Int):Option Int :=
 iF (yQ s id) 0
def uC (s:GState)(id:Int):Option (GObject×Bool) :=
 bnd (yu s id) λy1 =>
 br (decide (y1<0)) (some (N9,false))
 (bnd (kQ s.objects y1) λx2 =>
 some (x2,true))
def Au (s:GState)(id:Int):Option (GObject×Bool) :=
 bnd (uC s id) λy1 =>
 some (y1.1,y1.2)
def Iu (l:List Int)(n:Int)(s1:Int×Int)(k2:(Int×Int)->Option Int):Option Int :=
 br (decide (s1.2<(gK l))) (jn (λs4:Int =>
 k2 (s4,(iL s1.2 1))) λk5 =>
 bnd (kQ l s1.2) λx7 =>
 br (decide (x7=n)) (k5 (iL s1.1 1))
 (k5 s1.1))
 (some s1.1)
def Aw (l:List Int)(n:Int):Option Int :=
 iF (Iu l n) (0,0)
def JC (s:GState)(l:List Int)(iI:Int)(owner:Int)(s1:Int)(k2:Int->Option Bool):Option Bool :=
 br (decide (s1<(gK l))) (bnd (kQ l s1) λx4 =>
 bnd (Au s x4) λy5 =>
 jn (λs6:Bool =>
 br s6 (some false)
 (k2 (iL s1 1))) λk7 =>
 br (y5.2==false) (k7 true)
 (br (!decide (y5.1.iI=iI)) (k7 true)
 (br (decide (0<=owner)) (br (!decide (y5.1.owner=owner)) (k7 true)
 (bnd (kQ l s1) λx9 =>
 bnd (Aw l x9) λy10 =>
 k7 (!decide (y10=1))))
 (bnd (kQ l s1) λx11 =>
 bnd (Aw l x11) λy12 =>
 k7 (!decide (y12=1))))))
 (some true)
def yR (s:GState)(l:List Int)(iI:Int)(owner:Int):Option Bool :=
 iF (JC s l iI owner) 0
def Eb (s:GState)(s2:Int)(k3:Int->Option Bool):Option Bool :=
 br (decide (s2<(gK s.jk))) (bnd (kQ s.jk s2) λx5 =>
 jn (λs6:Bool =>
 br s6 (some false)
 (jn (λs13:Bool =>
 br s13 (some false)
 (k3 (iL s2 1))) λk14 =>
 bnd (yR s x5.library 2 s2) λy16 =>
 br (y16==false) (k14 true)
 (bnd (yR s x5.hand 1 s2) λy17 =>
 br (y17==false) (k14 true)
 (bnd (yR s x5.Ak 3 s2) λy18 =>
 k14 (y18==false))))) λk7 =>
 bnd (uS x5.life (-1000000) 1000000) λy9 =>
 br (y9==false) (k7 true)
 (bnd (uS x5.Ym 0 1000000) λy10 =>
 br (y10==false) (k7 true)
 (bnd (uS x5.lands 0 1000000) λy11 =>
 br (y11==false) (k7 true)
 (bnd (Gv x5.pool) λy12 =>
 k7 (y12==false)))))
 (bnd (yR s s.qW 0 (-1)) λy19 =>
 br y19 (bnd (yR s s.Oa 4 (-1)) λy20 =>
 some y20)
 (some false))
def BG (s:GState):Option Bool :=
 bnd (uS (gK s.jk) 2 4) λy1 =>
 br (y1==false) (some false)
 (iF (Eb s) 0)
def qB (s:GState)(p:Int):Option Bool :=
 bnd (uS p 0 (Cc (gK s.jk) 1)) λy1 =>
 some y1
def PQ (c:NY Int)(s1:Int)(k2:Int->Option Bool):Option Bool :=
 br (decide (s1<3)) (jn (λs4:Bool =>
 br s4 (some false)
 (k2 (iL s1 1))) λk5 =>
 sel s1 3 λj7=>(match j7 with|0=>(br (decide (c.a0<0)) (k5 true) (sel s1 3 λj8=>(match j8 with|0=>(k5 (decide (1000000<c.a0)))  | 1=>(k5 (decide (1000000<c.a1)))  | _=>(k5 (decide (1000000<c.a2))) )))  | 1=>(br (decide (c.a1<0)) (k5 true) (sel s1 3 λj9=>(match j9 with|0=>(k5 (decide (1000000<c.a0)))  | 1=>(k5 (decide (1000000<c.a1)))  | _=>(k5 (decide (1000000<c.a2))) )))  | _=>(br (decide (c.a2<0)) (k5 true) (sel s1 3 λj10=>(match j10 with|0=>(k5 (decide (1000000<c.a0)))  | 1=>(k5 (decide (1000000<c.a1)))  | _=>(k5 (decide (1000000<c.a2))) ))) ))
 (some true)
def Tm (c:NY Int):Option Bool :=
 iF (PQ c) 0
def JD (o:GObject):Option GObject :=
 some { o with Ap:=(-1),blocked:=false,blocks:=0 }
def Gw (o:GObject):Option GObject :=
 some { o with deadly:=false,Am:=0,yP:=0 }
def JE (o:GObject)(cards:Int)(jk:Int):Option Bool :=
 jn (λs1:Bool =>
 br s1 (some false)
 (jn (λs4:Bool =>
 br s4 (some false)
 (jn (λs7:Bool =>
 br s7 (some false)
 (br (decide (o.iI=0)) (some true)
 (bnd (JD o) λy11 =>
 lt (decide (o.id=y11.id)&&(decide (o.card=y11.card)&&(decide (o.owner=y11.owner)&&(decide (o.control=y11.control)&&(decide (o.iI=y11.iI)&&(o.token==y11.token&&(o.lQ==y11.lQ&&(o.WC==y11.WC&&(o.deadly==y11.deadly&&(decide (o.Am=y11.Am)&&(decide (o.counters.a0=y11.counters.a0)&&(decide (o.counters.a1=y11.counters.a1)&&(decide (o.counters.a2=y11.counters.a2)&&(decide (o.stamp=y11.stamp)&&(decide (o.copy=y11.copy)&&(decide (o.Ap=y11.Ap)&&(o.blocked==y11.blocked&&(decide (o.blocks=y11.blocks)&&(decide (o.yP=y11.yP)&&true))))))))))))))))))) λv12 =>
 br v12 (bnd (Gw o) λy13 =>
 lt (decide (o.id=y13.id)&&(decide (o.card=y13.card)&&(decide (o.owner=y13.owner)&&(decide (o.control=y13.control)&&(decide (o.iI=y13.iI)&&(o.token==y13.token&&(o.lQ==y13.lQ&&(o.WC==y13.WC&&(o.deadly==y13.deadly&&(decide (o.Am=y13.Am)&&(decide (o.counters.a0=y13.counters.a0)&&(decide (o.counters.a1=y13.counters.a1)&&(decide (o.counters.a2=y13.counters.a2)&&(decide (o.stamp=y13.stamp)&&(decide (o.copy=y13.copy)&&(decide (o.Ap=y13.Ap)&&(o.blocked==y13.blocked&&(decide (o.blocks=y13.blocks)&&(decide (o.yP=y13.yP)&&true))))))))))))))))))) λv14 =>
 br v14 (br (o.lQ==false) (br (o.WC==false) (lt (decide (o.counters.a0=0)&&(decide (o.counters.a1=0)&&(decide (o.counters.a2=0)&&true))) λv15 =>
 some v15)
 (some false))
 (some false))
 (some false))
 (some false)))) λk8 =>
 bnd (Tm o.counters) λy10 =>
 br (y10==false) (k8 true)
 (br (decide (o.copy<(-1))) (k8 true)
 (br (decide (cards<=o.copy)) (k8 true)
 (br (decide (o.Ap<(-1))) (k8 true)
 (k8 (decide (jk<=o.Ap)))))))) λk5 =>
 br (decide (o.Am<0)) (k5 true)
 (br (decide (1000000<o.Am)) (k5 true)
 (br (decide (o.stamp<0)) (k5 true)
 (br (decide (1000000<o.stamp)) (k5 true)
 (br (decide (o.blocks<0)) (k5 true)
 (br (decide (1000000<o.blocks)) (k5 true)
 (br (decide (o.yP<0)) (k5 true)
 (k5 (decide (1000000<o.yP))))))))))) λk2 =>
 br (decide (o.id<1)) (k2 true)
 (br (decide (o.card<0)) (k2 true)
 (br (decide (cards<=o.card)) (k2 true)
 (br (decide (o.owner<0)) (k2 true)
 (br (decide (jk<=o.owner)) (k2 true)
 (br (decide (o.control<0)) (k2 true)
 (br (decide (jk<=o.control)) (k2 true)
 (br (decide (o.iI<0)) (k2 true)
 (k2 (decide (5<o.iI))))))))))
def FX (s:GState)(id:Int)(s1:Int×Int)(k2:(Int×Int)->Option Int):Option Int :=
 br (decide (s1.2<(gK s.stack))) (jn (λs4:Int =>
 k2 (s4,(iL s1.2 1))) λk5 =>
 jn (λs7:Bool =>
 br s7 (k5 (iL s1.1 1))
 (k5 s1.1)) λk8 =>
 bnd (kQ s.stack s1.2) λx10 =>
 br (decide (x10.kind=1)) (bnd (kQ s.stack s1.2) λx11 =>
 k8 (decide (x11.id=id)))
 (k8 false))
 (some s1.1)
def Ec (s:GState)(id:Int):Option Int :=
 iF (FX s id) (0,0)
def yS (l:List Int):Option (List Int) :=
 lZ (0+l.length) 8 (
 some l)
def JF (s:GState)(iI:Int)(iY:Int):Option (List Int) :=
 br (decide (iI=0)) (bnd (yS s.qW) λy1 =>
 some y1)
 (br (decide (iI=4)) (bnd (yS s.Oa) λy2 =>
 some y2)
 (jn (λs3:Bool =>
 br s3 (some ([]))
 (br (decide (iI=1)) (bnd (kQ s.jk iY) λx6 =>
 bnd (yS x6.hand) λy7 =>
 some y7)
 (br (decide (iI=2)) (bnd (kQ s.jk iY) λx8 =>
 bnd (yS x8.library) λy9 =>
 some y9)
 (br (decide (iI=3)) (bnd (kQ s.jk iY) λx10 =>
 bnd (yS x10.Ak) λy11 =>
 some y11)
 (some ([])))))) λk4 =>
 br (decide (iY<0)) (k4 true)
 (k4 (decide ((gK s.jk)<=iY)))))
def Ed (s:GState)(o:GObject):Option Bool :=
 br (decide (o.iI=5)) (bnd (Ec s o.id) λy1 =>
 some (decide (y1=1)))
 (bnd (JF s o.iI o.owner) λy2 =>
 bnd (Aw y2 o.id) λy3 =>
 some (decide (y3=1)))
def vS (cards:List GCard)(s:GState)(s1:Int)(k2:Int->Option Bool):Option Bool :=
 br (decide (s1<(gK s.objects))) (bnd (kQ s.objects s1) λx4 =>
 jn (λs5:Bool =>
 br s5 (some false)
 (bnd (Ed s x4) λy10 =>
 br (y10==false) (some false)
 (k2 (iL s1 1)))) λk6 =>
 bnd (JE x4 (gK cards) (gK s.jk)) λy8 =>
 br (y8==false) (k6 true)
 (br (decide (s.nextId<=x4.id)) (k6 true)
 (br (decide (s.sG<=x4.stamp)) (k6 true)
 (br (decide (0<s1)) (bnd (kQ s.objects (Cc s1 1)) λx9 =>
 k6 (decide (x4.id<=x9.id)))
 (k6 false)))))
 (some true)
def sV (cards:List GCard)(s:GState):Option Bool :=
 br (decide (2048<(gK s.objects))) (some false)
 (iF (vS cards s) 0)
def KU (c:Int):Option Bool :=
 br (decide (97<=c)) (some (decide (c<=122)))
 (some false)
def PR (s:ByteArray)(s7:Int)(k8:Int->Option Bool):Option Bool :=
 br (decide (s7<(s.size:Int))) (jn (λs10:Bool =>
 br s10 (some false)
 (jn (λs19:Bool =>
 br s19 (some false)
 (k8 (iL s7 1))) λk20 =>
 br (decide (0<s7)) (bnd (Je s s7) λx22 =>
 br (decide (x22=45)) (bnd (Je s (Cc s7 1)) λx23 =>
 k20 (decide (x23=45)))
 (k20 false))
 (k20 false))) λk11 =>
 bnd (Je s s7) λx13 =>
 bnd (KU x13) λy14 =>
 br (y14==false) (bnd (Je s s7) λx15 =>
 br (decide (x15<48)) (bnd (Je s s7) λx16 =>
 k11 (!decide (x16=45)))
 (bnd (Je s s7) λx17 =>
 br (decide (57<x17)) (bnd (Je s s7) λx18 =>
 k11 (!decide (x18=45)))
 (k11 false)))
 (k11 false))
 (some true)
def MH (s:ByteArray):Option Bool :=
 jn (λs1:Bool =>
 br s1 (some false)
 (iF (PR s) 0)) λk2 =>
 br (decide ((s.size:Int)<1)) (k2 true)
 (br (decide (32<(s.size:Int))) (k2 true)
 (bnd (Je s 0) λx4 =>
 bnd (KU x4) λy5 =>
 br (y5==false) (k2 true)
 (bnd (Je s (Cc (s.size:Int) 1)) λx6 =>
 k2 (decide (x6=45)))))
def Iw (l:List ByteArray)(s:ByteArray)(s1:Int)(k2:Int->Option Int):Option Int :=
 br (decide (s1<(gK l))) (bnd (kQ l s1) λx4 =>
 br (iP .eql x4 s) (some s1)
 (k2 (iL s1 1)))
 (some (-1))
def DC (l:List ByteArray)(s:ByteArray):Option Int :=
 iF (Iw l s) 0
def vT  : Option (List ByteArray) :=
 some ([(bs [98,97,115,105,99]),(bs [117,110,105,113,117,101])])
def uO  : Option (List ByteArray) :=
 some ([(bs [99,114,101,97,116,117,114,101]),(bs [105,110,115,116,97,110,116]),(bs [114,105,116,117,97,108]),(bs [114,101,108,105,99]),(bs [99,104,97,114,109]),(bs [108,97,110,100])])
def yw (s:ByteArray):Option Bool :=
 bnd (MH s) λy1 =>
 br y1 (bnd (vT) λy2 =>
 bnd (DC y2 s) λy3 =>
 br (decide (y3<0)) (bnd (uO) λy4 =>
 bnd (DC y4 s) λy5 =>
 some (decide (y5<0)))
 (some false))
 (some false)
def Iy  (s4:Int×Int×Int)(k5:(Int×Int×Int)->Option Bool):Option Bool :=
 br (decide (s4.2.2<6)) (jn (λs7:Bool =>
 br s7 (some false)
 (bnd (divO .quo .i64 s4.1 2) λx12 =>
 bnd (divO .quo .i64 s4.2.1 2) λx13 =>
 k5 (x12,x13,(iL s4.2.2 1)))) λk8 =>
 bnd (divO .rem .i64 s4.1 2) λx10 =>
 br (decide (x10=1)) (bnd (divO .rem .i64 s4.2.1 2) λx11 =>
 k8 (decide (x11=1)))
 (k8 false))
 (some true)
def DD (a:Int)(b:Int)(most:Int):Option Bool :=
 jn (λs1:Bool =>
 br s1 (some false)
 (iF (Iy) (a,b,0))) λk2 =>
 br (decide (a<0)) (k2 true)
 (br (decide (most<a)) (k2 true)
 (br (decide (b<0)) (k2 true)
 (k2 (decide (most<b)))))
def Az (b:qx):Option Bool :=
 jn (λs1:Bool =>
 br s1 (some false)
 (br (!decide (b.kind=0)) (some true)
 (some (decide (b.n=0))))) λk2 =>
 br (decide (b.kind<0)) (k2 true)
 (br (decide (3<b.kind)) (k2 true)
 (br (decide (b.n<0)) (k2 true)
 (k2 (decide (1000000<b.n)))))
def AA (f:jf):Option Bool :=
 jn (λs1:Bool =>
 br s1 (some false)
 (jn (λs4:Bool =>
 br s4 (some false)
 (jn (λs9:Bool =>
 br s9 (some false)
 (bnd (Az f.power) λy13 =>
 br y13 (bnd (Az f.ik) λy14 =>
 br y14 (bnd (Az f.value) λy15 =>
 some y15)
 (some false))
 (some false))) λk10 =>
 br (iP .neq f.sub (bs [])) (bnd (yw f.sub) λy12 =>
 br (y12==false) (k10 true)
 (br (decide (f.keys<0)) (k10 true)
 (k10 (decide (131071<f.keys)))))
 (br (decide (f.keys<0)) (k10 true)
 (k10 (decide (131071<f.keys)))))) λk5 =>
 bnd (DD f.types f.iy 63) λy7 =>
 br (y7==false) (k5 true)
 (bnd (DD f.iM f.gZ 31) λy8 =>
 k5 (y8==false)))) λk2 =>
 br (decide (f.iI<0)) (k2 true)
 (br (decide (5<f.iI)) (k2 true)
 (br (decide (f.who<0)) (k2 true)
 (br (decide (2<f.who)) (k2 true)
 (br (decide (f.self<0)) (k2 true)
 (br (decide (2<f.self)) (k2 true)
 (br (decide (f.rE<0)) (k2 true)
 (k2 (decide (2<f.rE)))))))))
def JG (m:jv):Option jv :=
 br (decide (m.kind=2)) (some { m with kind:=0,n:=0 })
 (br (decide (m.kind=3)) (some { m with kind:=0,n:=0 })
 (br (decide (m.kind=6)) (some { m with kind:=0,n:=0 })
 (br (decide (m.kind=7)) (some { m with kind:=0,n:=0 })
 (br (decide (m.kind=8)) (some { m with kind:=0,n:=0 })
 (br (decide (m.kind=9)) (some { m with kind:=0,n:=0 })
 (br (decide (m.kind=4)) (some { m with kind:=0,sub:=(bs []) })
 (br (decide (m.kind=5)) (some { m with kind:=0,sub:=(bs []) })
 (br (decide (m.kind=11)) (some { m with kind:=0,filter:=kD })
 (br (decide (m.kind=12)) (some (jv.mk 0 0 0 m.sub m.filter))
 (br (decide (m.kind=13)) (some (jv.mk 0 0 0 m.sub m.filter))
 (some { m with kind:=0 })))))))))))
def DF (mask:Int):Option Bool :=
 br (decide (1<=mask)) (br (decide (mask<=63)) (some (decide ((jS .and .i64 mask 6)=0)))
 (some false))
 (some false)
def PS (m:jv):Option Bool :=
 jn (λs1:Bool =>
 br s1 (some false)
 (br (decide (m.kind=2)) (bnd (DF m.n) λy6 =>
 some y6)
 (br (decide (m.kind=3)) (bnd (DF m.n) λy7 =>
 some y7)
 (br (decide (m.kind=4)) (bnd (yw m.sub) λy8 =>
 some y8)
 (br (decide (m.kind=5)) (bnd (yw m.sub) λy9 =>
 some y9)
 (br (decide (m.kind=6)) (br (decide (0<=m.n)) (some (decide (m.n<=31)))
 (some false))
 (br (decide (m.kind=7)) (br (decide (1<=m.n)) (some (decide (m.n<=31)))
 (some false))
 (br (decide (m.kind=8)) (br (decide (1<=m.n)) (some (decide (m.n<=131071)))
 (some false))
 (br (decide (m.kind=9)) (br (decide (1<=m.n)) (some (decide (m.n<=131071)))
 (some false))
 (br (decide (m.kind=11)) (bnd (AA m.filter) λy10 =>
 some y10)
 (br (decide (m.kind=12)) (br (decide (0<=m.n)) (br (decide (m.n<=99)) (br (decide (0<=m.m)) (some (decide (m.m<=99)))
 (some false))
 (some false))
 (some false))
 (br (decide (m.kind=13)) (br (decide ((-99)<=m.n)) (br (decide (m.n<=99)) (br (decide ((-99)<=m.m)) (some (decide (m.m<=99)))
 (some false))
 (some false))
 (some false))
 (some true))))))))))))) λk2 =>
 br (decide (m.kind<1)) (k2 true)
 (br (decide (14<m.kind)) (k2 true)
 (bnd (JG m) λy4 =>
 lt ((decide (y4.kind=0)&&(decide (y4.n=0)&&(decide (y4.m=0)&&(iP .eql y4.sub (bs [])&&(decide (y4.filter.iI=0)&&(decide (y4.filter.who=0)&&(decide (y4.filter.self=0)&&(decide (y4.filter.types=0)&&(decide (y4.filter.iy=0)&&(decide (y4.filter.iM=0)&&(decide (y4.filter.gZ=0)&&(iP .eql y4.filter.sub (bs [])&&(decide (y4.filter.keys=0)&&(decide (y4.filter.rE=0)&&(decide (y4.filter.power.kind=0)&&(decide (y4.filter.power.n=0)&&(decide (y4.filter.ik.kind=0)&&(decide (y4.filter.ik.n=0)&&(decide (y4.filter.value.kind=0)&&(decide (y4.filter.value.n=0)&&true))))))))))))))))))))==false) λv5 =>
 k2 v5))
def MI (i:Int)(s1:Int×Int)(k2:(Int×Int)->Option Bool):Option Bool :=
 br (decide (s1.2<i)) (bnd (divO .quo .i64 s1.1 2) λx4 =>
 k2 (x4,(iL s1.2 1)))
 (bnd (divO .rem .i64 s1.1 2) λx5 =>
 some (decide (x5=1)))
def Iz (mask:Int)(i:Int):Option Bool :=
 iF (MI i) (mask,0)
def Bg (l:List ByteArray)(mask:Int)(pby:ByteArray)(s1:ByteArray×Int)(k2:(ByteArray×Int)->Option ByteArray):Option ByteArray :=
 br (decide (s1.2<(gK l))) (jn (λs4:ByteArray =>
 k2 (s4,(iL s1.2 1))) λk5 =>
 bnd (Iz mask s1.2) λy7 =>
 br y7 (jn (λs8:ByteArray =>
 bnd (kQ l s1.2) λx12 =>
 bnd (rQ s8 x12) λx13 =>
 k5 x13) λk9 =>
 br (iP .neq s1.1 (bs [])) (bnd (rQ s1.1 pby) λx11 =>
 k9 x11)
 (k9 s1.1))
 (k5 s1.1))
 (some s1.1)
def Ee (l:List ByteArray)(mask:Int)(pby:ByteArray):Option ByteArray :=
 iF (Bg l mask pby) ((bs []),0)
def rF (mask:Int):Option ByteArray :=
 br (decide (mask<1)) (some (bs []))
 (br (decide (63<mask)) (some (bs []))
 (bnd (uO) λy1 =>
 bnd (Ee y1 mask (bs [43])) λy2 =>
 some y2))
def Tn (mask:Int):Option Bool :=
 br (decide (0<=mask)) (some (decide (mask<=31)))
 (some false)
def Ef (i:Int):Option ByteArray :=
 br (decide (i=0)) (some (bs [97,109,98,101,114]))
 (br (decide (i=1)) (some (bs [99,111,98,97,108,116]))
 (br (decide (i=2)) (some (bs [106,101,116]))
 (br (decide (i=3)) (some (bs [114,117,98,121]))
 (br (decide (i=4)) (some (bs [101,109,101,114,97,108,100]))
 (some (bs []))))))
def EU (mask:Int)(s2:ByteArray×Int)(k3:(ByteArray×Int)->Option ByteArray):Option ByteArray :=
 br (decide (s2.2<5)) (jn (λs5:ByteArray =>
 k3 (s5,(iL s2.2 1))) λk6 =>
 bnd (SV .shl .i64 1 s2.2) λx8 =>
 bnd (divO .quo .i64 mask x8) λx9 =>
 bnd (divO .rem .i64 x9 2) λx10 =>
 br (decide (x10=1)) (jn (λs11:ByteArray =>
 bnd (Ef s2.2) λy15 =>
 bnd (rQ s11 y15) λx16 =>
 k6 x16) λk12 =>
 br (iP .neq s2.1 (bs [])) (bnd (rQ s2.1 (bs [43])) λx14 =>
 k12 x14)
 (k12 s2.1))
 (k6 s2.1))
 (some s2.1)
def Gx (mask:Int):Option ByteArray :=
 bnd (Tn mask) λy1 =>
 br (y1==false) (some (bs []))
 (br (decide (mask=0)) (some (bs [110,111,110,101]))
 (iF (EU mask) ((bs []),0)))
def JH (mask:Int):Option Bool :=
 br (decide (0<=mask)) (some (decide (mask<=131071)))
 (some false)
def Gy  : Option (List ByteArray) :=
 some ([(bs [102,108,121,105,110,103]),(bs [114,101,97,99,104]),(bs [104,97,115,116,101]),(bs [118,105,103,105,108,97,110,116]),(bs [116,114,97,109,112,108,101]),(bs [102,105,114,115,116,45,115,116,114,105,107,101]),(bs [100,111,117,98,108,101,45,115,116,114,105,107,101]),(bs [100,101,97,100,108,121]),(bs [108,105,102,101,108,105,110,107]),(bs [109,101,110,97,99,101]),(bs [100,101,102,101,110,100,101,114]),(bs [119,97,114,100,101,100]),(bs [115,116,117,114,100,121]),(bs [101,108,117,115,105,118,101]),(bs [110,111,45,97,116,116,97,99,107]),(bs [110,111,45,98,108,111,99,107]),(bs [109,117,115,116,45,97,116,116,97,99,107])])
def Gz (i:Int):Option ByteArray :=
 br (decide (i<0)) (some (bs []))
 (br (decide (16<i)) (some (bs []))
 (bnd (Gy) λy1 =>
 bnd (kQ y1 i) λx2 =>
 some x2))
def JI  (s2:Int×ByteArray×Int)(k3:(Int×ByteArray×Int)->Option ByteArray):Option ByteArray :=
 br (decide (s2.2.2<17)) (jn (λs5:Int×ByteArray =>
 k3 (s5.1,s5.2,(iL s2.2.2 1))) λk6 =>
 jn (λs8:ByteArray =>
 bnd (divO .quo .i64 s2.1 2) λx18 =>
 k6 (x18,s8)) λk9 =>
 bnd (divO .rem .i64 s2.1 2) λx11 =>
 br (decide (x11=1)) (jn (λs12:ByteArray =>
 bnd (Gz s2.2.2) λy16 =>
 bnd (rQ s12 y16) λx17 =>
 k9 x17) λk13 =>
 br (iP .neq s2.2.1 (bs [])) (bnd (rQ s2.2.1 (bs [43])) λx15 =>
 k13 x15)
 (k13 s2.2.1))
 (k9 s2.2.1))
 (br (iP .eql s2.2.1 (bs [])) (some (bs [110,111,110,101]))
 (some s2.2.1))
def GG (mask:Int):Option ByteArray :=
 bnd (JH mask) λy1 =>
 br (y1==false) (some (bs []))
 (iF (JI) (mask,(bs []),0))
def wY  : Option (List ByteArray) :=
 some ([(bs []),(bs [105,110,45,104,97,110,100]),(bs [105,110,45,108,105,98,114,97,114,121]),(bs [105,110,45,103,114,97,118,101,121,97,114,100]),(bs [105,110,45,101,120,105,108,101]),(bs [111,110,45,115,116,97,99,107])])
def yT  : Option (List ByteArray) :=
 some ([(bs []),(bs [121,111,117,114,115]),(bs [116,104,101,105,114,115])])
def wZ  : Option (List ByteArray) :=
 some ([(bs []),(bs [115,101,108,102]),(bs [111,116,104,101,114])])
def yU  : Option (List ByteArray) :=
 some ([(bs []),(bs [116,97,112,112,101,100]),(bs [117,110,116,97,112,112,101,100])])
def yV (l:List ByteArray)(s:ByteArray):Option (List ByteArray) :=
 br (iP .eql s (bs [])) (some l)
 (lZ (l.length+([s]).length) 16 (
 some (l++[s])))
def MJ (i:Int)(s1:Int×Int)(k2:(Int×Int)->Option Bool):Option Bool :=
 br (decide (s1.2<i)) (bnd (divO .quo .i64 s1.1 2) λx4 =>
 k2 (x4,(iL s1.2 1)))
 (bnd (divO .rem .i64 s1.1 2) λx5 =>
 some (decide (x5=1)))
def Dc (mask:Int)(i:Int):Option Bool :=
 iF (MJ i) (mask,0)
def Ci (i:Int)(s1:Int×Int)(k2:(Int×Int)->Option ByteArray):Option ByteArray :=
 br (decide (s1.2<i)) (k2 ((ajI s1.1 2),(iL s1.2 1)))
 (bnd (rF s1.1) λy4 =>
 some y4)
def wG (i:Int):Option ByteArray :=
 iF (Ci i) (1,0)
def FY  (s4:Int×ByteArray)(k5:(Int×ByteArray)->Option ByteArray):Option ByteArray :=
 br (decide (0<s4.1)) (bnd (divO .rem .u64 s4.1 10) λx7 =>
 bnd (ZW ([(IntKind.wrap .u8 (jS .add .u64 48 x7))])) λx8 =>
 bnd (rQ x8 s4.2) λx9 =>
 bnd (divO .quo .u64 s4.1 10) λx10 =>
 k5 (x10,x9))
 (some s4.2)
def AB (u:Int):Option ByteArray :=
 bnd (divO .rem .u64 u 10) λx1 =>
 bnd (ZW ([(IntKind.wrap .u8 (jS .add .u64 48 x1))])) λx2 =>
 bnd (divO .quo .u64 u 10) λx3 =>
 iF (FY) (x3,x2)
def xe (n:Int):Option ByteArray :=
 br (decide (n<0)) (bnd (AB (IntKind.wrap .u64 (0-(IntKind.wrap .u64 n)))) λy1 =>
 bnd (rQ (bs [45]) y1) λx2 =>
 some x2)
 (bnd (AB (IntKind.wrap .u64 n)) λy3 =>
 some y3)
def GH  : Option (List ByteArray) :=
 some ([(bs []),(bs [62,61]),(bs [60,61]),(bs [61])])
def rG (name:ByteArray)(b:qx):Option ByteArray :=
 br (decide (b.kind=0)) (some (bs []))
 (bnd (GH) λy1 =>
 bnd (kQ y1 b.kind) λx2 =>
 bnd (rQ name x2) λx3 =>
 bnd (xe b.n) λy4 =>
 bnd (rQ x3 y4) λx5 =>
 some x5)
def EW (l:List ByteArray)(pby:ByteArray)(s1:ByteArray×Int)(k2:(ByteArray×Int)->Option ByteArray):Option ByteArray :=
 br (decide (s1.2<(gK l))) (jn (λs4:ByteArray =>
 k2 (s4,(iL s1.2 1))) λk5 =>
 jn (λs7:ByteArray =>
 bnd (kQ l s1.2) λx11 =>
 bnd (rQ s7 x11) λx12 =>
 k5 x12) λk8 =>
 br (decide (0<s1.2)) (bnd (rQ s1.1 pby) λx10 =>
 k8 x10)
 (k8 s1.1))
 (some s1.1)
def JJ (l:List ByteArray)(pby:ByteArray):Option ByteArray :=
 iF (EW l pby) ((bs []),0)
def EX (f:jf)(y5:List ByteArray)(s50:Int×(List ByteArray))(k51:(Int×(List ByteArray))->Option ByteArray):Option ByteArray :=
 br (decide (s50.1<17)) (jn (λs53:(List ByteArray) =>
 k51 ((iL s50.1 1),s53)) λk54 =>
 bnd (Dc f.keys s50.1) λy56 =>
 br y56 (bnd (Gz s50.1) λy57 =>
 bnd (rQ (bs [119,105,116,104,58]) y57) λx58 =>
 lZ (s50.2.length+([x58]).length) 16 (
 k54 (s50.2++[x58])))
 (k54 s50.2))
 (bnd (kQ y5 f.rE) λx59 =>
 bnd (yV s50.2 x59) λy60 =>
 bnd (rG (bs [112,111,119,101,114]) f.power) λy61 =>
 bnd (yV y60 y61) λy62 =>
 bnd (rG (bs [116,111,117,103,104]) f.ik) λy63 =>
 bnd (yV y62 y63) λy64 =>
 bnd (rG (bs [118,97,108,117,101]) f.value) λy65 =>
 bnd (yV y64 y65) λy66 =>
 br (decide ((gK y66)=0)) (some (bs [97,110,121]))
 (bnd (JJ y66 (bs [32])) λy67 =>
 some y67))
def EY (f:jf)(y5:List ByteArray)(s37:Int×(List ByteArray))(k38:(Int×(List ByteArray))->Option ByteArray):Option ByteArray :=
 br (decide (s37.1<5)) (jn (λs40:(List ByteArray) =>
 k38 ((iL s37.1 1),s40)) λk41 =>
 bnd (Dc f.gZ s37.1) λy43 =>
 br y43 (bnd (Ef s37.1) λy44 =>
 bnd (rQ (bs [110,111,110,45]) y44) λx45 =>
 lZ (s37.2.length+([x45]).length) 16 (
 k41 (s37.2++[x45])))
 (k41 s37.2))
 (jn (λs46:(List ByteArray) =>
 iF (EX f y5) (0,s46)) λk47 =>
 br (iP .neq f.sub (bs [])) (bnd (rQ (bs [115,117,98,58]) f.sub) λx49 =>
 lZ (s37.2.length+([x49]).length) 16 (
 k47 (s37.2++[x49])))
 (k47 s37.2))
def EZ (f:jf)(y5:List ByteArray)(s29:Int×(List ByteArray))(k30:(Int×(List ByteArray))->Option ByteArray):Option ByteArray :=
 br (decide (s29.1<5)) (jn (λs32:(List ByteArray) =>
 k30 ((iL s29.1 1),s32)) λk33 =>
 bnd (Dc f.iM s29.1) λy35 =>
 br y35 (bnd (Ef s29.1) λy36 =>
 lZ (s29.2.length+([y36]).length) 16 (
 k33 (s29.2++[y36])))
 (k33 s29.2))
 (iF (EY f y5) (0,s29.2))
def E5 (f:jf)(y5:List ByteArray)(s20:Int×(List ByteArray))(k21:(Int×(List ByteArray))->Option ByteArray):Option ByteArray :=
 br (decide (s20.1<6)) (jn (λs23:(List ByteArray) =>
 k21 ((iL s20.1 1),s23)) λk24 =>
 bnd (Dc f.iy s20.1) λy26 =>
 br y26 (bnd (wG s20.1) λy27 =>
 bnd (rQ (bs [110,111,110,45]) y27) λx28 =>
 lZ (s20.2.length+([x28]).length) 16 (
 k24 (s20.2++[x28])))
 (k24 s20.2))
 (iF (EZ f y5) (0,s20.2))
def E8 (f:jf)(y5:List ByteArray)(s12:Int×(List ByteArray))(k13:(Int×(List ByteArray))->Option ByteArray):Option ByteArray :=
 br (decide (s12.1<6)) (jn (λs15:(List ByteArray) =>
 k13 ((iL s12.1 1),s15)) λk16 =>
 bnd (Dc f.types s12.1) λy18 =>
 br y18 (bnd (wG s12.1) λy19 =>
 lZ (s12.2.length+([y19]).length) 16 (
 k16 (s12.2++[y19])))
 (k16 s12.2))
 (iF (E5 f y5) (0,s12.2))
def JK (f:jf):Option ByteArray :=
 bnd (AA f) λy1 =>
 br (y1==false) (some (bs []))
 (bnd (wY) λy2 =>
 bnd (yT) λy3 =>
 bnd (wZ) λy4 =>
 bnd (yU) λy5 =>
 bnd (kQ y2 f.iI) λx6 =>
 bnd (yV ([]) x6) λy7 =>
 bnd (kQ y3 f.who) λx8 =>
 bnd (yV y7 x8) λy9 =>
 bnd (kQ y4 f.self) λx10 =>
 bnd (yV y9 x10) λy11 =>
 iF (E8 f y5) (0,y11))
def JL (m:jv):Option ByteArray :=
 bnd (PS m) λy1 =>
 br (y1==false) (some (bs []))
 (br (decide (m.kind=1)) (some (bs [99,111,110,116,114,111,108]))
 (br (decide (m.kind=2)) (bnd (rF m.n) λy2 =>
 bnd (rQ (bs [116,121,112,101,115,61]) y2) λx3 =>
 some x3)
 (br (decide (m.kind=3)) (bnd (rF m.n) λy4 =>
 bnd (rQ (bs [116,121,112,101,115,43,61]) y4) λx5 =>
 some x5)
 (br (decide (m.kind=4)) (bnd (rQ (bs [115,117,98,61]) m.sub) λx6 =>
 some x6)
 (br (decide (m.kind=5)) (bnd (rQ (bs [115,117,98,43,61]) m.sub) λx7 =>
 some x7)
 (br (decide (m.kind=6)) (bnd (Gx m.n) λy8 =>
 bnd (rQ (bs [99,111,108,111,114,115,61]) y8) λx9 =>
 some x9)
 (br (decide (m.kind=7)) (bnd (Gx m.n) λy10 =>
 bnd (rQ (bs [99,111,108,111,114,115,43,61]) y10) λx11 =>
 some x11)
 (br (decide (m.kind=8)) (bnd (GG m.n) λy12 =>
 bnd (rQ (bs [107,101,121,115,43,61]) y12) λx13 =>
 some x13)
 (br (decide (m.kind=9)) (bnd (GG m.n) λy14 =>
 bnd (rQ (bs [107,101,121,115,45,61]) y14) λx15 =>
 some x15)
 (br (decide (m.kind=10)) (some (bs [98,108,97,110,107]))
 (br (decide (m.kind=11)) (bnd (JK m.filter) λy16 =>
 bnd (rQ (bs [112,116,61,99,111,117,110,116,40]) y16) λx17 =>
 bnd (rQ x17 (bs [41])) λx18 =>
 some x18)
 (br (decide (m.kind=12)) (bnd (xe m.n) λy19 =>
 bnd (rQ (bs [112,116,61]) y19) λx20 =>
 bnd (rQ x20 (bs [47])) λx21 =>
 bnd (xe m.m) λy22 =>
 bnd (rQ x21 y22) λx23 =>
 some x23)
 (br (decide (m.kind=13)) (bnd (xe m.n) λy24 =>
 bnd (rQ (bs [112,116,43,61]) y24) λx25 =>
 bnd (rQ x25 (bs [47])) λx26 =>
 bnd (xe m.m) λy27 =>
 bnd (rQ x26 y27) λx28 =>
 some x28)
 (some (bs [112,116,45,115,119,105,116,99,104])))))))))))))))
def xy (l:List jv)(s4:ByteArray×Int)(k5:(ByteArray×Int)->Option ByteArray):Option ByteArray :=
 br (decide (s4.2<(gK l))) (jn (λs7:ByteArray =>
 k5 (s7,(iL s4.2 1))) λk8 =>
 bnd (kQ l s4.2) λx10 =>
 bnd (PS x10) λy11 =>
 br (y11==false) (some (bs []))
 (jn (λs12:ByteArray =>
 bnd (kQ l s4.2) λx16 =>
 bnd (JL x16) λy17 =>
 bnd (rQ s12 y17) λx18 =>
 k8 x18) λk13 =>
 br (decide (0<s4.2)) (bnd (rQ s4.1 (bs [44,32])) λx15 =>
 k13 x15)
 (k13 s4.1)))
 (some s4.1)
def tJ (l:List jv):Option ByteArray :=
 jn (λs1:Bool =>
 br s1 (some (bs []))
 (iF (xy l) ((bs []),0))) λk2 =>
 br (decide ((gK l)=0)) (k2 true)
 (k2 (decide (6<(gK l))))
def KW (c:oQ)(s4:Int)(k5:Int->Option Bool):Option Bool :=
 br (decide (s4<5)) (jn (λs7:Bool =>
 br s7 (some false)
 (k5 (iL s4 1))) λk8 =>
 sel s4 5 λj10=>(match j10 with|0=>(br (decide (c.color.a0<0)) (k8 true) (sel s4 5 λj11=>(match j11 with|0=>(k8 (decide (9<c.color.a0)))  | 1=>(k8 (decide (9<c.color.a1)))  | 2=>(k8 (decide (9<c.color.a2)))  | 3=>(k8 (decide (9<c.color.a3)))  | _=>(k8 (decide (9<c.color.a4))) )))  | 1=>(br (decide (c.color.a1<0)) (k8 true) (sel s4 5 λj12=>(match j12 with|0=>(k8 (decide (9<c.color.a0)))  | 1=>(k8 (decide (9<c.color.a1)))  | 2=>(k8 (decide (9<c.color.a2)))  | 3=>(k8 (decide (9<c.color.a3)))  | _=>(k8 (decide (9<c.color.a4))) )))  | 2=>(br (decide (c.color.a2<0)) (k8 true) (sel s4 5 λj13=>(match j13 with|0=>(k8 (decide (9<c.color.a0)))  | 1=>(k8 (decide (9<c.color.a1)))  | 2=>(k8 (decide (9<c.color.a2)))  | 3=>(k8 (decide (9<c.color.a3)))  | _=>(k8 (decide (9<c.color.a4))) )))  | 3=>(br (decide (c.color.a3<0)) (k8 true) (sel s4 5 λj14=>(match j14 with|0=>(k8 (decide (9<c.color.a0)))  | 1=>(k8 (decide (9<c.color.a1)))  | 2=>(k8 (decide (9<c.color.a2)))  | 3=>(k8 (decide (9<c.color.a3)))  | _=>(k8 (decide (9<c.color.a4))) )))  | _=>(br (decide (c.color.a4<0)) (k8 true) (sel s4 5 λj15=>(match j15 with|0=>(k8 (decide (9<c.color.a0)))  | 1=>(k8 (decide (9<c.color.a1)))  | 2=>(k8 (decide (9<c.color.a2)))  | 3=>(k8 (decide (9<c.color.a3)))  | _=>(k8 (decide (9<c.color.a4))) ))) ))
 (some true)
def MK (c:oQ):Option Bool :=
 jn (λs1:Bool =>
 br s1 (some false)
 (iF (KW c) 0)) λk2 =>
 br (decide (c.generic<0)) (k2 true)
 (br (decide (99<c.generic)) (k2 true)
 (br (decide (c.x<0)) (k2 true)
 (k2 (decide (2<c.x)))))
def GI (p:Ip):Option Bool :=
 bnd (MK p.lV) λy1 =>
 br y1 (br (decide (p.lV.x=0)) (br (decide (0<=p.life)) (some (decide (p.life<=99)))
 (some false))
 (some false))
 (some false)
def GK (when:Int):Option ByteArray :=
 br (decide (when=1)) (some (bs [101,110,116,101,114,115]))
 (br (decide (when=2)) (some (bs [108,101,97,118,101,115]))
 (br (decide (when=3)) (some (bs [100,105,101,115]))
 (br (decide (when=4)) (some (bs [97,116,116,97,99,107,115]))
 (br (decide (when=5)) (some (bs [98,108,111,99,107,115]))
 (br (decide (when=6)) (some (bs [100,101,97,108,115]))
 (br (decide (when=7)) (some (bs [100,101,97,108,116]))
 (br (decide (when=8)) (some (bs [100,114,97,119,115]))
 (br (decide (when=9)) (some (bs [99,97,115,116,115]))
 (br (decide (when=10)) (some (bs [117,112,107,101,101,112]))
 (br (decide (when=11)) (some (bs [101,110,100]))
 (br (decide (when=12)) (some (bs [103,97,105,110,115]))
 (br (decide (when=13)) (some (bs [108,111,115,101,115]))
 (br (decide (when=14)) (some (bs [112,108,97,99,101,100]))
 (some (bs [])))))))))))))))
def AL (when:Int):Option Bool :=
 br (decide (when=8)) (some true)
 (br (decide (when=9)) (some true)
 (br (decide (when=10)) (some true)
 (br (decide (when=11)) (some true)
 (br (decide (when=12)) (some true)
 (some (decide (when=13)))))))
def xg (when:Int):Option Bool :=
 bnd (GK when) λy1 =>
 br (iP .neq y1 (bs [])) (bnd (AL when) λy2 =>
 br (y2==false) (some true)
 (some (decide (when=9))))
 (some false)
def Tq (t:vP):Option Bool :=
 jn (λs1:Bool =>
 br s1 (some false)
 (bnd (xg t.when) λy6 =>
 br (y6==false) (lt (decide (t.filter.iI=0)&&(decide (t.filter.who=0)&&(decide (t.filter.self=0)&&(decide (t.filter.types=0)&&(decide (t.filter.iy=0)&&(decide (t.filter.iM=0)&&(decide (t.filter.gZ=0)&&(iP .eql t.filter.sub (bs [])&&(decide (t.filter.keys=0)&&(decide (t.filter.rE=0)&&(decide (t.filter.power.kind=0)&&(decide (t.filter.power.n=0)&&(decide (t.filter.ik.kind=0)&&(decide (t.filter.ik.n=0)&&(decide (t.filter.value.kind=0)&&(decide (t.filter.value.n=0)&&true)))))))))))))))) λv7 =>
 some v7)
 (jn (λs8:Int =>
 bnd (AA t.filter) λy11 =>
 br y11 (some (decide (t.filter.iI=s8)))
 (some false)) λk9 =>
 br (decide (t.when=9)) (k9 5)
 (k9 0)))) λk2 =>
 bnd (GK t.when) λy4 =>
 br (iP .eql y4 (bs [])) (k2 true)
 (br (decide (t.who<0)) (k2 true)
 (br (decide (2<t.who)) (k2 true)
 (bnd (AL t.when) λy5 =>
 br (y5==false) (k2 (!decide (t.who=0)))
 (k2 false))))
def AO (f:jf):Option Bool :=
 bnd (AA f) λy1 =>
 br y1 (some (decide (f.iI=0)))
 (some false)
def GL (pr:lu):Option Bool :=
 jn (λs1:Bool =>
 br s1 (some false)
 (br (decide (pr.doF=5)) (br (decide (pr.n=0)) (br (decide (pr.counter=0)) (br (decide (pr.iI=1)) (some true)
 (br (decide (pr.iI=2)) (some true)
 (some (decide (pr.iI=4)))))
 (some false))
 (some false))
 (br (decide (pr.doF=6)) (br (decide (pr.n=0)) (br (decide (pr.counter=0)) (some (decide (pr.iI=0)))
 (some false))
 (some false))
 (br (decide (pr.doF=7)) (br (decide (pr.iI=0)) (br (decide (1<=pr.n)) (br (decide (pr.n<=99)) (br (decide (0<=pr.counter)) (some (decide (pr.counter<3)))
 (some false))
 (some false))
 (some false))
 (some false))
 (some false))))) λk2 =>
 br (!decide (pr.who=0)) (k2 true)
 (bnd (AO pr.filter) λy4 =>
 k2 (y4==false))
def GN (pr:lu):Option Bool :=
 jn (λs1:Bool =>
 br s1 (some false)
 (jn (λs4:Bool =>
 br s4 (br (decide (1<=pr.n)) (some (decide (pr.n<=99)))
 (some false))
 (some (decide (pr.n=0)))) λk5 =>
 br (decide (pr.doF=2)) (k5 true)
 (k5 (decide (pr.doF=4))))) λk2 =>
 br (!decide (pr.iI=0)) (k2 true)
 (k2 (!decide (pr.counter=0)))
def Tt (pr:lu):Option Bool :=
 br (decide (pr.on=2)) (bnd (GL pr) λy1 =>
 some y1)
 (bnd (GN pr) λy2 =>
 br (y2==false) (some false)
 (lt (decide (pr.filter.iI=0)&&(decide (pr.filter.who=0)&&(decide (pr.filter.self=0)&&(decide (pr.filter.types=0)&&(decide (pr.filter.iy=0)&&(decide (pr.filter.iM=0)&&(decide (pr.filter.gZ=0)&&(iP .eql pr.filter.sub (bs [])&&(decide (pr.filter.keys=0)&&(decide (pr.filter.rE=0)&&(decide (pr.filter.power.kind=0)&&(decide (pr.filter.power.n=0)&&(decide (pr.filter.ik.kind=0)&&(decide (pr.filter.ik.n=0)&&(decide (pr.filter.value.kind=0)&&(decide (pr.filter.value.n=0)&&true)))))))))))))))) λv3 =>
 jn (λs4:Bool×Bool =>
 br (decide (pr.on=1)) (jn (λs7:Bool =>
 br s7 (some false)
 (br (decide (pr.who=0)) (bnd (AO pr.filter) λy10 =>
 br y10 (some true)
 (br (decide (pr.who=1)) (some s4.1)
 (br (decide (pr.who=2)) (some s4.1)
 (some false))))
 (br (decide (pr.who=1)) (some s4.1)
 (br (decide (pr.who=2)) (some s4.1)
 (some false))))) λk8 =>
 br (!decide (pr.doF=1)) (br (!decide (pr.doF=2)) (br (!decide (pr.doF=3)) (k8 (!decide (pr.doF=4)))
 (k8 false))
 (k8 false))
 (k8 false))
 (br (decide (pr.on=8)) (br s4.2 (br (decide (pr.who=0)) (bnd (AO pr.filter) λy11 =>
 some y11)
 (some false))
 (some false))
 (br (decide (pr.on=3)) (br (decide (pr.doF=4)) (br (decide (0<=pr.who)) (br (decide (pr.who<=2)) (some s4.1)
 (some false))
 (some false))
 (br (decide (pr.doF=8)) (br (decide (0<=pr.who)) (br (decide (pr.who<=2)) (some s4.1)
 (some false))
 (some false))
 (some false)))
 (br (decide (pr.on=4)) (br s4.2 (br (decide (0<=pr.who)) (br (decide (pr.who<=2)) (some s4.1)
 (some false))
 (some false))
 (some false))
 (br (decide (pr.on=5)) (br s4.2 (br (decide (0<=pr.who)) (br (decide (pr.who<=2)) (some s4.1)
 (some false))
 (some false))
 (some false))
 (br (decide (pr.on=10)) (br s4.2 (br (decide (0<=pr.who)) (br (decide (pr.who<=2)) (some s4.1)
 (some false))
 (some false))
 (some false))
 (some false))))))) λk5 =>
 br (decide (pr.doF=3)) (k5 (v3,true))
 (br (decide (pr.doF=4)) (k5 (v3,true))
 (k5 (v3,(decide (pr.doF=8)))))))
def JM (s:oJ):Option Bool :=
 br (s.object==false) (jn (λs1:Bool =>
 some s1) λk2 =>
 br s.iY (lt (decide (s.filter.iI=0)&&(decide (s.filter.who=0)&&(decide (s.filter.self=0)&&(decide (s.filter.types=0)&&(decide (s.filter.iy=0)&&(decide (s.filter.iM=0)&&(decide (s.filter.gZ=0)&&(iP .eql s.filter.sub (bs [])&&(decide (s.filter.keys=0)&&(decide (s.filter.rE=0)&&(decide (s.filter.power.kind=0)&&(decide (s.filter.power.n=0)&&(decide (s.filter.ik.kind=0)&&(decide (s.filter.ik.n=0)&&(decide (s.filter.value.kind=0)&&(decide (s.filter.value.n=0)&&true)))))))))))))))) λv4 =>
 k2 v4)
 (k2 false))
 (bnd (AA s.filter) λy5 =>
 br y5 (br (decide (s.filter.iI=0)) (some true)
 (br (decide (s.filter.iI=3)) (some true)
 (some (decide (s.filter.iI=5)))))
 (some false))
def IA (l:List oJ)(s1:Int)(k2:Int->Option Bool):Option Bool :=
 br (decide (s1<(gK l))) (bnd (kQ l s1) λx4 =>
 bnd (JM x4) λy5 =>
 br (y5==false) (some false)
 (k2 (iL s1 1)))
 (some (decide ((gK l)<=4)))
def GR (l:List oJ):Option Bool :=
 iF (IA l) 0
def JO (op:Int):Option ByteArray :=
 jn (λs1:Bool =>
 br s1 (some (bs []))
 (bnd (CY 26 (Cc op 1)) λj4 =>
 bnd (([(bs [100,97,109,97,103,101]),(bs [100,101,115,116,114,111,121]),(bs [109,111,118,101]),(bs [100,114,97,119]),(bs [100,105,115,99,97,114,100]),(bs [103,97,105,110]),(bs [108,111,115,101]),(bs [116,97,112]),(bs [117,110,116,97,112]),(bs [112,117,116]),(bs [116,97,107,101]),(bs [99,114,101,97,116,101]),(bs [109,111,100]),(bs [109,97,110,97]),(bs [99,111,117,110,116,101,114]),(bs [99,111,112,121]),(bs [98,101,99,111,109,101]),(bs [115,97,99,114,105,102,105,99,101]),(bs [109,105,108,108]),(bs [115,99,114,121]),(bs [115,101,97,114,99,104]),(bs [115,104,105,101,108,100]),(bs [116,117,114,110]),(bs [119,105,110]),(bs [100,101,102,101,97,116]),(bs [118,101,110,111,109])])[j4]?) λx5 =>
 some x5)) λk2 =>
 br (decide (op<1)) (k2 true)
 (k2 (decide (26<op)))
def JP (op:Int):Option ByteArray :=
 br (decide (op=2)) (some (bs [114]))
 (br (decide (op=8)) (some (bs [114]))
 (br (decide (op=9)) (some (bs [114]))
 (br (decide (op=15)) (some (bs [114]))
 (br (decide (op=16)) (some (bs [114]))
 (br (decide (op=17)) (some (bs [114]))
 (br (decide (op=25)) (some (bs [114]))
 (br (decide (op=3)) (some (bs [114,122]))
 (br (decide (op=10)) (some (bs [114,107,97]))
 (br (decide (op=11)) (some (bs [114,107,97]))
 (br (decide (op=12)) (some (bs [114,99,97]))
 (br (decide (op=13)) (some (bs [114,109]))
 (br (decide (op=14)) (some (bs [112]))
 (br (decide (op=18)) (some (bs [114,97,102]))
 (br (decide (op=20)) (some (bs [97]))
 (br (decide (op=21)) (some (bs [102]))
 (br (decide (op=23)) (some (bs []))
 (br (decide (op=24)) (some (bs []))
 (some (bs [114,97])))))))))))))))))))
def JQ (field:Int)(y1:ByteArray)(s2:Int)(k3:Int->Option Bool):Option Bool :=
 br (decide (s2<(y1.size:Int))) (bnd (Je y1 s2) λx5 =>
 br (decide (x5=field)) (some true)
 (k3 (iL s2 1)))
 (some false)
def uD (op:Int)(field:Int):Option Bool :=
 bnd (JP op) λy1 =>
 iF (JQ field y1) 0
def yX (kind:Int):Option Bool :=
 br (decide (kind=3)) (some true)
 (some (decide (kind=8)))
def Tu (pr:Tf)(specs:Int):Option Bool :=
 jn (λs1:Int =>
 jn (λs4:Bool =>
 br s4 (some false)
 (jn (λs7:Unit =>
 br (decide (pr.kind=4)) (bnd (AA pr.filter) λy14 =>
 some y14)
 (lt (decide (pr.filter.iI=0)&&(decide (pr.filter.who=0)&&(decide (pr.filter.self=0)&&(decide (pr.filter.types=0)&&(decide (pr.filter.iy=0)&&(decide (pr.filter.iM=0)&&(decide (pr.filter.gZ=0)&&(iP .eql pr.filter.sub (bs [])&&(decide (pr.filter.keys=0)&&(decide (pr.filter.rE=0)&&(decide (pr.filter.power.kind=0)&&(decide (pr.filter.power.n=0)&&(decide (pr.filter.ik.kind=0)&&(decide (pr.filter.ik.n=0)&&(decide (pr.filter.value.kind=0)&&(decide (pr.filter.value.n=0)&&true)))))))))))))))) λv15 =>
 some v15)) λk8 =>
 bnd (yX pr.kind) λy10 =>
 br y10 (jn (λs11:Bool =>
 br s11 (some false)
 (k8 ())) λk12 =>
 br (decide (pr.n<1)) (k12 true)
 (k12 (decide (s1<pr.n))))
 (br (!decide (pr.n=0)) (some false)
 (k8 ())))) λk5 =>
 br (decide (pr.kind<1)) (k5 true)
 (k5 (decide (8<pr.kind)))) λk2 =>
 br (decide (4<specs)) (k2 4)
 (k2 specs)
def GU (kind:Int):Option ByteArray :=
 br (decide (kind=0)) (some (bs [112,108,117,115]))
 (br (decide (kind=1)) (some (bs [109,105,110,117,115]))
 (br (decide (kind=2)) (some (bs [99,104,97,114,103,101]))
 (some (bs []))))
def Tv (a:wC):Option Bool :=
 jn (λs1:wC =>
 br (decide (0<=a.kind)) (br (decide (a.kind<=7)) (lt (decide (s1.kind=a.kind)&&(decide (s1.n=0)&&(decide (s1.counter=0)&&(decide (s1.filter.iI=0)&&(decide (s1.filter.who=0)&&(decide (s1.filter.self=0)&&(decide (s1.filter.types=0)&&(decide (s1.filter.iy=0)&&(decide (s1.filter.iM=0)&&(decide (s1.filter.gZ=0)&&(iP .eql s1.filter.sub (bs [])&&(decide (s1.filter.keys=0)&&(decide (s1.filter.rE=0)&&(decide (s1.filter.power.kind=0)&&(decide (s1.filter.power.n=0)&&(decide (s1.filter.ik.kind=0)&&(decide (s1.filter.ik.n=0)&&(decide (s1.filter.value.kind=0)&&(decide (s1.filter.value.n=0)&&true))))))))))))))))))) λv12 =>
 some v12)
 (some false))
 (some false)) λk2 =>
 br (decide (a.kind=0)) (jn (λs4:Bool =>
 br s4 (some false)
 (k2 { a with n:=0 })) λk5 =>
 br (decide (a.n<0)) (k5 true)
 (k5 (decide (1000000<a.n))))
 (br (decide (a.kind=2)) (jn (λs7:Bool =>
 br s7 (some false)
 (k2 { a with n:=0,filter:=kD })) λk8 =>
 br (decide (a.n<1)) (k8 true)
 (br (decide (99<a.n)) (k8 true)
 (bnd (AA a.filter) λy10 =>
 k8 (y10==false))))
 (br (decide (a.kind=4)) (bnd (GU a.counter) λy11 =>
 br (iP .eql y11 (bs [])) (some false)
 (k2 { a with counter:=0 }))
 (k2 a)))
def JR (l:List jv):Option Bool :=
 bnd (tJ l) λy1 =>
 some (iP .neq y1 (bs []))
def JS (c:oQ)(s11:ByteArray×Int)(k12:(ByteArray×Int)->Option ByteArray)(s14:ByteArray×Int)(k15:(ByteArray×Int)->Option ByteArray):Option ByteArray :=
 jn (λs17:Bool =>
 br s17 (bnd (acn (bs [65,67,74,82,69]) s11.2 (iL s11.2 1)) λx21 =>
 bnd (rQ s14.1 x21) λx22 =>
 k15 (x22,(iL s14.2 1)))
 (k12 (s14.1,(iL s11.2 1)))) λk18 =>
 sel s11.2 5 λj20=>(match j20 with|0=>(k18 (decide (s14.2<c.color.a0)))  | 1=>(k18 (decide (s14.2<c.color.a1)))  | 2=>(k18 (decide (s14.2<c.color.a2)))  | 3=>(k18 (decide (s14.2<c.color.a3)))  | _=>(k18 (decide (s14.2<c.color.a4))) )
def Fa (c:oQ)(s11:ByteArray×Int)(k12:(ByteArray×Int)->Option ByteArray):Option ByteArray :=
 br (decide (s11.2<5)) (iF (JS c s11 k12) (s11.1,0))
 (br (iP .eql s11.1 (bs [])) (some (bs [48]))
 (some s11.1))
def Fb (c:oQ)(s2:ByteArray×Int)(k3:(ByteArray×Int)->Option ByteArray):Option ByteArray :=
 br (decide (s2.2<c.x)) (bnd (rQ s2.1 (bs [88])) λx5 =>
 k3 (x5,(iL s2.2 1)))
 (jn (λs6:ByteArray =>
 iF (Fa c) (s6,0)) λk7 =>
 br (!decide (c.generic=0)) (bnd (xe c.generic) λy9 =>
 bnd (rQ s2.1 y9) λx10 =>
 k7 x10)
 (k7 s2.1))
def JU (c:oQ):Option ByteArray :=
 bnd (MK c) λy1 =>
 br (y1==false) (some (bs []))
 (iF (Fb c) ((bs []),0))
def JV (p:Lj Int):Option oQ :=
 some (oQ.mk p.a0 0 (ZX.mk p.a1 p.a2 p.a3 p.a4 p.a5))
def yY (p:Lj Int):Option ByteArray :=
 bnd (JV p) λy1 =>
 bnd (JU y1) λy2 =>
 some y2
def Eg (op:Int)(f:jf):Option Bool :=
 jn (λs1:Int =>
 bnd (AA f) λy4 =>
 br y4 (some (decide (f.iI=s1)))
 (some false)) λk2 =>
 br (decide (op=21)) (k2 2)
 (k2 0)
def Tz (pe:iT)(specs:Int):Option Bool :=
 bnd (JO pe.op) λy1 =>
 br (iP .eql y1 (bs [])) (some false)
 (lt (decide (pe.ref.kind=0)&&(decide (pe.ref.n=0)&&(decide (pe.ref.filter.iI=0)&&(decide (pe.ref.filter.who=0)&&(decide (pe.ref.filter.self=0)&&(decide (pe.ref.filter.types=0)&&(decide (pe.ref.filter.iy=0)&&(decide (pe.ref.filter.iM=0)&&(decide (pe.ref.filter.gZ=0)&&(iP .eql pe.ref.filter.sub (bs [])&&(decide (pe.ref.filter.keys=0)&&(decide (pe.ref.filter.rE=0)&&(decide (pe.ref.filter.power.kind=0)&&(decide (pe.ref.filter.power.n=0)&&(decide (pe.ref.filter.ik.kind=0)&&(decide (pe.ref.filter.ik.n=0)&&(decide (pe.ref.filter.value.kind=0)&&(decide (pe.ref.filter.value.n=0)&&true)))))))))))))))))) λv2 =>
 jn (λs3:Bool =>
 jn (λs8:Bool =>
 jn (λs12:Bool =>
 jn (λs17:Bool =>
 lt (decide (pe.amount.kind=0)&&(decide (pe.amount.n=0)&&(decide (pe.amount.counter=0)&&(decide (pe.amount.filter.iI=0)&&(decide (pe.amount.filter.who=0)&&(decide (pe.amount.filter.self=0)&&(decide (pe.amount.filter.types=0)&&(decide (pe.amount.filter.iy=0)&&(decide (pe.amount.filter.iM=0)&&(decide (pe.amount.filter.gZ=0)&&(iP .eql pe.amount.filter.sub (bs [])&&(decide (pe.amount.filter.keys=0)&&(decide (pe.amount.filter.rE=0)&&(decide (pe.amount.filter.power.kind=0)&&(decide (pe.amount.filter.power.n=0)&&(decide (pe.amount.filter.ik.kind=0)&&(decide (pe.amount.filter.ik.n=0)&&(decide (pe.amount.filter.value.kind=0)&&(decide (pe.amount.filter.value.n=0)&&true))))))))))))))))))) λv22 =>
 jn (λs23:Bool =>
 jn (λs28:Bool =>
 lt (decide (pe.pool.a0=0)&&(decide (pe.pool.a1=0)&&(decide (pe.pool.a2=0)&&(decide (pe.pool.a3=0)&&(decide (pe.pool.a4=0)&&(decide (pe.pool.a5=0)&&true)))))) λv33 =>
 jn (λs34:Bool =>
 lt (decide (pe.filter.iI=0)&&(decide (pe.filter.who=0)&&(decide (pe.filter.self=0)&&(decide (pe.filter.types=0)&&(decide (pe.filter.iy=0)&&(decide (pe.filter.iM=0)&&(decide (pe.filter.gZ=0)&&(iP .eql pe.filter.sub (bs [])&&(decide (pe.filter.keys=0)&&(decide (pe.filter.rE=0)&&(decide (pe.filter.power.kind=0)&&(decide (pe.filter.power.n=0)&&(decide (pe.filter.ik.kind=0)&&(decide (pe.filter.ik.n=0)&&(decide (pe.filter.value.kind=0)&&(decide (pe.filter.value.n=0)&&true)))))))))))))))) λv39 =>
 jn (λs40:Bool =>
 br s3 (br s8 (br s12 (br s17 (br s23 (br s28 (br s34 (some s40)
 (some false))
 (some false))
 (some false))
 (some false))
 (some false))
 (some false))
 (some false)) λk41 =>
 bnd (uD pe.op 102) λy43 =>
 br y43 (bnd (Eg pe.op pe.filter) λy44 =>
 k41 y44)
 (k41 v39)) λk35 =>
 bnd (uD pe.op 112) λy37 =>
 br y37 (br (v33==false) (bnd (yY pe.pool) λy38 =>
 k35 (iP .neq y38 (bs [])))
 (k35 false))
 (k35 v33)) λk29 =>
 bnd (uD pe.op 109) λy31 =>
 br y31 (bnd (JR pe.jY) λy32 =>
 k29 y32)
 (k29 (decide ((gK pe.jY)=0)))) λk24 =>
 bnd (uD pe.op 97) λy26 =>
 br y26 (bnd (Tv pe.amount) λy27 =>
 k24 y27)
 (k24 v22)) λk18 =>
 bnd (uD pe.op 99) λy20 =>
 br y20 (bnd (MH pe.card) λy21 =>
 k18 y21)
 (k18 (iP .eql pe.card (bs [])))) λk13 =>
 br (decide (pe.counter=0)) (k13 true)
 (bnd (uD pe.op 107) λy15 =>
 br y15 (bnd (GU pe.counter) λy16 =>
 k13 (iP .neq y16 (bs [])))
 (k13 false))) λk9 =>
 br (decide (pe.iI=0)) (k9 true)
 (bnd (uD pe.op 122) λy11 =>
 br y11 (br (decide (0<pe.iI)) (k9 (decide (pe.iI<=4)))
 (k9 false))
 (k9 false))) λk4 =>
 bnd (uD pe.op 114) λy6 =>
 br y6 (bnd (Tu pe.ref specs) λy7 =>
 k4 y7)
 (k4 v2))
def Eh (l:List iT)(n:Int)(s1:Int)(k2:Int->Option Bool):Option Bool :=
 br (decide (s1<(gK l))) (bnd (kQ l s1) λx4 =>
 bnd (Tz x4 n) λy5 =>
 br (y5==false) (some false)
 (k2 (iL s1 1)))
 (br (decide (1<=(gK l))) (some (decide ((gK l)<=8)))
 (some false))
def BH (l:List iT)(n:Int):Option Bool :=
 iF (Eh l n) 0
def JW (a:GAbility):Option Bool :=
 jn (λs1:Bool =>
 br s1 (some false)
 (jn (λs4:Bool =>
 jn (λs7:Unit =>
 jn (λs19:Unit =>
 jn (λs27:Unit =>
 jn (λs35:Unit =>
 br s4 (jn (λs40:Bool =>
 some s40) λk41 =>
 bnd (GR a.specs) λy43 =>
 br y43 (bnd (BH a.kM (gK a.specs)) λy44 =>
 k41 y44)
 (k41 false))
 (br (decide ((gK a.specs)=0)) (some (decide ((gK a.kM)=0)))
 (some false))) λk36 =>
 br (decide (a.kind=5)) (bnd (Tt a.replace) λy38 =>
 br (y38==false) (some false)
 (k36 ()))
 (lt ((decide (a.replace.on=0)&&(decide (a.replace.who=0)&&(decide (a.replace.filter.iI=0)&&(decide (a.replace.filter.who=0)&&(decide (a.replace.filter.self=0)&&(decide (a.replace.filter.types=0)&&(decide (a.replace.filter.iy=0)&&(decide (a.replace.filter.iM=0)&&(decide (a.replace.filter.gZ=0)&&(iP .eql a.replace.filter.sub (bs [])&&(decide (a.replace.filter.keys=0)&&(decide (a.replace.filter.rE=0)&&(decide (a.replace.filter.power.kind=0)&&(decide (a.replace.filter.power.n=0)&&(decide (a.replace.filter.ik.kind=0)&&(decide (a.replace.filter.ik.n=0)&&(decide (a.replace.filter.value.kind=0)&&(decide (a.replace.filter.value.n=0)&&(decide (a.replace.doF=0)&&(decide (a.replace.n=0)&&(decide (a.replace.iI=0)&&(decide (a.replace.counter=0)&&true))))))))))))))))))))))==false) λv39 =>
 br v39 (some false)
 (k36 ()))) λk28 =>
 br (decide (a.kind=4)) (bnd (Tq a.gG) λy30 =>
 br (y30==false) (some false)
 (k28 ()))
 (jn (λs31:Bool =>
 br s31 (some false)
 (k28 ())) λk32 =>
 lt ((decide (a.gG.when=0)&&(decide (a.gG.who=0)&&(decide (a.gG.filter.iI=0)&&(decide (a.gG.filter.who=0)&&(decide (a.gG.filter.self=0)&&(decide (a.gG.filter.types=0)&&(decide (a.gG.filter.iy=0)&&(decide (a.gG.filter.iM=0)&&(decide (a.gG.filter.gZ=0)&&(iP .eql a.gG.filter.sub (bs [])&&(decide (a.gG.filter.keys=0)&&(decide (a.gG.filter.rE=0)&&(decide (a.gG.filter.power.kind=0)&&(decide (a.gG.filter.power.n=0)&&(decide (a.gG.filter.ik.kind=0)&&(decide (a.gG.filter.ik.n=0)&&(decide (a.gG.filter.value.kind=0)&&(decide (a.gG.filter.value.n=0)&&true))))))))))))))))))==false) λv34 =>
 br v34 (k32 true)
 (k32 a.may))) λk20 =>
 br (decide (a.kind=3)) (bnd (GI a.price) λy22 =>
 br (y22==false) (some false)
 (k20 ()))
 (jn (λs23:Bool =>
 br s23 (some false)
 (k20 ())) λk24 =>
 lt ((decide (a.price.lV.generic=0)&&(decide (a.price.lV.x=0)&&(decide (a.price.lV.color.a0=0)&&(decide (a.price.lV.color.a1=0)&&(decide (a.price.lV.color.a2=0)&&(decide (a.price.lV.color.a3=0)&&(decide (a.price.lV.color.a4=0)&&(a.price.rE==false&&(a.price.uN==false&&(decide (a.price.life=0)&&true))))))))))==false) λv26 =>
 br v26 (k24 true)
 (k24 a.slow))) λk8 =>
 br (decide (a.kind=1)) (jn (λs10:Bool =>
 br s10 (some false)
 (k8 ())) λk11 =>
 bnd (AA a.filter) λy13 =>
 br (y13==false) (k11 true)
 (br (!decide (a.filter.iI=0)) (k11 true)
 (bnd (tJ a.jY) λy14 =>
 k11 (iP .eql y14 (bs [])))))
 (jn (λs15:Bool =>
 br s15 (some false)
 (k8 ())) λk16 =>
 lt ((decide (a.filter.iI=0)&&(decide (a.filter.who=0)&&(decide (a.filter.self=0)&&(decide (a.filter.types=0)&&(decide (a.filter.iy=0)&&(decide (a.filter.iM=0)&&(decide (a.filter.gZ=0)&&(iP .eql a.filter.sub (bs [])&&(decide (a.filter.keys=0)&&(decide (a.filter.rE=0)&&(decide (a.filter.power.kind=0)&&(decide (a.filter.power.n=0)&&(decide (a.filter.ik.kind=0)&&(decide (a.filter.ik.n=0)&&(decide (a.filter.value.kind=0)&&(decide (a.filter.value.n=0)&&true))))))))))))))))==false) λv18 =>
 br v18 (k16 true)
 (k16 (decide (0<(gK a.jY)))))) λk5 =>
 br (decide (a.kind=2)) (k5 true)
 (br (decide (a.kind=3)) (k5 true)
 (k5 (decide (a.kind=4)))))) λk2 =>
 br (decide (a.kind<1)) (k2 true)
 (k2 (decide (5<a.kind)))
def uF (a:List jv)(b:List jv)(s1:Int)(k2:Int->Option Bool):Option Bool :=
 br (decide (s1<(gK a))) (bnd (kQ a s1) λx4 =>
 bnd (kQ b s1) λx5 =>
 lt ((decide (x4.kind=x5.kind)&&(decide (x4.n=x5.n)&&(decide (x4.m=x5.m)&&(iP .eql x4.sub x5.sub&&(decide (x4.filter.iI=x5.filter.iI)&&(decide (x4.filter.who=x5.filter.who)&&(decide (x4.filter.self=x5.filter.self)&&(decide (x4.filter.types=x5.filter.types)&&(decide (x4.filter.iy=x5.filter.iy)&&(decide (x4.filter.iM=x5.filter.iM)&&(decide (x4.filter.gZ=x5.filter.gZ)&&(iP .eql x4.filter.sub x5.filter.sub&&(decide (x4.filter.keys=x5.filter.keys)&&(decide (x4.filter.rE=x5.filter.rE)&&(decide (x4.filter.power.kind=x5.filter.power.kind)&&(decide (x4.filter.power.n=x5.filter.power.n)&&(decide (x4.filter.ik.kind=x5.filter.ik.kind)&&(decide (x4.filter.ik.n=x5.filter.ik.n)&&(decide (x4.filter.value.kind=x5.filter.value.kind)&&(decide (x4.filter.value.n=x5.filter.value.n)&&true))))))))))))))))))))==false) λv6 =>
 br v6 (some false)
 (k2 (iL s1 1)))
 (some true)
def qX (a:List jv)(b:List jv):Option Bool :=
 br (!decide ((gK a)=(gK b))) (some false)
 (iF (uF a b) 0)
def Ei (a:iT)(b:iT):Option Bool :=
 br (decide (a.op=b.op)) (lt (decide (a.ref.kind=b.ref.kind)&&(decide (a.ref.n=b.ref.n)&&(decide (a.ref.filter.iI=b.ref.filter.iI)&&(decide (a.ref.filter.who=b.ref.filter.who)&&(decide (a.ref.filter.self=b.ref.filter.self)&&(decide (a.ref.filter.types=b.ref.filter.types)&&(decide (a.ref.filter.iy=b.ref.filter.iy)&&(decide (a.ref.filter.iM=b.ref.filter.iM)&&(decide (a.ref.filter.gZ=b.ref.filter.gZ)&&(iP .eql a.ref.filter.sub b.ref.filter.sub&&(decide (a.ref.filter.keys=b.ref.filter.keys)&&(decide (a.ref.filter.rE=b.ref.filter.rE)&&(decide (a.ref.filter.power.kind=b.ref.filter.power.kind)&&(decide (a.ref.filter.power.n=b.ref.filter.power.n)&&(decide (a.ref.filter.ik.kind=b.ref.filter.ik.kind)&&(decide (a.ref.filter.ik.n=b.ref.filter.ik.n)&&(decide (a.ref.filter.value.kind=b.ref.filter.value.kind)&&(decide (a.ref.filter.value.n=b.ref.filter.value.n)&&true)))))))))))))))))) λv1 =>
 br v1 (lt (decide (a.amount.kind=b.amount.kind)&&(decide (a.amount.n=b.amount.n)&&(decide (a.amount.counter=b.amount.counter)&&(decide (a.amount.filter.iI=b.amount.filter.iI)&&(decide (a.amount.filter.who=b.amount.filter.who)&&(decide (a.amount.filter.self=b.amount.filter.self)&&(decide (a.amount.filter.types=b.amount.filter.types)&&(decide (a.amount.filter.iy=b.amount.filter.iy)&&(decide (a.amount.filter.iM=b.amount.filter.iM)&&(decide (a.amount.filter.gZ=b.amount.filter.gZ)&&(iP .eql a.amount.filter.sub b.amount.filter.sub&&(decide (a.amount.filter.keys=b.amount.filter.keys)&&(decide (a.amount.filter.rE=b.amount.filter.rE)&&(decide (a.amount.filter.power.kind=b.amount.filter.power.kind)&&(decide (a.amount.filter.power.n=b.amount.filter.power.n)&&(decide (a.amount.filter.ik.kind=b.amount.filter.ik.kind)&&(decide (a.amount.filter.ik.n=b.amount.filter.ik.n)&&(decide (a.amount.filter.value.kind=b.amount.filter.value.kind)&&(decide (a.amount.filter.value.n=b.amount.filter.value.n)&&true))))))))))))))))))) λv2 =>
 br v2 (br (decide (a.counter=b.counter)) (br (decide (a.iI=b.iI)) (br (iP .eql a.card b.card) (lt (decide (a.filter.iI=b.filter.iI)&&(decide (a.filter.who=b.filter.who)&&(decide (a.filter.self=b.filter.self)&&(decide (a.filter.types=b.filter.types)&&(decide (a.filter.iy=b.filter.iy)&&(decide (a.filter.iM=b.filter.iM)&&(decide (a.filter.gZ=b.filter.gZ)&&(iP .eql a.filter.sub b.filter.sub&&(decide (a.filter.keys=b.filter.keys)&&(decide (a.filter.rE=b.filter.rE)&&(decide (a.filter.power.kind=b.filter.power.kind)&&(decide (a.filter.power.n=b.filter.power.n)&&(decide (a.filter.ik.kind=b.filter.ik.kind)&&(decide (a.filter.ik.n=b.filter.ik.n)&&(decide (a.filter.value.kind=b.filter.value.kind)&&(decide (a.filter.value.n=b.filter.value.n)&&true)))))))))))))))) λv3 =>
 br v3 (lt (decide (a.pool.a0=b.pool.a0)&&(decide (a.pool.a1=b.pool.a1)&&(decide (a.pool.a2=b.pool.a2)&&(decide (a.pool.a3=b.pool.a3)&&(decide (a.pool.a4=b.pool.a4)&&(decide (a.pool.a5=b.pool.a5)&&true)))))) λv4 =>
 br v4 (bnd (qX a.jY b.jY) λy5 =>
 some y5)
 (some false))
 (some false))
 (some false))
 (some false))
 (some false))
 (some false))
 (some false))
 (some false)
def uG (a:List iT)(b:List iT)(s1:Int)(k2:Int->Option Bool):Option Bool :=
 br (decide (s1<(gK a))) (bnd (kQ a s1) λx4 =>
 bnd (kQ b s1) λx5 =>
 bnd (Ei x4 x5) λy6 =>
 br (y6==false) (some false)
 (k2 (iL s1 1)))
 (some true)
def tK (a:List iT)(b:List iT):Option Bool :=
 br (!decide ((gK a)=(gK b))) (some false)
 (iF (uG a b) 0)
def BI (a:GAbility)(b:GAbility)(s1:Int)(k2:Int->Option Bool):Option Bool :=
 br (decide (s1<(gK a.specs))) (bnd (kQ a.specs s1) λx4 =>
 bnd (kQ b.specs s1) λx5 =>
 lt ((x4.iY==x5.iY&&(x4.object==x5.object&&(decide (x4.filter.iI=x5.filter.iI)&&(decide (x4.filter.who=x5.filter.who)&&(decide (x4.filter.self=x5.filter.self)&&(decide (x4.filter.types=x5.filter.types)&&(decide (x4.filter.iy=x5.filter.iy)&&(decide (x4.filter.iM=x5.filter.iM)&&(decide (x4.filter.gZ=x5.filter.gZ)&&(iP .eql x4.filter.sub x5.filter.sub&&(decide (x4.filter.keys=x5.filter.keys)&&(decide (x4.filter.rE=x5.filter.rE)&&(decide (x4.filter.power.kind=x5.filter.power.kind)&&(decide (x4.filter.power.n=x5.filter.power.n)&&(decide (x4.filter.ik.kind=x5.filter.ik.kind)&&(decide (x4.filter.ik.n=x5.filter.ik.n)&&(decide (x4.filter.value.kind=x5.filter.value.kind)&&(decide (x4.filter.value.n=x5.filter.value.n)&&true))))))))))))))))))==false) λv6 =>
 br v6 (some false)
 (k2 (iL s1 1)))
 (br (decide (a.kind=b.kind)) (lt (decide (a.filter.iI=b.filter.iI)&&(decide (a.filter.who=b.filter.who)&&(decide (a.filter.self=b.filter.self)&&(decide (a.filter.types=b.filter.types)&&(decide (a.filter.iy=b.filter.iy)&&(decide (a.filter.iM=b.filter.iM)&&(decide (a.filter.gZ=b.filter.gZ)&&(iP .eql a.filter.sub b.filter.sub&&(decide (a.filter.keys=b.filter.keys)&&(decide (a.filter.rE=b.filter.rE)&&(decide (a.filter.power.kind=b.filter.power.kind)&&(decide (a.filter.power.n=b.filter.power.n)&&(decide (a.filter.ik.kind=b.filter.ik.kind)&&(decide (a.filter.ik.n=b.filter.ik.n)&&(decide (a.filter.value.kind=b.filter.value.kind)&&(decide (a.filter.value.n=b.filter.value.n)&&true)))))))))))))))) λv7 =>
 br v7 (bnd (qX a.jY b.jY) λy8 =>
 br y8 (lt (decide (a.price.lV.generic=b.price.lV.generic)&&(decide (a.price.lV.x=b.price.lV.x)&&(decide (a.price.lV.color.a0=b.price.lV.color.a0)&&(decide (a.price.lV.color.a1=b.price.lV.color.a1)&&(decide (a.price.lV.color.a2=b.price.lV.color.a2)&&(decide (a.price.lV.color.a3=b.price.lV.color.a3)&&(decide (a.price.lV.color.a4=b.price.lV.color.a4)&&(a.price.rE==b.price.rE&&(a.price.uN==b.price.uN&&(decide (a.price.life=b.price.life)&&true)))))))))) λv9 =>
 br v9 (br (a.slow==b.slow) (lt (decide (a.gG.when=b.gG.when)&&(decide (a.gG.who=b.gG.who)&&(decide (a.gG.filter.iI=b.gG.filter.iI)&&(decide (a.gG.filter.who=b.gG.filter.who)&&(decide (a.gG.filter.self=b.gG.filter.self)&&(decide (a.gG.filter.types=b.gG.filter.types)&&(decide (a.gG.filter.iy=b.gG.filter.iy)&&(decide (a.gG.filter.iM=b.gG.filter.iM)&&(decide (a.gG.filter.gZ=b.gG.filter.gZ)&&(iP .eql a.gG.filter.sub b.gG.filter.sub&&(decide (a.gG.filter.keys=b.gG.filter.keys)&&(decide (a.gG.filter.rE=b.gG.filter.rE)&&(decide (a.gG.filter.power.kind=b.gG.filter.power.kind)&&(decide (a.gG.filter.power.n=b.gG.filter.power.n)&&(decide (a.gG.filter.ik.kind=b.gG.filter.ik.kind)&&(decide (a.gG.filter.ik.n=b.gG.filter.ik.n)&&(decide (a.gG.filter.value.kind=b.gG.filter.value.kind)&&(decide (a.gG.filter.value.n=b.gG.filter.value.n)&&true)))))))))))))))))) λv10 =>
 br v10 (br (a.may==b.may) (bnd (tK a.kM b.kM) λy11 =>
 br y11 (lt (decide (a.replace.on=b.replace.on)&&(decide (a.replace.who=b.replace.who)&&(decide (a.replace.filter.iI=b.replace.filter.iI)&&(decide (a.replace.filter.who=b.replace.filter.who)&&(decide (a.replace.filter.self=b.replace.filter.self)&&(decide (a.replace.filter.types=b.replace.filter.types)&&(decide (a.replace.filter.iy=b.replace.filter.iy)&&(decide (a.replace.filter.iM=b.replace.filter.iM)&&(decide (a.replace.filter.gZ=b.replace.filter.gZ)&&(iP .eql a.replace.filter.sub b.replace.filter.sub&&(decide (a.replace.filter.keys=b.replace.filter.keys)&&(decide (a.replace.filter.rE=b.replace.filter.rE)&&(decide (a.replace.filter.power.kind=b.replace.filter.power.kind)&&(decide (a.replace.filter.power.n=b.replace.filter.power.n)&&(decide (a.replace.filter.ik.kind=b.replace.filter.ik.kind)&&(decide (a.replace.filter.ik.n=b.replace.filter.ik.n)&&(decide (a.replace.filter.value.kind=b.replace.filter.value.kind)&&(decide (a.replace.filter.value.n=b.replace.filter.value.n)&&(decide (a.replace.doF=b.replace.doF)&&(decide (a.replace.n=b.replace.n)&&(decide (a.replace.iI=b.replace.iI)&&(decide (a.replace.counter=b.replace.counter)&&true)))))))))))))))))))))) λv12 =>
 some v12)
 (some false))
 (some false))
 (some false))
 (some false))
 (some false))
 (some false))
 (some false))
 (some false))
def yZ (a:GAbility)(b:GAbility):Option Bool :=
 br (!decide ((gK a.specs)=(gK b.specs))) (some false)
 (iF (BI a b) 0)
def JX (s:GState)(x:uA):Option Bool :=
 jn (λs1:Bool =>
 br s1 (some false)
 (bnd (Au s x.id) λy7 =>
 br (decide (x.kind=1)) (bnd (yZ x.gz Dz) λy8 =>
 jn (λs9:Bool =>
 some s9) λk10 =>
 br (decide (x.source=x.id)) (br y7.2 (br (decide (y7.1.iI=5)) (br y8 (k10 true)
 (bnd (JW x.gz) λy12 =>
 k10 y12))
 (k10 false))
 (k10 false))
 (k10 false))
 (br (decide (x.kind=2)) (br (y7.2==false) (bnd (JW x.gz) λy13 =>
 some y13)
 (some false))
 (some false)))) λk2 =>
 bnd (uS x.id 1 (Cc s.nextId 1)) λy4 =>
 br (y4==false) (k2 true)
 (bnd (uS x.x 0 1000000) λy5 =>
 br (y5==false) (k2 true)
 (br (decide (4<(gK x.targets))) (k2 true)
 (bnd (qB s x.control) λy6 =>
 k2 (y6==false))))
def PT (l:List Int)(s1:Int)(k2:Int->Option Bool):Option Bool :=
 br (decide (s1<(gK l))) (bnd (kQ l (Cc s1 1)) λx4 =>
 bnd (kQ l s1) λx5 =>
 br (decide (x5<=x4)) (some false)
 (k2 (iL s1 1)))
 (some true)
def TA (l:List Int):Option Bool :=
 iF (PT l) 1
def IB (s:GState)(s4:Int)(k5:Int->Option Bool)(s9:Int)(k10:Int->Option Bool):Option Bool :=
 br (decide (s9<s4)) (bnd (kQ s.stack s9) λx12 =>
 bnd (kQ s.stack s4) λx13 =>
 br (decide (x12.id=x13.id)) (some false)
 (k10 (iL s9 1)))
 (k5 (iL s4 1))
def IC (s:GState)(s23:Int)(k24:Int->Option Bool):Option Bool :=
 br (decide (s23<(gK s.uB))) (bnd (kQ s.uB s23) λx26 =>
 jn (λs27:Bool =>
 br s27 (some false)
 (k24 (iL s23 1))) λk28 =>
 bnd (qB s x26.control) λy30 =>
 br (y30==false) (k28 true)
 (br (decide (s.sG<=x26.stamp)) (k28 true)
 (bnd (uS x26.Ti 1 2) λy31 =>
 br (y31==false) (k28 true)
 (bnd (TA x26.objects) λy32 =>
 br (y32==false) (k28 true)
 (bnd (tJ x26.jY) λy33 =>
 k28 (iP .eql y33 (bs [])))))))
 (some true)
def IE (s:GState)(s14:Int)(k15:Int->Option Bool):Option Bool :=
 br (decide (s14<(gK s.waiting))) (bnd (kQ s.waiting s14) λx17 =>
 jn (λs18:Bool =>
 br s18 (some false)
 (k15 (iL s14 1))) λk19 =>
 bnd (qB s x17.control) λy21 =>
 br (y21==false) (k19 true)
 (br (!decide (x17.gz.kind=4)) (k19 true)
 (bnd (JW x17.gz) λy22 =>
 k19 (y22==false))))
 (iF (IC s) 0)
def IG (s:GState)(s4:Int)(k5:Int->Option Bool):Option Bool :=
 br (decide (s4<(gK s.stack))) (bnd (kQ s.stack s4) λx7 =>
 bnd (JX s x7) λy8 =>
 br (y8==false) (some false)
 (iF (IB s s4 k5) 0))
 (iF (IE s) 0)
def GV (s:GState):Option Bool :=
 jn (λs1:Bool =>
 br s1 (some false)
 (iF (IG s) 0)) λk2 =>
 br (decide (64<(gK s.stack))) (k2 true)
 (br (decide (64<(gK s.waiting))) (k2 true)
 (k2 (decide (64<(gK s.uB)))))
def GX (cards:List GCard)(s:GState)(s16:Int)(k17:Int->Option Bool):Option Bool :=
 br (decide (s16<(gK s.extra))) (bnd (kQ s.extra s16) λx19 =>
 bnd (qB s x19) λy20 =>
 br (y20==false) (some false)
 (k17 (iL s16 1)))
 (jn (λs21:Bool =>
 br s21 (some false)
 (bnd (sV cards s) λy25 =>
 br y25 (bnd (GV s) λy26 =>
 some y26)
 (some false))) λk22 =>
 br (decide (s.over=1)) (bnd (qB s s.Iq) λy24 =>
 br (y24==false) (k22 true)
 (br (!decide (s.over=1)) (k22 (!decide (s.Iq=(-1))))
 (k22 false)))
 (br (!decide (s.over=1)) (k22 (!decide (s.Iq=(-1))))
 (k22 false)))
def AP (cards:List GCard)(s:GState):Option Bool :=
 jn (λs1:Bool =>
 br s1 (some false)
 (jn (λs8:Bool =>
 br s8 (some false)
 (iF (GX cards s) 0)) λk9 =>
 bnd (BG s) λy11 =>
 br (y11==false) (k9 true)
 (bnd (qB s s.Cf) λy12 =>
 br (y12==false) (k9 true)
 (bnd (qB s s.priority) λy13 =>
 br (y13==false) (k9 true)
 (bnd (uS s.passes 0 (gK s.jk)) λy14 =>
 br (y14==false) (k9 true)
 (br (decide (500<(gK s.extra))) (k9 true)
 (bnd (uS s.over 0 2) λy15 =>
 k9 (y15==false)))))))) λk2 =>
 bnd (uS s.nextId 1 1000000) λy4 =>
 br (y4==false) (k2 true)
 (bnd (uS s.sG 1 1000000) λy5 =>
 br (y5==false) (k2 true)
 (bnd (uS s.turn 0 500) λy6 =>
 br (y6==false) (k2 true)
 (bnd (uS s.step 0 10) λy7 =>
 br (y7==false) (k2 true)
 (k2 (decide (2048<(gK s.objects)))))))
def PU (l:wO)(s4:Int)(k5:Int->Option Bool):Option Bool :=
 br (decide (s4<(gK l.subs))) (jn (λs7:Bool =>
 br s7 (some false)
 (k5 (iL s4 1))) λk8 =>
 bnd (kQ l.subs s4) λx10 =>
 bnd (yw x10) λy11 =>
 br (y11==false) (k8 true)
 (br (decide (0<s4)) (bnd (kQ l.subs (Cc s4 1)) λx12 =>
 bnd (kQ l.subs s4) λx13 =>
 k8 (iP .geq x12 x13))
 (k8 false)))
 (br (decide (l.types=2)) (some true)
 (br (decide (l.types=4)) (some true)
 (bnd (Iz l.types 1) λy14 =>
 br (y14==false) (bnd (Iz l.types 2) λy15 =>
 some (y15==false))
 (some false))))
def FZ (l:wO):Option Bool :=
 jn (λs1:Bool =>
 br s1 (some false)
 (iF (PU l) 0)) λk2 =>
 br (decide (l.Gt<0)) (k2 true)
 (br (decide (3<l.Gt)) (k2 true)
 (br (decide (l.types<1)) (k2 true)
 (br (decide (63<l.types)) (k2 true)
 (k2 (decide (4<(gK l.subs)))))))
def zf (c:GCard):Option Bool :=
 some (!decide ((jS .and .i64 c.line.types 1)=0))
def JY (c:GCard):Option Bool :=
 br (decide (c.line.types=2)) (some true)
 (some (decide (c.line.types=4)))
def PW (c:GCard)(s12:Int×Int)(k13:(Int×Int)->Option Bool):Option Bool :=
 br (decide (s12.2<(gK c.abilities))) (jn (λs15:Int =>
 k13 (s15,(iL s12.2 1))) λk16 =>
 bnd (kQ c.abilities s12.2) λx18 =>
 bnd (JW x18) λy19 =>
 br (y19==false) (some false)
 (bnd (kQ c.abilities s12.2) λx20 =>
 br (decide (x20.kind=2)) (k16 (iL s12.1 1))
 (k16 s12.1)))
 (bnd (JY c) λy21 =>
 br y21 (jn (λs22:Bool =>
 some s22) λk23 =>
 br (c.token==false) (br (decide (c.keys=0)) (br (decide ((gK c.abilities)=1)) (k23 (decide (s12.1=1)))
 (k23 false))
 (k23 false))
 (k23 false))
 (br (decide (s12.1=0)) (br (c.token==false) (br (decide ((jS .and .i64 c.line.types 32)=0)) (some true)
 (lt (decide (c.cost.generic=0)&&(decide (c.cost.x=0)&&(decide (c.cost.color.a0=0)&&(decide (c.cost.color.a1=0)&&(decide (c.cost.color.a2=0)&&(decide (c.cost.color.a3=0)&&(decide (c.cost.color.a4=0)&&true))))))) λv25 =>
 some v25))
 (lt (decide (c.cost.generic=0)&&(decide (c.cost.x=0)&&(decide (c.cost.color.a0=0)&&(decide (c.cost.color.a1=0)&&(decide (c.cost.color.a2=0)&&(decide (c.cost.color.a3=0)&&(decide (c.cost.color.a4=0)&&true))))))) λv26 =>
 some v26))
 (some false)))
def JZ (c:GCard):Option Bool :=
 jn (λs1:Bool =>
 br s1 (some false)
 (jn (λs8:Bool =>
 br s8 (some false)
 (iF (PW c) (0,0))) λk9 =>
 br (decide (c.power<0)) (k9 true)
 (br (decide (99<c.power)) (k9 true)
 (br (decide (c.ik<0)) (k9 true)
 (br (decide (99<c.ik)) (k9 true)
 (bnd (zf c) λy11 =>
 br (y11==false) (br (!decide (c.power=0)) (k9 true)
 (br (!decide (c.ik=0)) (k9 true)
 (k9 (decide (8<(gK c.abilities))))))
 (k9 (decide (8<(gK c.abilities)))))))))) λk2 =>
 bnd (MH c.name) λy4 =>
 br (y4==false) (k2 true)
 (bnd (MK c.cost) λy5 =>
 br (y5==false) (k2 true)
 (bnd (FZ c.line) λy6 =>
 br (y6==false) (k2 true)
 (bnd (JH c.keys) λy7 =>
 br (y7==false) (k2 true)
 (br (decide (c.color<0)) (k2 true)
 (k2 (decide (31<c.color)))))))
def J3 (l:List GCard)(name:ByteArray)(s1:Int)(k2:Int->Option Int):Option Int :=
 br (decide (s1<(gK l))) (bnd (kQ l s1) λx4 =>
 br (iP .eql x4.name name) (some s1)
 (k2 (iL s1 1)))
 (some (-1))
def J4 (l:List GCard)(name:ByteArray):Option Int :=
 iF (J3 l name) 0
def II (l:List GCard)(name:ByteArray)(s1:Int)(k2:Int->Option Bool):Option Bool :=
 br (decide (s1<(gK l))) (jn (λs4:Bool =>
 br s4 (some true)
 (k2 (iL s1 1))) λk5 =>
 bnd (kQ l s1) λx7 =>
 br (iP .eql x7.name name) (bnd (kQ l s1) λx8 =>
 k5 x8.token)
 (k5 false))
 (some false)
def GY (l:List GCard)(name:ByteArray):Option Bool :=
 iF (II l name) 0
def zg (l:List GCard)(c:GCard)(s1:Int)(k2:Int->Option Bool)(s4:Int)(k5:Int->Option Bool):Option Bool :=
 bnd (kQ c.abilities s1) λx7 =>
 br (decide (s4<(gK x7.kM))) (bnd (kQ c.abilities s1) λx8 =>
 bnd (kQ x8.kM s4) λx9 =>
 jn (λs10:Bool =>
 br s10 (some false)
 (k5 (iL s4 1))) λk11 =>
 br (decide (x9.op=12)) (bnd (GY l x9.card) λy13 =>
 k11 (y13==false))
 (k11 false))
 (k2 (iL s1 1))
def zh (l:List GCard)(c:GCard)(s1:Int)(k2:Int->Option Bool):Option Bool :=
 br (decide (s1<(gK c.abilities))) (iF (zg l c s1 k2) 0)
 (some true)
def BJ (l:List GCard)(c:GCard):Option Bool :=
 iF (zh l c) 0
def Df (l:List GCard)(s1:Int)(k2:Int->Option (Int×Int)):Option (Int×Int) :=
 br (decide (s1<(gK l))) (bnd (kQ l s1) λx4 =>
 bnd (JZ x4) λy5 =>
 br (y5==false) (some (s1,9))
 (bnd (kQ l s1) λx6 =>
 bnd (J4 l x6.name) λy7 =>
 br (decide (y7<s1)) (some (s1,6))
 (bnd (kQ l s1) λx8 =>
 bnd (BJ l x8) λy9 =>
 br (y9==false) (some (s1,7))
 (k2 (iL s1 1)))))
 (some ((-1),0))
def GZ (l:List GCard):Option (Int×Int) :=
 br (decide (256<(gK l))) (some ((-1),5))
 (iF (Df l) 0)
def Fe (cards:List GCard)(s:GState):Option Bool :=
 bnd (GZ cards) λy1 =>
 br (decide (y1.2=0)) (bnd (AP cards s) λy2 =>
 some y2)
 (some false)
def tN (s:GState)(p:Int):Option Bool :=
 br (decide (0<=p)) (br (decide (p<(gK s.jk))) (bnd (kQ s.jk p) λx1 =>
 some (x1.lost==false))
 (some false))
 (some false)
def l7 (n:Int):Option Bool :=
 br (decide (1<=n)) (some (decide (n<=1000000)))
 (some false)
def ML (s:GState)(id:Int)(iI:Int):Option Bool :=
 bnd (uC s id) λy1 =>
 br y1.2 (some (decide (y1.1.iI=iI)))
 (some false)
def IJ (cards:List GCard)(s:GState)(pe:GEvent):Option Bool :=
 bnd (uC s pe.object) λy1 =>
 jn (λs2:Bool =>
 bnd (tN s pe.iY) λy5 =>
 br (decide (pe.kind=1)) (bnd (l7 pe.amount) λy6 =>
 br y6 (br s2 (some true)
 (br (decide (pe.object=0)) (some y5)
 (some false)))
 (some false))
 (br (decide (pe.kind=2)) (br y1.2 (br (decide (pe.Ad=y1.1.iI)) (br (!decide (pe.to=pe.Ad)) (br (decide (0<=pe.to)) (br (decide (pe.to<=4)) (br (decide (0<=pe.iY)) (some (decide (pe.iY<(gK s.jk))))
 (some false))
 (some false))
 (some false))
 (some false))
 (some false))
 (some false))
 (br (decide (pe.kind=3)) (some y5)
 (br (decide (pe.kind=14)) (some y5)
 (br (decide (pe.kind=15)) (some y5)
 (br (decide (pe.kind=17)) (some y5)
 (br (decide (pe.kind=4)) (br y5 (bnd (l7 pe.amount) λy7 =>
 some y7)
 (some false))
 (br (decide (pe.kind=5)) (br y5 (bnd (l7 pe.amount) λy8 =>
 some y8)
 (some false))
 (br (decide (pe.kind=16)) (br y5 (bnd (l7 pe.amount) λy9 =>
 some y9)
 (some false))
 (br (decide (pe.kind=6)) (br s2 (some (y1.1.lQ==false))
 (some false))
 (br (decide (pe.kind=7)) (br s2 (some y1.1.lQ)
 (some false))
 (br (decide (pe.kind=8)) (br s2 (br (decide (0<=pe.counter)) (br (decide (pe.counter<3)) (bnd (l7 pe.amount) λy10 =>
 some y10)
 (some false))
 (some false))
 (some false))
 (br (decide (pe.kind=9)) (br s2 (br (decide (0<=pe.counter)) (br (decide (pe.counter<3)) (bnd (l7 pe.amount) λy11 =>
 some y11)
 (some false))
 (some false))
 (some false))
 (br (decide (pe.kind=10)) (br y5 (br (decide (0<=pe.card)) (br (decide (pe.card<(gK cards))) (bnd (kQ cards pe.card) λx12 =>
 br x12.token (bnd (l7 pe.amount) λy13 =>
 some y13)
 (some false))
 (some false))
 (some false))
 (some false))
 (br (decide (pe.kind=11)) (br y1.2 (br (decide (y1.1.iI=5)) (some y5)
 (some false))
 (some false))
 (br (decide (pe.kind=12)) (br s2 (some y5)
 (some false))
 (br (decide (pe.kind=13)) (br s2 (bnd (ML s pe.source 0) λy14 =>
 some y14)
 (some false))
 (some false)))))))))))))))))) λk3 =>
 br y1.2 (k3 (decide (y1.1.iI=0)))
 (k3 false)
def J5:Option Bool:=some true
def Ej (l:List Int):Option (List Int) :=
 lZ l.length 8 (
 some l)
def IK (answers:List (List Int))(s1:Int×(List (List Int)))(k2:(Int×(List (List Int)))->Option kV):Option kV :=
 br (decide (s1.1<(gK answers))) (bnd (kQ answers s1.1) λx4 =>
 bnd (Ej x4) λy5 =>
 lZ (s1.2.length+([y5]).length) 24 (
 k2 ((iL s1.1 1),(s1.2++[y5]))))
 (some (kV.mk s1.2 0 Gu false false))
def Ob (answers:List (List Int)):Option kV :=
 iF (IK answers) (0,[])
def zi (s:List GOption)(v:GOption)(s1:Int)(k2:Int->Option Int):Option Int :=
 br (decide (s1<(gK s))) (bnd (kQ s s1) λx4 =>
 lt (decide (v.kind=x4.kind)&&(decide (v.a=x4.a)&&(decide (v.b=x4.b)&&true))) λv5 =>
 br v5 (some s1)
 (k2 (iL s1 1)))
 (some (-1))
def wP (s:List GOption)(v:GOption):Option Int :=
 iF (zi s v) 0
def tV (s:List GOption)(v:GOption):Option Bool :=
 bnd (wP s v) λy1 =>
 some (decide (0<=y1))
def vU (o:GOption)(c1:List GOption):Option Bool :=
 bnd (tV c1 o) λy1 =>
 some y1
def vV (s:List GOption)(f:GOption->Option Bool)(s1:Int)(k2:Int->Option Int):Option Int :=
 br (decide (s1<(gK s))) (bnd (kQ s s1) λx4 =>
 bnd (f x4) λy5 =>
 br y5 (some s1)
 (k2 (iL s1 1)))
 (some (-1))
def sH (s:List GOption)(f:GOption->Option Bool):Option Int :=
 iF (vV s f) 0
def uY (del:GOption->Option Bool)(s2:Int×Int×(List GOption))(k3:(Int×Int×(List GOption))->Option (List GOption)):Option (List GOption) :=
 br (decide (s2.2.1<(gK s2.2.2))) (jn (λs5:Int×(List GOption) =>
 k3 (s5.1,(iL s2.2.1 1),s5.2)) λk6 =>
 bnd (CY s2.2.2.length s2.2.1) λj8 =>
 bnd (s2.2.2[j8]?) λx9 =>
 bnd (del x9) λy10 =>
 br (y10==false) (bnd (CY s2.2.2.length s2.1) λj11 =>
 bnd (s2.2.2[j11]?) λx12 =>
 k6 ((iL s2.1 1),(s2.2.2.set j11 x9)))
 (k6 (s2.1,s2.2.2)))
 (bnd (Wu s2.2.2.length s2.1 ((s2.2.2.length:Nat):Int)) λx13 =>
 lt Yo λx14 =>
 bnd (Wu s2.2.2.length 0 s2.1) λx15 =>
 some (VH (Zi s2.2.2 (0+x13.1) (List.replicate (x13.2-x13.1) x14)) (0+x15.1) (x15.2-x15.1)))
def rH (s:List GOption)(del:GOption->Option Bool):Option (List GOption) :=
 bnd (sH s del) λy1 =>
 br (decide (y1=(-1))) (some s)
 (iF (uY del) (y1,(iL y1 1),s))
def Dh (o:GObject)(c1:Int):Option Bool :=
 some (decide (o.id=c1))
def qC (s:List GObject)(f:GObject->Option Bool)(s1:Int)(k2:Int->Option Int):Option Int :=
 br (decide (s1<(gK s))) (bnd (kQ s s1) λx4 =>
 bnd (f x4) λy5 =>
 br y5 (some s1)
 (k2 (iL s1 1)))
 (some (-1))
def kz (s:List GObject)(f:GObject->Option Bool):Option Int :=
 iF (qC s f) 0
def Em (s:GState)(id:Int):Option Int :=
 bnd (kz s.objects (λa0=>Dh a0 id)) λy1 =>
 some y1
def yx (s:GState)(id:Int):Option (GObject×Bool) :=
 bnd (Em s id) λy1 =>
 br (decide (y1<0)) (some (N9,false))
 (bnd (kQ s.objects y1) λx2 =>
 some (x2,true))
def mX (s:GState)(id:Int):Option (GObject×Bool) :=
 bnd (yx s id) λy1 =>
 br y1.2 (some (y1.1,(decide (y1.1.iI=0))))
 (some (y1.1,false))
def kS (s:GState)(p:Int):Option Bool :=
 br (decide (0<=p)) (br (decide (p<(gK s.jk))) (bnd (kQ s.jk p) λx1 =>
 some (x1.lost==false))
 (some false))
 (some false)
def qc (pe:GEvent):Option Bool :=
 br (decide (1<=pe.amount)) (some (decide (pe.amount<=1000000)))
 (some false)
def Ff (s:GState)(pe:GEvent):Option Bool :=
 bnd (qc pe) λy1 =>
 br (y1==false) (some false)
 (br (decide (pe.object=0)) (bnd (kS s pe.iY) λy2 =>
 some y2)
 (bnd (mX s pe.object) λy3 =>
 some y3.2))
def Fg (s:GState)(pe:GEvent):Option Bool :=
 bnd (yx s pe.object) λy1 =>
 br y1.2 (br (decide (y1.1.iI=pe.Ad)) (br (!decide (pe.to=pe.Ad)) (br (decide (0<=pe.to)) (br (decide (pe.to<=4)) (br (decide (0<=pe.iY)) (some (decide (pe.iY<(gK s.jk))))
 (some false))
 (some false))
 (some false))
 (some false))
 (some false))
 (some false)
def zl (s:GState)(pe:GEvent):Option Bool :=
 bnd (mX s pe.object) λy1 =>
 br y1.2 (br (decide (0<=pe.counter)) (br (decide (pe.counter<3)) (bnd (qc pe) λy2 =>
 some y2)
 (some false))
 (some false))
 (some false)
def Bh (cards:List GCard)(s:GState)(pe:GEvent):Option Bool :=
 bnd (kS s pe.iY) λy1 =>
 br y1 (br (decide (0<=pe.card)) (br (decide (pe.card<(gK cards))) (bnd (kQ cards pe.card) λx2 =>
 br x2.token (bnd (qc pe) λy3 =>
 some y3)
 (some false))
 (some false))
 (some false))
 (some false)
def zn (cards:List GCard)(s:GState)(pe:GEvent):Option Bool :=
 bnd (mX s pe.object) λy1 =>
 br (decide (pe.kind=1)) (bnd (Ff s pe) λy2 =>
 some y2)
 (br (decide (pe.kind=2)) (bnd (Fg s pe) λy3 =>
 some y3)
 (br (decide (pe.kind=3)) (bnd (kS s pe.iY) λy4 =>
 some y4)
 (br (decide (pe.kind=14)) (bnd (kS s pe.iY) λy5 =>
 some y5)
 (br (decide (pe.kind=15)) (bnd (kS s pe.iY) λy6 =>
 some y6)
 (br (decide (pe.kind=17)) (bnd (kS s pe.iY) λy7 =>
 some y7)
 (br (decide (pe.kind=4)) (bnd (kS s pe.iY) λy8 =>
 br y8 (bnd (qc pe) λy9 =>
 some y9)
 (some false))
 (br (decide (pe.kind=5)) (bnd (kS s pe.iY) λy10 =>
 br y10 (bnd (qc pe) λy11 =>
 some y11)
 (some false))
 (br (decide (pe.kind=16)) (bnd (kS s pe.iY) λy12 =>
 br y12 (bnd (qc pe) λy13 =>
 some y13)
 (some false))
 (br (decide (pe.kind=6)) (br y1.2 (some (y1.1.lQ==false))
 (some false))
 (br (decide (pe.kind=7)) (br y1.2 (some y1.1.lQ)
 (some false))
 (br (decide (pe.kind=8)) (bnd (zl s pe) λy14 =>
 some y14)
 (br (decide (pe.kind=9)) (bnd (zl s pe) λy15 =>
 some y15)
 (br (decide (pe.kind=10)) (bnd (Bh cards s pe) λy16 =>
 some y16)
 (br (decide (pe.kind=11)) (bnd (yx s pe.object) λy17 =>
 br y17.2 (br (decide (y17.1.iI=5)) (bnd (kS s pe.iY) λy18 =>
 some y18)
 (some false))
 (some false))
 (br (decide (pe.kind=12)) (br y1.2 (bnd (kS s pe.iY) λy19 =>
 some y19)
 (some false))
 (br (decide (pe.kind=13)) (bnd (mX s pe.source) λy20 =>
 br y1.2 (some y20.2)
 (some false))
 (some false)))))))))))))))))
def zo (o:GObject)(c1:Int):Option Bool :=
 some (decide (o.id=c1))
def tX (s:GState)(all:List GTraits)(id:Int):Option (GObject×GTraits×Bool) :=
 bnd (kz s.objects (λa0=>zo a0 id)) λy1 =>
 br (decide (y1<0)) (some (N9,BF,false))
 (br (decide ((gK all)<=y1)) (bnd (kQ s.objects y1) λx2 =>
 some (x2,BF,true))
 (bnd (kQ s.objects y1) λx3 =>
 bnd (kQ all y1) λx4 =>
 some (x3,x4,true)))
def MM (c:oQ)(s1:Int)(k2:Int->Option Bool):Option Bool :=
 br (decide (s1<5)) (jn (λs4:Int =>
 jn (λs8:Bool =>
 br s8 (some false)
 (k2 (iL s1 1))) λk9 =>
 br (decide (s4<0)) (k9 true)
 (k9 (decide (9<s4)))) λk5 =>
 sel s1 5 λj7=>(match j7 with|0=>(k5 c.color.a0)  | 1=>(k5 c.color.a1)  | 2=>(k5 c.color.a2)  | 3=>(k5 c.color.a3)  | _=>(k5 c.color.a4) ))
 (br (decide (0<=c.generic)) (br (decide (c.generic<=99)) (br (decide (0<=c.x)) (some (decide (c.x<=2)))
 (some false))
 (some false))
 (some false))
def KX (c:oQ):Option Bool :=
 iF (MM c) 0
def En (c:oQ)(s6:Int×Int)(k7:(Int×Int)->Option Int):Option Int :=
 br (decide (s6.2<5)) (jn (λs9:Int =>
 k7 (s9,(iL s6.2 1))) λk10 =>
 jn (λs12:Int =>
 br (decide (0<s12)) (bnd (SV .shl .i64 1 s6.2) λx16 =>
 k10 (jS .or .i64 s6.1 x16))
 (k10 s6.1)) λk13 =>
 sel s6.2 5 λj15=>(match j15 with|0=>(k13 c.color.a0)  | 1=>(k13 c.color.a1)  | 2=>(k13 c.color.a2)  | 3=>(k13 c.color.a3)  | _=>(k13 c.color.a4) ))
 (some s6.1)
def BK (c:oQ):Option Int :=
 jn (λs1:Bool =>
 br s1 (some 0)
 (iF (En c) (0,0))) λk2 =>
 bnd (KX c) λy4 =>
 br (y4==false) (k2 true)
 (lt (decide (c.color.a0=0)&&(decide (c.color.a1=0)&&(decide (c.color.a2=0)&&(decide (c.color.a3=0)&&(decide (c.color.a4=0)&&true))))) λv5 =>
 k2 v5)
def slices_Clone_string (s:List ByteArray):Option (List ByteArray) :=
 nlO (some ([]))
 (lZ (0+s.length) 16 (
 some s))
def jL (s:List jv):Option (List jv) :=
 nlO (some ([]))
 (lZ (0+s.length) 176 (
 some s))
def mY (s:List oJ):Option (List oJ) :=
 nlO (some ([]))
 (lZ (0+s.length) 144 (
 some s))
def rV (s:List iT):Option (List iT) :=
 nlO (some ([]))
 (lZ (0+s.length) 560 (
 some s))
def rW (a:GAbility)(y1:List jv)(y2:List oJ)(y3:List iT)(s4:Int×(List iT))(k5:(Int×(List iT))->Option GAbility):Option GAbility :=
 br (decide (s4.1<(gK y3))) (bnd (CY s4.2.length s4.1) λj7 =>
 bnd (s4.2[j7]?) λx8 =>
 bnd (jL x8.jY) λy9 =>
 bnd (CY s4.2.length s4.1) λj10 =>
 bnd (s4.2[j10]?) λx11 =>
 k5 ((iL s4.1 1),(s4.2.set j10 { x11 with jY:=y9 })))
 (some { a with jY:=y1,specs:=y2,kM:=s4.2 })
def sJ (a:GAbility):Option GAbility :=
 bnd (jL a.jY) λy1 =>
 bnd (mY a.specs) λy2 =>
 bnd (rV a.kM) λy3 =>
 iF (rW a y1 y2 y3) (0,y3)
def xA (c:GCard)(y1:Int)(y2:List ByteArray)(s3:Int×(List GAbility))(k4:(Int×(List GAbility))->Option GTraits):Option GTraits :=
 br (decide (s3.1<(gK c.abilities))) (bnd (kQ c.abilities s3.1) λx6 =>
 bnd (sJ x6) λy7 =>
 lZ (s3.2.length+([y7]).length) 640 (
 k4 ((iL s3.1 1),(s3.2++[y7]))))
 (some (GTraits.mk c.name c.cost (jS .or .i64 y1 c.color) { c.line with subs:=y2 } c.power c.ik c.keys s3.2 0))
def zq (c:GCard):Option GTraits :=
 bnd (BK c.cost) λy1 =>
 bnd (slices_Clone_string c.line.subs) λy2 =>
 iF (xA c y1 y2) (0,[])
def IL (cards:List GCard)(o:GObject):Option GTraits :=
 jn (λs1:Int =>
 jn (λs4:GTraits =>
 br (decide (o.iI=0)) (some { s4 with control:=o.control })
 (br (decide (o.iI=5)) (some { s4 with control:=o.control })
 (some { s4 with control:=o.owner }))) λk5 =>
 jn (λs7:Bool =>
 br s7 (bnd (kQ cards s1) λx10 =>
 bnd (zq x10) λy11 =>
 k5 y11)
 (k5 BF)) λk8 =>
 br (decide (0<=s1)) (k8 (decide (s1<(gK cards))))
 (k8 false)) λk2 =>
 br (decide (o.copy<0)) (k2 o.card)
 (k2 o.copy)
def wH (cards:List GCard)(s:GState)(pe:GEvent):Option (GObject×GTraits×Bool) :=
 bnd (yx s pe.object) λy1 =>
 bnd (IL cards y1.1) λy2 =>
 some ({ y1.1 with control:=pe.iY,iI:=0 },{ y2 with control:=pe.iY },y1.2)
def sW (mask:Int)(key:Int):Option Bool :=
 some (decide ((jS .and .i64 mask key)=key))
def strings_Contains (s:ByteArray)(substr:ByteArray):Option Bool:=agh s substr
def MN (x8:List Int)(s9:Int)(k10:Int->Option Bool):Option Bool :=
 br (decide (s9<(gK x8))) (bnd (kQ x8 s9) λx12 =>
 jn (λs13:Bool =>
 br s13 (some false)
 (k10 (iL s9 1))) λk14 =>
 br (decide (x12<97)) (br (decide (x12<48)) (k14 (!decide (x12=45)))
 (br (decide (57<x12)) (k14 (!decide (x12=45)))
 (k14 false)))
 (br (decide (122<x12)) (br (decide (x12<48)) (k14 (!decide (x12=45)))
 (br (decide (57<x12)) (k14 (!decide (x12=45)))
 (k14 false)))
 (k14 false)))
 (some true)
def Og (s:ByteArray):Option Bool :=
 jn (λs1:Bool =>
 br s1 (some false)
 (lt (Wv s) λx8 =>
 iF (MN x8) 0)) λk2 =>
 br (decide ((s.size:Int)=0)) (k2 true)
 (br (decide (32<(s.size:Int))) (k2 true)
 (bnd (Je s 0) λx4 =>
 br (decide (x4<97)) (k2 true)
 (bnd (Je s 0) λx5 =>
 br (decide (122<x5)) (k2 true)
 (bnd (Je s (Cc (s.size:Int) 1)) λx6 =>
 br (decide (x6=45)) (k2 true)
 (bnd (strings_Contains s (bs [45,45])) λy7 =>
 k2 y7)))))
def qE (i:Int):Option ByteArray :=
 sel i 2 λj1=>(match j1 with|0=>(some (bs [98,97,115,105,99]))  | _=>(some (bs [117,110,105,113,117,101])) )
def Fh (s:ByteArray)(n:Int)(name:Int->Option ByteArray)(s1:Int)(k2:Int->Option Int):Option Int :=
 br (decide (s1<n)) (bnd (name s1) λy4 =>
 br (iP .neq y4 s) (k2 (iL s1 1))
 (bnd (SV .shl .i64 1 s1) λx5 =>
 some x5))
 (some 0)
def BL (s:ByteArray)(n:Int)(name:Int->Option ByteArray):Option Int :=
 iF (Fh s n name) 0
def rJ (i:Int):Option ByteArray :=
 sel i 6 λj1=>(match j1 with|0=>(some (bs [99,114,101,97,116,117,114,101]))  | 1=>(some (bs [105,110,115,116,97,110,116]))  | 2=>(some (bs [114,105,116,117,97,108]))  | 3=>(some (bs [114,101,108,105,99]))  | 4=>(some (bs [99,104,97,114,109]))  | _=>(some (bs [108,97,110,100])) )
def vW (s:ByteArray):Option Bool :=
 bnd (Og s) λy1 =>
 br y1 (bnd (BL s 2 qE) λy2 =>
 br (decide (y2=0)) (bnd (BL s 6 rJ) λy3 =>
 some (decide (y3=0)))
 (some false))
 (some false)
def jG (n:Int)(most:Int):Option Bool :=
 br (decide (0<=n)) (some (decide (n<=most)))
 (some false)
def qF (b:qx):Option Bool :=
 bnd (jG b.kind 3) λy1 =>
 br y1 (bnd (jG b.n 1000000) λy2 =>
 br y2 (br (!decide (b.kind=0)) (some true)
 (some (decide (b.n=0))))
 (some false))
 (some false)
def DI (f:jf):Option Bool :=
 jn (λs1:Bool =>
 br s1 (some false)
 (jn (λs9:Bool =>
 br s9 (some false)
 (jn (λs14:Bool =>
 br s14 (some false)
 (jn (λs19:Bool =>
 br s19 (some false)
 (bnd (qF f.power) λy23 =>
 br y23 (bnd (qF f.ik) λy24 =>
 br y24 (bnd (qF f.value) λy25 =>
 some y25)
 (some false))
 (some false))) λk20 =>
 br (iP .neq f.sub (bs [])) (bnd (vW f.sub) λy22 =>
 k20 (y22==false))
 (k20 false))) λk15 =>
 bnd (jG f.iM 31) λy17 =>
 br (y17==false) (k15 true)
 (bnd (jG f.gZ 31) λy18 =>
 br (y18==false) (k15 true)
 (k15 (!decide ((jS .and .i64 f.iM f.gZ)=0)))))) λk10 =>
 bnd (jG f.types 63) λy12 =>
 br (y12==false) (k10 true)
 (bnd (jG f.iy 63) λy13 =>
 br (y13==false) (k10 true)
 (k10 (!decide ((jS .and .i64 f.types f.iy)=0)))))) λk2 =>
 bnd (jG f.iI 5) λy4 =>
 br (y4==false) (k2 true)
 (bnd (jG f.who 2) λy5 =>
 br (y5==false) (k2 true)
 (bnd (jG f.self 2) λy6 =>
 br (y6==false) (k2 true)
 (bnd (jG f.rE 2) λy7 =>
 br (y7==false) (k2 true)
 (bnd (jG f.keys 131071) λy8 =>
 k2 (y8==false)))))
def kK (phave:Int)(psome:Int)(pnone:Int):Option Bool :=
 br (decide (psome=0)) (some (decide ((jS .and .i64 phave pnone)=0)))
 (br (!decide ((jS .and .i64 phave psome)=0)) (some (decide ((jS .and .i64 phave pnone)=0)))
 (some false))
def DJ (b:qx)(n:Int):Option Bool :=
 br (decide (b.kind=0)) (some true)
 (br (decide (b.kind=1)) (some (decide (b.n<=n)))
 (br (decide (b.kind=2)) (some (decide (n<=b.n)))
 (br (decide (b.kind=3)) (some (decide (n=b.n)))
 (some false))))
def sK (b:qx)(n:Int)(c2:Bool):Option Bool :=
 br (decide (b.kind=0)) (some true)
 (br c2 (bnd (DJ b n) λy1 =>
 some y1)
 (some false))
def tY (s:List ByteArray)(v:ByteArray)(s1:Int)(k2:Int->Option Int):Option Int :=
 br (decide (s1<(gK s))) (bnd (kQ s s1) λx4 =>
 br (iP .eql v x4) (some s1)
 (k2 (iL s1 1)))
 (some (-1))
def slices_Index_string (s:List ByteArray)(v:ByteArray):Option Int :=
 iF (tY s v) 0
def slices_Contains_string (s:List ByteArray)(v:ByteArray):Option Bool :=
 bnd (slices_Index_string s v) λy1 =>
 some (decide (0<=y1))
def qY (l:wO)(sub:ByteArray):Option Bool :=
 bnd (slices_Contains_string l.subs sub) λy1 =>
 some y1
def oq (n:Int):Option Int :=
 some (if 1000000<(if n<(-1000000) then (-1000000) else n) then 1000000 else (if n<(-1000000) then (-1000000) else n))
def Oh (a:Int)(b:Int):Option Int :=
 bnd (oq a) λy1 =>
 bnd (oq b) λy2 =>
 bnd (oq (ajI y1 y2)) λy3 =>
 some y3
def Di (a:Int)(b:Int):Option Int :=
 bnd (oq a) λy1 =>
 bnd (oq b) λy2 =>
 bnd (oq (iL y1 y2)) λy3 =>
 some y3
def F5 (c:oQ)(x:Int)(s2:Int×Int)(k3:(Int×Int)->Option Int):Option Int :=
 br (decide (s2.2<5)) (jn (λs5:Int =>
 k3 ((iL s2.1 s5),(iL s2.2 1))) λk6 =>
 sel s2.2 5 λj8=>(match j8 with|0=>(k6 c.color.a0)  | 1=>(k6 c.color.a1)  | 2=>(k6 c.color.a2)  | 3=>(k6 c.color.a3)  | _=>(k6 c.color.a4) ))
 (bnd (Oh c.x (if 0<x then x else 0)) λy9 =>
 bnd (Di s2.1 y9) λy10 =>
 some y10)
def Eo (c:oQ)(x:Int):Option Int :=
 bnd (KX c) λy1 =>
 br (y1==false) (some 0)
 (iF (F5 c x) (c.generic,0))
def lI (o:GObject)(t:GTraits)(you:Int)(source:Int)(f:jf):Option Bool :=
 jn (λs1:Bool =>
 br s1 (some false)
 (jn (λs5:Unit =>
 bnd (sK f.power t.power (!decide ((jS .and .i64 t.line.types 1)=0))) λy57 =>
 br y57 (bnd (sK f.ik t.ik (!decide ((jS .and .i64 t.line.types 1)=0))) λy58 =>
 br y58 (bnd (Eo t.cost 0) λy59 =>
 bnd (DJ f.value y59) λy60 =>
 some y60)
 (some false))
 (some false)) λk6 =>
 jn (λs8:Bool =>
 br s8 (some false)
 (br (decide (f.who=2)) (br (decide (t.control=you)) (some false)
 (jn (λs11:Bool =>
 br s11 (some false)
 (br (decide (f.self=2)) (br (decide (o.id=source)) (some false)
 (bnd (kK t.line.types f.types f.iy) λy14 =>
 br (y14==false) (some false)
 (bnd (kK t.iM f.iM f.gZ) λy15 =>
 br (y15==false) (some false)
 (jn (λs16:Bool =>
 br s16 (some false)
 (bnd (sW t.keys f.keys) λy20 =>
 br (y20==false) (some false)
 (jn (λs21:Bool =>
 br s21 (some false)
 (br (decide (f.rE=2)) (br o.lQ (some false)
 (k6 ()))
 (k6 ()))) λk22 =>
 br (decide (f.rE=1)) (k22 (o.lQ==false))
 (k22 false)))) λk17 =>
 br (iP .neq f.sub (bs [])) (bnd (qY t.line f.sub) λy19 =>
 k17 (y19==false))
 (k17 false)))))
 (bnd (kK t.line.types f.types f.iy) λy24 =>
 br (y24==false) (some false)
 (bnd (kK t.iM f.iM f.gZ) λy25 =>
 br (y25==false) (some false)
 (jn (λs26:Bool =>
 br s26 (some false)
 (bnd (sW t.keys f.keys) λy30 =>
 br (y30==false) (some false)
 (jn (λs31:Bool =>
 br s31 (some false)
 (br (decide (f.rE=2)) (br o.lQ (some false)
 (k6 ()))
 (k6 ()))) λk32 =>
 br (decide (f.rE=1)) (k32 (o.lQ==false))
 (k32 false)))) λk27 =>
 br (iP .neq f.sub (bs [])) (bnd (qY t.line f.sub) λy29 =>
 k27 (y29==false))
 (k27 false)))))) λk12 =>
 br (decide (f.self=1)) (k12 (!decide (o.id=source)))
 (k12 false)))
 (jn (λs34:Bool =>
 br s34 (some false)
 (br (decide (f.self=2)) (br (decide (o.id=source)) (some false)
 (bnd (kK t.line.types f.types f.iy) λy37 =>
 br (y37==false) (some false)
 (bnd (kK t.iM f.iM f.gZ) λy38 =>
 br (y38==false) (some false)
 (jn (λs39:Bool =>
 br s39 (some false)
 (bnd (sW t.keys f.keys) λy43 =>
 br (y43==false) (some false)
 (jn (λs44:Bool =>
 br s44 (some false)
 (br (decide (f.rE=2)) (br o.lQ (some false)
 (k6 ()))
 (k6 ()))) λk45 =>
 br (decide (f.rE=1)) (k45 (o.lQ==false))
 (k45 false)))) λk40 =>
 br (iP .neq f.sub (bs [])) (bnd (qY t.line f.sub) λy42 =>
 k40 (y42==false))
 (k40 false)))))
 (bnd (kK t.line.types f.types f.iy) λy47 =>
 br (y47==false) (some false)
 (bnd (kK t.iM f.iM f.gZ) λy48 =>
 br (y48==false) (some false)
 (jn (λs49:Bool =>
 br s49 (some false)
 (bnd (sW t.keys f.keys) λy53 =>
 br (y53==false) (some false)
 (jn (λs54:Bool =>
 br s54 (some false)
 (br (decide (f.rE=2)) (br o.lQ (some false)
 (k6 ()))
 (k6 ()))) λk55 =>
 br (decide (f.rE=1)) (k55 (o.lQ==false))
 (k55 false)))) λk50 =>
 br (iP .neq f.sub (bs [])) (bnd (qY t.line f.sub) λy52 =>
 k50 (y52==false))
 (k50 false)))))) λk35 =>
 br (decide (f.self=1)) (k35 (!decide (o.id=source)))
 (k35 false)))) λk9 =>
 br (decide (f.who=1)) (k9 (!decide (t.control=you)))
 (k9 false))) λk2 =>
 bnd (DI f) λy4 =>
 br (y4==false) (k2 true)
 (k2 (!decide (o.iI=f.iI)))
def oV (o:GObject)(t:GTraits)(ok:Bool)(c3:Int)(c4:Int)(c5:lu):Option Bool :=
 br ok (bnd (lI o t c3 c4 c5.filter) λy1 =>
 some y1)
 (some false)
def IM (s:GState)(p:Int)(you:Int)(who:Int):Option Bool :=
 jn (λs1:Bool =>
 br s1 (some false)
 (br (decide (who=0)) (some true)
 (br (decide (who=1)) (some (decide (p=you)))
 (br (decide (who=2)) (some (!decide (p=you)))
 (some false))))) λk2 =>
 br (decide (p<0)) (k2 true)
 (br (decide ((gK s.jk)<=p)) (k2 true)
 (bnd (kQ s.jk p) λx4 =>
 k2 x4.lost))
def ny (c0:GState)(c1:GEvent)(c2:Int)(c3:lu):Option Bool :=
 bnd (IM c0 c1.iY c2 c3.who) λy1 =>
 some y1
def uH (cards:List GCard)(s:GState)(all:List GTraits)(pe:GEvent)(pr:lu)(you:Int)(source:Int):Option Bool :=
 br (!decide (pr.on=pe.kind)) (some false)
 (br (decide (pe.kind=1)) (br (decide (pr.who=0)) (jn (λs1:Bool =>
 some s1) λk2 =>
 br (!decide (pe.object=0)) (bnd (tX s all pe.object) λy4 =>
 bnd (oV y4.1 y4.2.1 y4.2.2 you source pr) λy5 =>
 k2 y5)
 (k2 false))
 (br (decide (pe.object=0)) (bnd (ny s pe you pr) λy6 =>
 some y6)
 (some false)))
 (br (decide (pe.kind=2)) (br (decide (pr.doF=5)) (jn (λs7:Bool =>
 some s7) λk8 =>
 br (decide (pe.Ad=0)) (br (decide (pe.to=3)) (bnd (tX s all pe.object) λy10 =>
 bnd (oV y10.1 y10.2.1 y10.2.2 you source pr) λy11 =>
 k8 y11)
 (k8 false))
 (k8 false))
 (br (decide (pe.to=0)) (bnd (wH cards s pe) λy12 =>
 bnd (oV y12.1 y12.2.1 y12.2.2 you source pr) λy13 =>
 some y13)
 (some false)))
 (br (decide (pe.kind=8)) (bnd (tX s all pe.object) λy14 =>
 bnd (oV y14.1 y14.2.1 y14.2.2 you source pr) λy15 =>
 some y15)
 (br (decide (pe.kind=3)) (bnd (ny s pe you pr) λy16 =>
 some y16)
 (br (decide (pe.kind=4)) (bnd (ny s pe you pr) λy17 =>
 some y17)
 (br (decide (pe.kind=5)) (bnd (ny s pe you pr) λy18 =>
 some y18)
 (br (decide (pe.kind=10)) (bnd (ny s pe you pr) λy19 =>
 some y19)
 (some false))))))))
def replace_options_l1 (cards:List GCard)(s:GState)(all:List GTraits)(pe:GEvent)(s10:Int×(List GOption))(k11:(Int×(List GOption))->Option (List GOption))(x13:GObject)(y14:GObject×GTraits×Bool)(s15:Int×(List GOption))(k16:(Int×(List GOption))->Option (List GOption)):Option (List GOption) :=
 br (decide (s15.1<(gK y14.2.1.abilities))) (jn (λs18:(List GOption) =>
 k16 ((iL s15.1 1),s18)) λk19 =>
 bnd (kQ y14.2.1.abilities s15.1) λx21 =>
 jn (λs22:Bool =>
 br s22 (lt (GOption.mk 12 x13.id s15.1) λx26 =>
 lZ (s15.2.length+([x26]).length) 24 (
 k19 (s15.2++[x26])))
 (k19 s15.2)) λk23 =>
 br (decide (x13.iI=0)) (br (decide (x21.kind=5)) (bnd (uH cards s all pe x21.replace y14.2.1.control x13.id) λy25 =>
 k23 y25)
 (k23 false))
 (k23 false))
 (k11 ((iL s10.1 1),s15.2))
def replace_options_l2 (cards:List GCard)(s:GState)(all:List GTraits)(pe:GEvent)(y30:GObject×GTraits×Bool)(s31:Int×(List GOption))(k32:(Int×(List GOption))->Option (List GOption)):Option (List GOption) :=
 br (decide (s31.1<(gK y30.2.1.abilities))) (jn (λs34:(List GOption) =>
 k32 ((iL s31.1 1),s34)) λk35 =>
 bnd (kQ y30.2.1.abilities s31.1) λx37 =>
 jn (λs38:Bool =>
 br s38 (lt (GOption.mk 12 y30.1.id s31.1) λx43 =>
 lZ (s31.2.length+([x43]).length) 24 (
 k35 (s31.2++[x43])))
 (k35 s31.2)) λk39 =>
 br (decide (x37.kind=5)) (br (decide (x37.replace.doF=6)) (br (decide (x37.replace.filter.self=1)) (bnd (uH cards s all pe x37.replace pe.iY y30.1.id) λy41 =>
 k39 y41)
 (k39 false))
 (br (decide (x37.replace.doF=7)) (br (decide (x37.replace.filter.self=1)) (bnd (uH cards s all pe x37.replace pe.iY y30.1.id) λy42 =>
 k39 y42)
 (k39 false))
 (k39 false)))
 (k39 false))
 (some s31.2)
def replace_options_l3 (cards:List GCard)(s:GState)(all:List GTraits)(pe:GEvent)(s10:Int×(List GOption))(k11:(Int×(List GOption))->Option (List GOption)):Option (List GOption) :=
 br (decide (s10.1<(gK s.objects))) (bnd (kQ s.objects s10.1) λx13 =>
 bnd (tX s all x13.id) λy14 =>
 iF (replace_options_l1 cards s all pe s10 k11 x13 y14) (0,s10.2))
 (jn (λs27:Bool =>
 br s27 (some s10.2)
 (bnd (wH cards s pe) λy30 =>
 iF (replace_options_l2 cards s all pe y30) (0,s10.2))) λk28 =>
 br (!decide (pe.kind=2)) (k28 true)
 (k28 (!decide (pe.to=0))))
def replace_options (cards:List GCard)(s:GState)(all:List GTraits)(pe:GEvent):Option (List GOption) :=
 bnd (zn cards s pe) λy1 =>
 br (y1==false) (some ([]))
 (jn (λs2:(List GOption) =>
 iF (replace_options_l3 cards s all pe) (0,s2)) λk3 =>
 bnd (tX s all pe.object) λy5 =>
 jn (λs6:Bool =>
 br s6 (lt (GOption.mk 12 y5.1.id (-1)) λx9 =>
 lZ (([x9]).length) 24 (
 k3 ([x9])))
 (k3 ([]))) λk7 =>
 br y5.2.2 (br (decide (pe.kind=1)) (br (!decide (pe.object=0)) (k7 (decide (0<y5.1.yP)))
 (k7 false))
 (k7 false))
 (k7 false))
def Dj (cards:List GCard)(s:GState)(all:List GTraits)(pe:GEvent)(used:List GOption):Option (List GOption) :=
 bnd (replace_options cards s all pe) λy1 =>
 bnd (rH y1 (λa0=>vU a0 used)) λy2 =>
 some y2
def nT (c0:List GCard)(c1:GState)(c2:List GTraits)(c3:GEvent)(c4:List GOption)(c5:Bool):Option (List GOption) :=
 bnd (Dj c0 c1 c2 c3 c4) λy1 =>
 br c5 (some y1)
 (none)
def slices_Clone_int (s:List Int):Option (List Int) :=
 nlO (some ([]))
 (lZ (0+s.length) 8 (
 some s))
def xB (k5:(List iD)->Option (List iD))(x7:GObject)(y8:GTraits)(s9:Int×(List iD))(k10:(Int×(List iD))->Option (List iD)):Option (List iD) :=
 br (decide (s9.1<(gK y8.abilities))) (jn (λs12:(List iD) =>
 k10 ((iL s9.1 1),s12)) λk13 =>
 bnd (kQ y8.abilities s9.1) λx15 =>
 br (decide (x15.kind=1)) (bnd (jL x15.jY) λy16 =>
 lt (iD.mk x7.id s9.1 x7.control x7.stamp false ([]) x15.filter y16) λx17 =>
 lZ (s9.2.length+([x17]).length) 224 (
 k13 (s9.2++[x17])))
 (k13 s9.2))
 (k5 s9.2)
def xC (s:GState)(s18:Int×(List iD))(k19:(Int×(List iD))->Option (List iD)):Option (List iD) :=
 br (decide (s18.1<(gK s.uB))) (bnd (kQ s.uB s18.1) λx21 =>
 bnd (slices_Clone_int x21.objects) λy22 =>
 bnd (jL x21.jY) λy23 =>
 lt (iD.mk x21.source (-1) x21.control x21.stamp true y22 kD y23) λx24 =>
 lZ (s18.2.length+([x24]).length) 224 (
 k19 ((iL s18.1 1),(s18.2++[x24]))))
 (some s18.2)
def xE (cards:List GCard)(s:GState)(s1:Int×(List iD))(k2:(Int×(List iD))->Option (List iD)):Option (List iD) :=
 br (decide (s1.1<(gK s.objects))) (jn (λs4:(List iD) =>
 k2 ((iL s1.1 1),s4)) λk5 =>
 bnd (kQ s.objects s1.1) λx7 =>
 br (!decide (x7.iI=0)) (k5 s1.2)
 (bnd (IL cards x7) λy8 =>
 iF (xB k5 x7 y8) (0,s1.2)))
 (iF (xC s) (0,s1.2))
def zt (cards:List GCard)(s:GState):Option (List iD) :=
 iF (xE cards s) (0,[])
def zu (cards:List GCard)(s:GState)(y1:List iD)(s4:Int×(List GTraits)×(List Bool))(k5:(Int×(List GTraits)×(List Bool))->Option gI):Option gI :=
 br (decide (s4.1<(gK s.objects))) (bnd (kQ s.objects s4.1) λx7 =>
 bnd (IL cards x7) λy8 =>
 lZ (s4.2.1.length+([y8]).length) 176 (
 k5 ((iL s4.1 1),(s4.2.1++[y8]),s4.2.2)))
 (bnd (NW (gK y1) (gK y1) 1) λj9 =>
 lt false λx10 =>
 bnd (NW (gK y1) (gK y1) 24) λj11 =>
 lt ([]) λx12 =>
 some (gI.mk s y1 s4.2.1 s4.2.2 (List.replicate j9 x10) (List.replicate j11 x12)))
def BM (cards:List GCard)(s:GState):Option gI :=
 bnd (zt cards s) λy1 =>
 bnd (NW (gK s.objects) (gK s.objects) 1) λj2 =>
 lt false λx3 =>
 iF (zu cards s y1) (0,[],(List.replicate j2 x3))
def pR (k:Int)(c1:Int):Option Bool :=
 some (decide (k=c1))
def mG (s:List Int)(f:Int->Option Bool)(s1:Int)(k2:Int->Option Int):Option Int :=
 br (decide (s1<(gK s))) (bnd (kQ s s1) λx4 =>
 bnd (f x4) λy5 =>
 br y5 (some s1)
 (k2 (iL s1 1)))
 (some (-1))
def kE (s:List Int)(f:Int->Option Bool):Option Int :=
 iF (mG s f) 0
def rM (del:Int->Option Bool)(s2:Int×Int×(List Int))(k3:(Int×Int×(List Int))->Option (List Int)):Option (List Int) :=
 br (decide (s2.2.1<(gK s2.2.2))) (jn (λs5:Int×(List Int) =>
 k3 (s5.1,(iL s2.2.1 1),s5.2)) λk6 =>
 bnd (CY s2.2.2.length s2.2.1) λj8 =>
 bnd (s2.2.2[j8]?) λx9 =>
 bnd (del x9) λy10 =>
 br (y10==false) (bnd (CY s2.2.2.length s2.1) λj11 =>
 bnd (s2.2.2[j11]?) λx12 =>
 k6 ((iL s2.1 1),(s2.2.2.set j11 x9)))
 (k6 (s2.1,s2.2.2)))
 (bnd (Wu s2.2.2.length s2.1 ((s2.2.2.length:Nat):Int)) λx13 =>
 lt 0 λx14 =>
 bnd (Wu s2.2.2.length 0 s2.1) λx15 =>
 some (VH (Zi s2.2.2 (0+x13.1) (List.replicate (x13.2-x13.1) x14)) (0+x15.1) (x15.2-x15.1)))
def nU (s:List Int)(del:Int->Option Bool):Option (List Int) :=
 bnd (kE s del) λy1 =>
 br (decide (y1=(-1))) (some s)
 (iF (rM del) (y1,(iL y1 1),s))
def Oi (a:Int)(b:Int):Option Int :=
 bnd (oq a) λy1 =>
 bnd (oq b) λy2 =>
 bnd (oq (Cc y1 y2)) λy3 =>
 some y3
def xh (c:NY Int):Option Int :=
 bnd (Oi c.a0 c.a1) λy1 =>
 some y1
def oW (w:gI)(s1:Int×(List GTraits))(k2:(Int×(List GTraits))->Option gI):Option gI :=
 br (decide (s1.1<(gK w.s.objects))) (jn (λs4:(List GTraits) =>
 k2 ((iL s1.1 1),s4)) λk5 =>
 bnd (kQ w.s.objects s1.1) λx7 =>
 bnd (CY s1.2.length s1.1) λj8 =>
 jn (λs9:Bool =>
 br s9 (bnd (xh x7.counters) λy13 =>
 bnd (s1.2[j8]?) λx14 =>
 bnd (Di x14.power y13) λy15 =>
 bnd (s1.2[j8]?) λx16 =>
 bnd (Di x16.ik y13) λy17 =>
 bnd (s1.2[j8]?) λx18 =>
 bnd ((s1.2.set j8 { x18 with power:=y15 })[j8]?) λx19 =>
 k5 ((s1.2.set j8 { x18 with power:=y15 }).set j8 { x19 with ik:=y17 }))
 (k5 s1.2)) λk10 =>
 br (decide (x7.iI=0)) (bnd (s1.2[j8]?) λx12 =>
 k10 (!decide ((jS .and .i64 x12.line.types 1)=0)))
 (k10 false))
 (some (gI.mk w.s w.forces s1.2 w.dropped w.done w.hits))
def oK (w:gI):Option gI :=
 iF (oW w) (0,w.gX)
def wI (kind:Int):Option Int :=
 br (decide (kind=1)) (some 1)
 (br (decide (kind=2)) (some 2)
 (br (decide (kind=3)) (some 2)
 (br (decide (kind=4)) (some 2)
 (br (decide (kind=5)) (some 2)
 (br (decide (kind=6)) (some 3)
 (br (decide (kind=7)) (some 3)
 (br (decide (kind=8)) (some 4)
 (br (decide (kind=9)) (some 4)
 (br (decide (kind=10)) (some 4)
 (br (decide (kind=11)) (some (Cc (iL 5 kind) 11))
 (br (decide (kind=12)) (some (Cc (iL 5 kind) 11))
 (br (decide (kind=13)) (some (Cc (iL 5 kind) 11))
 (br (decide (kind=14)) (some (Cc (iL 5 kind) 11))
 (some 0))))))))))))))
def qQ (m:jv)(c1:Int):Option Bool :=
 bnd (wI m.kind) λy1 =>
 some (decide (y1=c1))
def oZ (s:List jv)(f:jv->Option Bool)(s1:Int)(k2:Int->Option Int):Option Int :=
 br (decide (s1<(gK s))) (bnd (kQ s s1) λx4 =>
 bnd (f x4) λy5 =>
 br y5 (some s1)
 (k2 (iL s1 1)))
 (some (-1))
def qZ (s:List jv)(f:jv->Option Bool):Option Int :=
 iF (oZ s f) 0
def pg (s:List jv)(f:jv->Option Bool):Option Bool :=
 bnd (qZ s f) λy1 =>
 some (decide (0<=y1))
def xk (f:iD)(stage:Int):Option Bool :=
 bnd (pg f.jY (λa0=>qQ a0 stage)) λy1 =>
 some y1
def uP (needs:List (List Bool))(i:Int)(j:Int):Option Bool :=
 br (decide (0<=i)) (br (decide (0<=j)) (br (decide (i<(gK needs))) (bnd (kQ needs i) λx1 =>
 br (decide (j<(gK x1))) (bnd (kQ needs i) λx2 =>
 bnd (kQ x2 j) λx3 =>
 some x3)
 (some false))
 (some false))
 (some false))
 (some false)
def rX (s:List Int)(v:Int)(s1:Int)(k2:Int->Option Int):Option Int :=
 br (decide (s1<(gK s))) (bnd (kQ s s1) λx4 =>
 br (decide (v=x4)) (some s1)
 (k2 (iL s1 1)))
 (some (-1))
def slices_Index_int (s:List Int)(v:Int):Option Int :=
 iF (rX s v) 0
def oL (i:Int)(j:Int)(c2:List Int)(c3:List (List Bool)):Option Bool :=
 bnd (slices_Index_int c2 i) λy1 =>
 bnd (slices_Index_int c2 j) λy2 =>
 br (decide (0<=y1)) (br (decide (0<=y2)) (bnd (kQ c3 y1) λx3 =>
 bnd (kQ x3 y2) λx4 =>
 some x4)
 (some false))
 (some false)
def sN (j:Int)(c1:Int)(c2:List (List Bool))(c3:Int->Int->Option Bool):Option Bool :=
 br (!decide (j=c1)) (bnd (uP c2 c1 j) λy1 =>
 br y1 (bnd (c3 j c1) λy2 =>
 some (y2==false))
 (some false))
 (some false)
def mJ (s:List Int)(f:Int->Option Bool):Option Bool :=
 bnd (kE s f) λy1 =>
 some (decide (0<=y1))
def slices_Contains_int (s:List Int)(v:Int):Option Bool :=
 bnd (slices_Index_int s v) λy1 =>
 some (decide (0<=y1))
def tZ (left:List Int)(s1:Int×(List Int))(k2:(Int×(List Int))->Option (List Int)):Option (List Int) :=
 br (decide (s1.1<(gK left))) (jn (λs4:(List Int) =>
 k2 ((iL s1.1 1),s4)) λk5 =>
 bnd (kQ left s1.1) λx7 =>
 jn (λs8:Bool =>
 br s8 (lZ (s1.2.length+([x7]).length) 8 (
 k5 (s1.2++[x7])))
 (k5 s1.2)) λk9 =>
 br (decide (0<=x7)) (bnd (slices_Contains_int s1.2 x7) λy11 =>
 k9 (y11==false))
 (k9 false))
 (some s1.2)
def uI (left:List Int):Option (List Int) :=
 iF (tZ left) (0,[])
def xG (l:List Int)(needs:List (List Bool))(s2:Int×(List (List Bool)))(k3:(Int×(List (List Bool)))->Option ((List Int)×(List (List Bool))))(s11:Int×(List (List Bool)))(k12:(Int×(List (List Bool)))->Option ((List Int)×(List (List Bool)))):Option ((List Int)×(List (List Bool))) :=
 br (decide (s11.1<(gK l))) (bnd (CY s11.2.length s2.1) λj14 =>
 bnd (s11.2[j14]?) λx15 =>
 bnd (kQ l s2.1) λx16 =>
 bnd (kQ l s11.1) λx17 =>
 bnd (uP needs x16 x17) λy18 =>
 bnd (CY x15.length s11.1) λj19 =>
 bnd (s11.2[j14]?) λx20 =>
 bnd (x20[j19]?) λx21 =>
 k12 ((iL s11.1 1),(s11.2.set j14 (x20.set j19 y18))))
 (k3 ((iL s2.1 1),s11.2))
def xH (l:List Int)(s22:Int×(List (List Bool)))(s25:Int×(List (List Bool)))(k26:(Int×(List (List Bool)))->Option ((List Int)×(List (List Bool))))(s28:Int×(List (List Bool)))(k29:(Int×(List (List Bool)))->Option ((List Int)×(List (List Bool)))):Option ((List Int)×(List (List Bool))) :=
 br (decide (s28.1<(gK l))) (jn (λs31:(List (List Bool)) =>
 k29 ((iL s28.1 1),s31)) λk32 =>
 jn (λs34:Bool =>
 br s34 (bnd (CY s28.2.length s25.1) λj47 =>
 bnd (s28.2[j47]?) λx48 =>
 bnd (CY x48.length s28.1) λj49 =>
 lt true λx50 =>
 bnd (s28.2[j47]?) λx51 =>
 bnd (x51[j49]?) λx52 =>
 k32 (s28.2.set j47 (x51.set j49 x50)))
 (k32 s28.2)) λk35 =>
 bnd (CY s28.2.length s25.1) λj37 =>
 bnd (s28.2[j37]?) λx38 =>
 bnd (CY x38.length s22.1) λj39 =>
 bnd (s28.2[j37]?) λx40 =>
 bnd (x40[j39]?) λx41 =>
 br x41 (bnd (CY s28.2.length s22.1) λj42 =>
 bnd (s28.2[j42]?) λx43 =>
 bnd (CY x43.length s28.1) λj44 =>
 bnd (s28.2[j42]?) λx45 =>
 bnd (x45[j44]?) λx46 =>
 k35 x46)
 (k35 false))
 (k26 ((iL s25.1 1),s28.2))
def xI (l:List Int)(s22:Int×(List (List Bool)))(k23:(Int×(List (List Bool)))->Option ((List Int)×(List (List Bool))))(s25:Int×(List (List Bool)))(k26:(Int×(List (List Bool)))->Option ((List Int)×(List (List Bool)))):Option ((List Int)×(List (List Bool))) :=
 br (decide (s25.1<(gK l))) (iF (xH l s22 s25 k26) (0,s25.2))
 (k23 ((iL s22.1 1),s25.2))
def xJ (l:List Int)(s22:Int×(List (List Bool)))(k23:(Int×(List (List Bool)))->Option ((List Int)×(List (List Bool)))):Option ((List Int)×(List (List Bool))) :=
 br (decide (s22.1<(gK l))) (iF (xI l s22 k23) (0,s22.2))
 (some (l,s22.2))
def xK (l:List Int)(needs:List (List Bool))(j1:Nat)(s2:Int×(List (List Bool)))(k3:(Int×(List (List Bool)))->Option ((List Int)×(List (List Bool)))):Option ((List Int)×(List (List Bool))) :=
 lt (decide (s2.1<(gK (List.replicate j1 ([]:List Bool))))) λv5 =>
 br v5 (bnd (NW (gK l) (gK l) 1) λj6 =>
 lt false λx7 =>
 bnd (CY s2.2.length s2.1) λj8 =>
 bnd (s2.2[j8]?) λx10 =>
 iF (xG l needs s2 k3) (0,(s2.2.set j8 (List.replicate j6 x7))))
 (iF (xJ l) (0,s2.2))
def zy (l:List Int)(needs:List (List Bool)):Option ((List Int)×(List (List Bool))) :=
 bnd (NW (gK l) (gK l) 24) λj1 =>
 iF (xK l needs j1) (0,(List.replicate j1 ([]:List Bool)))
def xM (needs:List (List Bool))(y1:List Int)(y2:(List Int)×(List (List Bool)))(s3:Int×(List Int))(k4:(Int×(List Int))->Option (List Int)):Option (List Int) :=
 br (decide (s3.1<(gK y1))) (jn (λs6:(List Int) =>
 k4 ((iL s3.1 1),s6)) λk7 =>
 bnd (kQ y1 s3.1) λx9 =>
 bnd (mJ y1 (λa0=>sN a0 x9 needs (λa0 a1=>oL a0 a1 y2.1 y2.2))) λy10 =>
 br (y10==false) (lZ (s3.2.length+([x9]).length) 8 (
 k7 (s3.2++[x9])))
 (k7 s3.2))
 (some s3.2)
def zA (left:List Int)(needs:List (List Bool)):Option (List Int) :=
 bnd (uI left) λy1 =>
 bnd (zy y1 needs) λy2 =>
 iF (xM needs y1 y2) (0,[])
def wJ (stamps:List Int)(i:Int):Option Int :=
 br (decide (i<(gK stamps))) (bnd (kQ stamps i) λx1 =>
 some x1)
 (some 0)
def zB (stamps:List Int)(y1:List Int)(s2:Int×Int)(k3:(Int×Int)->Option Int):Option Int :=
 br (decide (s2.2<(gK y1))) (jn (λs5:Int =>
 k3 (s5,(iL s2.2 1))) λk6 =>
 bnd (kQ y1 s2.2) λx8 =>
 br (decide (s2.1<0)) (k6 x8)
 (bnd (wJ stamps x8) λy9 =>
 bnd (wJ stamps s2.1) λy10 =>
 jn (λs11:Bool =>
 br s11 (k6 x8)
 (k6 s2.1)) λk12 =>
 br (decide (y9<y10)) (k12 true)
 (br (decide (y9=y10)) (k12 (decide (x8<s2.1)))
 (k12 false))))
 (some s2.1)
def BN (left:List Int)(stamps:List Int)(needs:List (List Bool)):Option Int :=
 bnd (zA left needs) λy1 =>
 iF (zB stamps y1) ((-1),0)
def cmp_isNaN_int (x:Int):Option Bool :=
 some (!decide (x=x))
def cmp_Compare_int (x:Int)(y:Int):Option Int :=
 bnd (cmp_isNaN_int x) λy1 =>
 bnd (cmp_isNaN_int y) λy2 =>
 br y1 (br y2 (some 0)
 (some (-1)))
 (br y2 (some 1)
 (br (decide (x<y)) (some (-1))
 (br (decide (y<x)) (some 1)
 (some 0))))
def rO (o:GObject)(id:Int):Option Int :=
 bnd (cmp_Compare_int o.id id) λy1 =>
 some y1
def ou (x:List GObject)(target:Int)(cmp:GObject->Int->Option Int)(s1:Int×Int)(k2:(Int×Int)->Option (Int×Bool)):Option (Int×Bool) :=
 br (decide (s1.1<s1.2)) (bnd (SV .shr .u64 (IntKind.wrap .u64 (iL s1.1 s1.2)) 1) λx4 =>
 bnd (kQ x (IntKind.wrap .i64 x4)) λx5 =>
 bnd (cmp x5 target) λy6 =>
 br (decide (y6<0)) (k2 ((iL (IntKind.wrap .i64 x4) 1),s1.2))
 (k2 (s1.1,(IntKind.wrap .i64 x4))))
 (br (decide (s1.1<(gK x))) (bnd (kQ x s1.1) λx7 =>
 bnd (cmp x7 target) λy8 =>
 some (s1.1,(decide (y8=0))))
 (some (s1.1,false)))
def kT (x:List GObject)(target:Int)(cmp:GObject->Int->Option Int):Option (Int×Bool) :=
 iF (ou x target cmp) (0,(gK x))
def rf (s:GState)(id:Int):Option Int :=
 bnd (kT s.objects id rO) λy1 =>
 br (y1.2==false) (some (-1))
 (some y1.1)
def nJ (w:gI)(i:Int):Option Int :=
 bnd (kQ w.forces i) λx1 =>
 bnd (rf w.s x1.source) λy2 =>
 jn (λs3:Bool =>
 br s3 (bnd (kQ w.gX y2) λx6 =>
 some x6.control)
 (some x1.control)) λk4 =>
 br (x1.fixed==false) (k4 (decide (0<=y2)))
 (k4 false)
def lW (w:gI)(i:Int):Option Bool :=
 bnd (kQ w.forces i) λx1 =>
 jn (λs2:Bool =>
 br s2 (some true)
 (bnd (rf w.s x1.source) λy7 =>
 br (decide (y7<0)) (some true)
 (bnd (CY w.dropped.length y7) λj8 =>
 bnd (w.dropped[j8]?) λx9 =>
 some (x9==false)))) λk3 =>
 br x1.fixed (k3 true)
 (bnd (CY w.done.length i) λj5 =>
 bnd (w.done[j5]?) λx6 =>
 k3 x6)
def nz (w:gI)(x6:iD)(y7:Int)(s8:Int×(List Int))(k9:(Int×(List Int))->Option (List Int)):Option (List Int) :=
 br (decide (s8.1<(gK w.s.objects))) (jn (λs11:(List Int) =>
 k9 ((iL s8.1 1),s11)) λk12 =>
 bnd (kQ w.s.objects s8.1) λx14 =>
 jn (λs15:Bool =>
 br s15 (lZ (s8.2.length+([s8.1]).length) 8 (
 k12 (s8.2++[s8.1])))
 (k12 s8.2)) λk16 =>
 br (decide (x14.iI=0)) (br x6.fixed (bnd (slices_Contains_int x6.objects x14.id) λy18 =>
 br y18 (k16 true)
 (br (x6.fixed==false) (bnd (CY w.gX.length s8.1) λj19 =>
 bnd (w.gX[j19]?) λx20 =>
 bnd (lI x14 x20 y7 x6.source x6.filter) λy21 =>
 k16 y21)
 (k16 false)))
 (br (x6.fixed==false) (bnd (CY w.gX.length s8.1) λj22 =>
 bnd (w.gX[j22]?) λx23 =>
 bnd (lI x14 x23 y7 x6.source x6.filter) λy24 =>
 k16 y24)
 (k16 false)))
 (k16 false))
 (some s8.2)
def kW (w:gI)(i:Int):Option (List Int) :=
 bnd (CY w.done.length i) λj1 =>
 bnd (w.done[j1]?) λx2 =>
 br x2 (bnd (CY w.hits.length i) λj3 =>
 bnd (w.hits[j3]?) λx4 =>
 some x4)
 (bnd (lW w i) λy5 =>
 br (y5==false) (some ([]))
 (bnd (kQ w.forces i) λx6 =>
 bnd (nJ w i) λy7 =>
 iF (nz w x6 y7) (0,[])))
def wK (s:GState)(all:List GTraits)(you:Int)(source:Int)(f:jf)(s1:Int×(List Int))(k2:(Int×(List Int))->Option (List Int)):Option (List Int) :=
 br (decide (s1.1<(gK s.objects))) (jn (λs4:(List Int) =>
 k2 ((iL s1.1 1),s4)) λk5 =>
 bnd (kQ s.objects s1.1) λx7 =>
 jn (λs8:GObject×GTraits =>
 bnd (lI s8.1 s8.2 you source f) λy13 =>
 br y13 (lZ (s1.2.length+([s8.1.id]).length) 8 (
 k5 (s1.2++[s8.1.id])))
 (k5 s1.2)) λk9 =>
 br (decide (s1.1<(gK all))) (bnd (CY all.length s1.1) λj11 =>
 bnd (all[j11]?) λx12 =>
 k9 (x7,x12))
 (k9 (x7,BF)))
 (some s1.2)
def xm (s:GState)(all:List GTraits)(you:Int)(source:Int)(f:jf):Option (List Int) :=
 iF (wK s all you source f) (0,[])
def nO (w:gI)(i:Int)(stage:Int)(x1:iD)(s4:Int×(List Int))(k5:(Int×(List Int))->Option (List Int)):Option (List Int) :=
 br (decide (s4.1<(gK x1.jY))) (jn (λs7:(List Int) =>
 k5 ((iL s4.1 1),s7)) λk8 =>
 bnd (kQ x1.jY s4.1) λx10 =>
 jn (λs11:Bool =>
 br s11 (bnd (nJ w i) λy15 =>
 bnd (xm w.s w.gX y15 x1.source x10.filter) λy16 =>
 bnd (CY s4.2.length s4.1) λj17 =>
 bnd (s4.2[j17]?) λx18 =>
 k8 (s4.2.set j17 ((y16.length:Nat):Int)))
 (k8 s4.2)) λk12 =>
 br (decide (x10.kind=11)) (bnd (wI x10.kind) λy14 =>
 k12 (decide (y14=stage)))
 (k12 false))
 (some s4.2)
def lJ (w:gI)(i:Int)(stage:Int):Option (List Int) :=
 bnd (kQ w.forces i) λx1 =>
 bnd (NW (gK x1.jY) (gK x1.jY) 8) λj2 =>
 lt 0 λx3 =>
 iF (nO w i stage x1) (0,(List.replicate j2 x3))
def qG (w:gI)(i:Int):Option Int :=
 bnd (kQ w.forces i) λx1 =>
 bnd (rf w.s x1.source) λy2 =>
 jn (λs3:Bool =>
 br s3 (bnd (CY w.gX.length y2) λj6 =>
 bnd (w.gX[j6]?) λx7 =>
 some x7.control)
 (some x1.control)) λk4 =>
 br (x1.fixed==false) (k4 (decide (0<=y2)))
 (k4 false)
def qf (s:List iT):Option (List iT) :=
 nlO (some ([]))
 (lZ (0+s.length) 560 (
 some s))
def rq (s:List GAbility):Option (List GAbility) :=
 nlO (some ([]))
 (lZ (0+s.length) 640 (
 some s))
def Bi (s3:Int×(List GAbility))(k4:(Int×(List GAbility))->Option GTraits)(j6:Nat)(x7:GAbility)(y8:List jv)(y9:List oJ)(y10:List iT)(s11:Int×(List iT))(k12:(Int×(List iT))->Option GTraits):Option GTraits :=
 br (decide (s11.1<(gK y10))) (bnd (CY s11.2.length s11.1) λj14 =>
 bnd (s11.2[j14]?) λx15 =>
 bnd (jL x15.jY) λy16 =>
 bnd (CY s11.2.length s11.1) λj17 =>
 bnd (s11.2[j17]?) λx18 =>
 k12 ((iL s11.1 1),(s11.2.set j17 { x18 with jY:=y16 })))
 (k4 ((iL s3.1 1),(s3.2.set j6 { x7 with jY:=y8,specs:=y9,kM:=s11.2 })))
def Bj (t:GTraits)(y1:List ByteArray)(y2:List GAbility)(s3:Int×(List GAbility))(k4:(Int×(List GAbility))->Option GTraits):Option GTraits :=
 br (decide (s3.1<(gK y2))) (bnd (CY s3.2.length s3.1) λj6 =>
 bnd (s3.2[j6]?) λx7 =>
 bnd (jL x7.jY) λy8 =>
 bnd (mY x7.specs) λy9 =>
 bnd (qf x7.kM) λy10 =>
 iF (Bi s3 k4 j6 x7 y8 y9 y10) (0,y10))
 (some { t with line:={ t.line with subs:=y1 },abilities:=s3.2 })
def Ep (t:GTraits):Option GTraits :=
 bnd (slices_Clone_string t.line.subs) λy1 =>
 bnd (rq t.abilities) λy2 =>
 iF (Bj t y1 y2) (0,y2)
def xW (n:Int)(least:Int)(most:Int):Option Bool :=
 br (decide (least<=n)) (some (decide (n<=most)))
 (some false)
def J6 (m:jv):Option jv :=
 br (decide (m.kind=2)) (some (jv.mk m.kind m.n 0 (bs []) kD))
 (br (decide (m.kind=3)) (some (jv.mk m.kind m.n 0 (bs []) kD))
 (br (decide (m.kind=6)) (some (jv.mk m.kind m.n 0 (bs []) kD))
 (br (decide (m.kind=7)) (some (jv.mk m.kind m.n 0 (bs []) kD))
 (br (decide (m.kind=8)) (some (jv.mk m.kind m.n 0 (bs []) kD))
 (br (decide (m.kind=9)) (some (jv.mk m.kind m.n 0 (bs []) kD))
 (br (decide (m.kind=4)) (some (jv.mk m.kind 0 0 m.sub kD))
 (br (decide (m.kind=5)) (some (jv.mk m.kind 0 0 m.sub kD))
 (br (decide (m.kind=11)) (some (jv.mk m.kind 0 0 (bs []) m.filter))
 (br (decide (m.kind=12)) (some { m with sub:=(bs []),filter:=kD })
 (br (decide (m.kind=13)) (some { m with sub:=(bs []),filter:=kD })
 (some (jv.mk m.kind 0 0 (bs []) kD))))))))))))
def TB (m:jv):Option Bool :=
 jn (λs1:Bool =>
 br s1 (some false)
 (br (decide (m.kind=2)) (bnd (xW m.n 1 63) λy7 =>
 br y7 (some (decide ((jS .and .i64 m.n 6)=0)))
 (some false))
 (br (decide (m.kind=3)) (bnd (xW m.n 1 63) λy8 =>
 br y8 (some (decide ((jS .and .i64 m.n 6)=0)))
 (some false))
 (br (decide (m.kind=4)) (bnd (vW m.sub) λy9 =>
 some y9)
 (br (decide (m.kind=5)) (bnd (vW m.sub) λy10 =>
 some y10)
 (br (decide (m.kind=6)) (bnd (xW m.n 0 31) λy11 =>
 some y11)
 (br (decide (m.kind=7)) (bnd (xW m.n 1 31) λy12 =>
 some y12)
 (br (decide (m.kind=8)) (bnd (xW m.n 1 131071) λy13 =>
 some y13)
 (br (decide (m.kind=9)) (bnd (xW m.n 1 131071) λy14 =>
 some y14)
 (br (decide (m.kind=11)) (bnd (DI m.filter) λy15 =>
 some y15)
 (br (decide (m.kind=12)) (bnd (xW m.n 0 99) λy16 =>
 br y16 (bnd (xW m.m 0 99) λy17 =>
 some y17)
 (some false))
 (br (decide (m.kind=13)) (bnd (xW m.n (-99) 99) λy18 =>
 br y18 (bnd (xW m.m (-99) 99) λy19 =>
 some y19)
 (some false))
 (some true))))))))))))) λk2 =>
 bnd (xW m.kind 1 14) λy4 =>
 br (y4==false) (k2 true)
 (bnd (J6 m) λy5 =>
 lt ((decide (m.kind=y5.kind)&&(decide (m.n=y5.n)&&(decide (m.m=y5.m)&&(iP .eql m.sub y5.sub&&(decide (m.filter.iI=y5.filter.iI)&&(decide (m.filter.who=y5.filter.who)&&(decide (m.filter.self=y5.filter.self)&&(decide (m.filter.types=y5.filter.types)&&(decide (m.filter.iy=y5.filter.iy)&&(decide (m.filter.iM=y5.filter.iM)&&(decide (m.filter.gZ=y5.filter.gZ)&&(iP .eql m.filter.sub y5.filter.sub&&(decide (m.filter.keys=y5.filter.keys)&&(decide (m.filter.rE=y5.filter.rE)&&(decide (m.filter.power.kind=y5.filter.power.kind)&&(decide (m.filter.power.n=y5.filter.power.n)&&(decide (m.filter.ik.kind=y5.filter.ik.kind)&&(decide (m.filter.ik.n=y5.filter.ik.n)&&(decide (m.filter.value.kind=y5.filter.value.kind)&&(decide (m.filter.value.n=y5.filter.value.n)&&true))))))))))))))))))))==false) λv6 =>
 k2 v6)
def Bl (s:ByteArray)(c1:ByteArray):Option Bool :=
 some (iP .geq s c1)
def nC (s:List ByteArray)(f:ByteArray->Option Bool)(s1:Int)(k2:Int->Option Int):Option Int :=
 br (decide (s1<(gK s))) (bnd (kQ s s1) λx4 =>
 bnd (f x4) λy5 =>
 br y5 (some s1)
 (k2 (iL s1 1)))
 (some (-1))
def mM (s:List ByteArray)(f:ByteArray->Option Bool):Option Int :=
 iF (nC s f) 0
def BO (s:List ByteArray)(i:Int)(v:List ByteArray):Option (List ByteArray):=aco s i v
def BP (l:wO)(sub:ByteArray):Option wO :=
 bnd (slices_Clone_string l.subs) λy1 =>
 jn (λs2:Bool =>
 br s2 (some { l with subs:=y1 })
 (bnd (mM y1 (λa0=>Bl a0 sub)) λy7 =>
 jn (λs8:Int =>
 bnd (BO y1 s8 ([sub])) λy11 =>
 some { l with subs:=y11 }) λk9 =>
 br (decide (y7<0)) (k9 (gK y1))
 (k9 y7))) λk3 =>
 bnd (vW sub) λy5 =>
 br (y5==false) (k3 true)
 (bnd (qY { l with subs:=y1 } sub) λy6 =>
 br y6 (k3 true)
 (k3 (decide (4<=(gK y1)))))
def G5 (t:GTraits)(m:jv)(you:Int)(count:Int):Option GTraits :=
 bnd (Ep t) λy1 =>
 bnd (TB m) λy2 =>
 br (y2==false) (some y1)
 (br (decide (m.kind=1)) (some { y1 with control:=you })
 (br (decide (m.kind=2)) (some { y1 with line:={ y1.line with types:=m.n } })
 (br (decide (m.kind=3)) (some { y1 with line:={ y1.line with types:=(jS .or .i64 y1.line.types m.n) } })
 (br (decide (m.kind=4)) (some { y1 with line:={ y1.line with subs:=[m.sub] } })
 (br (decide (m.kind=5)) (bnd (BP y1.line m.sub) λy3 =>
 some { y1 with line:=y3 })
 (br (decide (m.kind=6)) (some { y1 with iM:=m.n })
 (br (decide (m.kind=7)) (some { y1 with iM:=(jS .or .i64 y1.iM m.n) })
 (br (decide (m.kind=8)) (some { y1 with keys:=(jS .or .i64 y1.keys m.n) })
 (br (decide (m.kind=9)) (some { y1 with keys:=(jS .andNot .i64 y1.keys m.n) })
 (br (decide (m.kind=10)) (some { y1 with keys:=0,abilities:=[] })
 (br (decide (m.kind=11)) (bnd (oq count) λy4 =>
 bnd (oq count) λy5 =>
 some { y1 with power:=y4,ik:=y5 })
 (br (decide (m.kind=12)) (some { y1 with power:=m.n,ik:=m.m })
 (br (decide (m.kind=13)) (bnd (Di y1.power m.n) λy6 =>
 bnd (Di y1.ik m.m) λy7 =>
 some { y1 with power:=y6,ik:=y7 })
 (br (decide (m.kind=14)) (some { y1 with power:=y1.ik,ik:=y1.power })
 (some y1)))))))))))))))
def pq (stage:Int)(y2:List Int)(y3:Int)(s4:Int×(List GTraits)×(List Bool))(k5:(Int×(List GTraits)×(List Bool))->Option gI)(x7:Int)(x8:iD)(s9:Int×(List GTraits)×(List Bool))(k10:(Int×(List GTraits)×(List Bool))->Option gI):Option gI :=
 br (decide (s9.1<(gK x8.jY))) (jn (λs12:(List GTraits)×(List Bool) =>
 k10 ((iL s9.1 1),s12.1,s12.2)) λk13 =>
 bnd (kQ x8.jY s9.1) λx15 =>
 bnd (wI x15.kind) λy16 =>
 br (!decide (y16=stage)) (k13 (s9.2.1,s9.2.2))
 (bnd (CY s9.2.1.length x7) λj17 =>
 bnd (s9.2.1[j17]?) λx18 =>
 bnd (CY y2.length s9.1) λj19 =>
 bnd (y2[j19]?) λx20 =>
 bnd (G5 x18 x15 y3 x20) λy21 =>
 bnd (CY s9.2.1.length x7) λj22 =>
 bnd (s9.2.1[j22]?) λx23 =>
 br (decide (x15.kind=10)) (bnd (CY s9.2.2.length x7) λj24 =>
 lt true λx25 =>
 bnd (s9.2.2[j24]?) λx26 =>
 k13 ((s9.2.1.set j22 y21),(s9.2.2.set j24 x25)))
 (k13 ((s9.2.1.set j22 y21),s9.2.2))))
 (k5 ((iL s4.1 1),s9.2.1,s9.2.2))
def pz (w:gI)(i:Int)(stage:Int)(y1:List Int)(y2:List Int)(y3:Int)(s4:Int×(List GTraits)×(List Bool))(k5:(Int×(List GTraits)×(List Bool))->Option gI):Option gI :=
 br (decide (s4.1<(gK y1))) (bnd (kQ y1 s4.1) λx7 =>
 bnd (kQ w.forces i) λx8 =>
 iF (pq stage y2 y3 s4 k5 x7 x8) (0,s4.2.1,s4.2.2))
 (bnd (CY w.done.length i) λj27 =>
 lt true λx28 =>
 bnd (w.done[j27]?) λx29 =>
 bnd (CY w.hits.length i) λj30 =>
 bnd (w.hits[j30]?) λx31 =>
 some (gI.mk w.s w.forces s4.2.1 s4.2.2 (w.done.set j27 x28) (w.hits.set j30 y1)))
def mO (w:gI)(i:Int)(stage:Int):Option gI :=
 bnd (kW w i) λy1 =>
 bnd (lJ w i stage) λy2 =>
 bnd (qG w i) λy3 =>
 iF (pz w i stage y1 y2 y3) (0,w.gX,w.dropped)
def qR (f:jf)(stage:Int):Option Bool :=
 jn (λs1:Bool =>
 br (decide (stage=1)) (some (!decide (f.who=0)))
 (br (decide (stage=2)) (br (!decide ((jS .or .i64 f.types f.iy)=0)) (some true)
 (br (iP .neq f.sub (bs [])) (some true)
 (some s1)))
 (br (decide (stage=3)) (some (!decide ((jS .or .i64 f.iM f.gZ)=0)))
 (br (decide (stage=4)) (some (!decide (f.keys=0)))
 (some s1))))) λk2 =>
 br (!decide (f.power.kind=0)) (k2 true)
 (k2 (!decide (f.ik.kind=0)))
def nP (w:gI)(i:Int)(stage:Int)(x1:iD)(s2:Int)(k3:Int->Option Bool):Option Bool :=
 br (decide (s2<(gK x1.jY))) (bnd (kQ x1.jY s2) λx5 =>
 jn (λs6:Bool =>
 br s6 (some true)
 (k3 (iL s2 1))) λk7 =>
 br (decide (x5.kind=11)) (bnd (wI x5.kind) λy9 =>
 br (decide (y9=stage)) (bnd (qR x5.filter stage) λy10 =>
 k7 y10)
 (k7 false))
 (k7 false))
 (br (x1.fixed==false) (bnd (CY w.done.length i) λj11 =>
 bnd (w.done[j11]?) λx12 =>
 br (x12==false) (br (decide (stage=4)) (some true)
 (bnd (qR x1.filter stage) λy13 =>
 some y13))
 (some false))
 (some false))
def nD (w:gI)(i:Int)(stage:Int):Option Bool :=
 bnd (kQ w.forces i) λx1 =>
 iF (nP w i stage x1) 0
def pU (w:gI)(i:Int)(stage:Int):Option jm :=
 bnd (lW w i) λy1 =>
 bnd (kW w i) λy2 =>
 bnd (lJ w i stage) λy3 =>
 some (jm.mk y1 y2 y3)
def oz (w:gI)(i:Int):Option Bool :=
 bnd (kQ w.forces i) λx1 =>
 jn (λs2:Bool =>
 br s2 (some true)
 (bnd (rf w.s x1.source) λy6 =>
 br (decide (y6<0)) (some true)
 (bnd (kQ w.dropped y6) λx7 =>
 some (x7==false)))) λk3 =>
 br x1.fixed (k3 true)
 (bnd (kQ w.done i) λx5 =>
 k3 x5)
def pF (w:gI)(x4:iD)(y5:Int)(s6:Int×(List Int))(k7:(Int×(List Int))->Option (List Int)):Option (List Int) :=
 br (decide (s6.1<(gK w.s.objects))) (jn (λs9:(List Int) =>
 k7 ((iL s6.1 1),s9)) λk10 =>
 bnd (kQ w.s.objects s6.1) λx12 =>
 jn (λs13:Bool =>
 br s13 (lZ (s6.2.length+([s6.1]).length) 8 (
 k10 (s6.2++[s6.1])))
 (k10 s6.2)) λk14 =>
 br (decide (x12.iI=0)) (br x4.fixed (bnd (slices_Contains_int x4.objects x12.id) λy16 =>
 br y16 (k14 true)
 (br (x4.fixed==false) (bnd (kQ w.gX s6.1) λx17 =>
 bnd (lI x12 x17 y5 x4.source x4.filter) λy18 =>
 k14 y18)
 (k14 false)))
 (br (x4.fixed==false) (bnd (kQ w.gX s6.1) λx19 =>
 bnd (lI x12 x19 y5 x4.source x4.filter) λy20 =>
 k14 y20)
 (k14 false)))
 (k14 false))
 (some s6.2)
def oM (w:gI)(i:Int):Option (List Int) :=
 bnd (kQ w.done i) λx1 =>
 br x1 (bnd (kQ w.hits i) λx2 =>
 some x2)
 (bnd (oz w i) λy3 =>
 br (y3==false) (some ([]))
 (bnd (kQ w.forces i) λx4 =>
 bnd (nJ w i) λy5 =>
 iF (pF w x4 y5) (0,[])))
def wL (s:GState)(all:List GTraits)(you:Int)(source:Int)(f:jf)(s1:Int×(List Int))(k2:(Int×(List Int))->Option (List Int)):Option (List Int) :=
 br (decide (s1.1<(gK s.objects))) (jn (λs4:(List Int) =>
 k2 ((iL s1.1 1),s4)) λk5 =>
 bnd (kQ s.objects s1.1) λx7 =>
 jn (λs8:GObject×GTraits =>
 bnd (lI s8.1 s8.2 you source f) λy12 =>
 br y12 (lZ (s1.2.length+([s8.1.id]).length) 8 (
 k5 (s1.2++[s8.1.id])))
 (k5 s1.2)) λk9 =>
 br (decide (s1.1<(gK all))) (bnd (kQ all s1.1) λx11 =>
 k9 (x7,x11))
 (k9 (x7,BF)))
 (some s1.2)
def xn (s:GState)(all:List GTraits)(you:Int)(source:Int)(f:jf):Option (List Int) :=
 iF (wL s all you source f) (0,[])
def qg (w:gI)(i:Int)(stage:Int)(x1:iD)(s4:Int×(List Int))(k5:(Int×(List Int))->Option (List Int)):Option (List Int) :=
 br (decide (s4.1<(gK x1.jY))) (jn (λs7:(List Int) =>
 k5 ((iL s4.1 1),s7)) λk8 =>
 bnd (kQ x1.jY s4.1) λx10 =>
 jn (λs11:Bool =>
 br s11 (bnd (nJ w i) λy15 =>
 bnd (xn w.s w.gX y15 x1.source x10.filter) λy16 =>
 bnd (CY s4.2.length s4.1) λj17 =>
 bnd (s4.2[j17]?) λx18 =>
 k8 (s4.2.set j17 ((y16.length:Nat):Int)))
 (k8 s4.2)) λk12 =>
 br (decide (x10.kind=11)) (bnd (wI x10.kind) λy14 =>
 k12 (decide (y14=stage)))
 (k12 false))
 (some s4.2)
def pV (w:gI)(i:Int)(stage:Int):Option (List Int) :=
 bnd (kQ w.forces i) λx1 =>
 bnd (NW (gK x1.jY) (gK x1.jY) 8) λj2 =>
 lt 0 λx3 =>
 iF (qg w i stage x1) (0,(List.replicate j2 x3))
def sO (w:gI)(i:Int)(stage:Int):Option jm :=
 bnd (oz w i) λy1 =>
 bnd (oM w i) λy2 =>
 bnd (pV w i stage) λy3 =>
 some (jm.mk y1 y2 y3)
def rY (ps1:List Int)(ps2:List Int)(s1:Int)(k2:Int->Option Bool):Option Bool :=
 br (decide (s1<(gK ps1))) (bnd (kQ ps1 s1) λx4 =>
 bnd (kQ ps2 s1) λx5 =>
 br (!decide (x4=x5)) (some false)
 (k2 (iL s1 1)))
 (some true)
def slices_Equal_int (ps1:List Int)(ps2:List Int):Option Bool :=
 br (!decide ((gK ps1)=(gK ps2))) (some false)
 (iF (rY ps1 ps2) 0)
def pW (a:jm)(b:jm):Option Bool :=
 br ((a.Cf==b.Cf)==false) (some true)
 (bnd (slices_Equal_int a.hits b.hits) λy1 =>
 br (y1==false) (some true)
 (bnd (slices_Equal_int a.numbers b.numbers) λy2 =>
 some (y2==false)))
def nG (s:List GTraits):Option (List GTraits) :=
 nlO (some ([]))
 (lZ (0+s.length) 176 (
 some s))
def mP (s:List Bool):Option (List Bool) :=
 nlO (some ([]))
 (lZ (0+s.length) 1 (
 some s))
def nV (s:List (List Int)):Option (List (List Int)) :=
 nlO (some ([]))
 (lZ (0+s.length) 24 (
 some s))
def nX (w:gI):Option gI :=
 bnd (nG w.gX) λy1 =>
 bnd (mP w.dropped) λy2 =>
 bnd (mP w.done) λy3 =>
 bnd (nV w.hits) λy4 =>
 some (gI.mk w.s w.forces y1 y2 y3 y4)
def pG (left:List Int)(stage:Int)(s11:Int×(List (Int×jm)))(s24:Int×(List (List Bool)))(k25:(Int×(List (List Bool)))->Option (List (List Bool)))(x28:Int)(y30:gI)(s31:Int×(List (List Bool)))(k32:(Int×(List (List Bool)))->Option (List (List Bool))):Option (List (List Bool)) :=
 br (decide (s31.1<(gK left))) (jn (λs34:(List (List Bool)) =>
 k32 ((iL s31.1 1),s34)) λk35 =>
 bnd (CY left.length s31.1) λj37 =>
 bnd (left[j37]?) λx38 =>
 mgO s11.2 x38 Qz λx39 b40 =>
 jn (λs41:Bool =>
 br s41 (bnd (CY s31.2.length x38) λj44 =>
 bnd (s31.2[j44]?) λx45 =>
 bnd (sO y30 x38 stage) λy46 =>
 bnd (pW x39 y46) λy47 =>
 bnd (CY x45.length x28) λj48 =>
 bnd (s31.2[j44]?) λx49 =>
 bnd (x49[j48]?) λx50 =>
 k35 (s31.2.set j44 (x49.set j48 y47)))
 (k35 s31.2)) λk42 =>
 br b40 (k42 (!decide (x38=x28)))
 (k42 false))
 (k25 ((iL s24.1 1),s31.2))
def pI (w:gI)(left:List Int)(stage:Int)(s11:Int×(List (Int×jm)))(s24:Int×(List (List Bool)))(k25:(Int×(List (List Bool)))->Option (List (List Bool))):Option (List (List Bool)) :=
 br (decide (s24.1<(gK left))) (bnd (CY left.length s24.1) λj27 =>
 bnd (left[j27]?) λx28 =>
 bnd (nX w) λy29 =>
 bnd (mO y29 x28 stage) λy30 =>
 iF (pG left stage s11 s24 k25 x28 y30) (0,s24.2))
 (some s24.2)
def pJ (w:gI)(left:List Int)(stage:Int)(s2:Int×(List (List Bool)))(s11:Int×(List (Int×jm)))(k12:(Int×(List (Int×jm)))->Option (List (List Bool))):Option (List (List Bool)) :=
 br (decide (s11.1<(gK left))) (jn (λs14:(List (Int×jm)) =>
 k12 ((iL s11.1 1),s14)) λk15 =>
 bnd (CY left.length s11.1) λj17 =>
 bnd (left[j17]?) λx18 =>
 bnd (nD w x18 stage) λy19 =>
 br y19 (bnd (pU w x18 stage) λy20 =>
 k15 (NZ s11.2 x18 y20))
 (k15 s11.2))
 (jn (λs21:Bool =>
 br s21 (some s2.2)
 (iF (pI w left stage s11) (0,s2.2))) λk22 =>
 br (decide ((gK s11.2)=0)) (k22 true)
 (k22 (decide ((gK left)<2))))
def pK (w:gI)(left:List Int)(stage:Int)(j1:Nat)(s2:Int×(List (List Bool)))(k3:(Int×(List (List Bool)))->Option (List (List Bool))):Option (List (List Bool)) :=
 lt (decide (s2.1<(gK (List.replicate j1 ([]:List Bool))))) λv5 =>
 br v5 (bnd (NW (gK w.forces) (gK w.forces) 1) λj6 =>
 lt false λx7 =>
 bnd (CY s2.2.length s2.1) λj8 =>
 bnd (s2.2[j8]?) λx10 =>
 k3 ((iL s2.1 1),(s2.2.set j8 (List.replicate j6 x7))))
 (iF (pJ w left stage s2) (0,[]))
def oN (w:gI)(left:List Int)(stage:Int):Option (List (List Bool)) :=
 bnd (NW (gK w.forces) (gK w.forces) 24) λj1 =>
 iF (pK w left stage j1) (0,(List.replicate j1 ([]:List Bool)))
def sQ (stage:Int)(s13:gI×(List Int)×(List Int)×(List Int))(k14:(gI×(List Int)×(List Int)×(List Int))->Option ((List Int)×gI)):Option ((List Int)×gI) :=
 br (decide (0<(gK s13.2.1))) (bnd (oN s13.1 s13.2.1 stage) λy16 =>
 bnd (BN s13.2.1 s13.2.2.2 y16) λy17 =>
 br (decide (y17<0)) (some (s13.2.2.1,s13.1))
 (bnd (mO s13.1 y17 stage) λy18 =>
 lZ (s13.2.2.1.length+([y17]).length) 8 (
 bnd (nU s13.2.1 (λa0=>pR a0 y17)) λy19 =>
 k14 (y18,y19,(s13.2.2.1++[y17]),s13.2.2.2))))
 (some (s13.2.2.1,s13.1))
def pM (stage:Int)(s1:gI)(s5:Int×(List Int)×(List Int))(k6:(Int×(List Int)×(List Int))->Option ((List Int)×gI)):Option ((List Int)×gI) :=
 br (decide (s5.1<(gK s1.forces))) (jn (λs8:(List Int)×(List Int) =>
 k6 ((iL s5.1 1),s8.1,s8.2)) λk9 =>
 bnd (kQ s1.forces s5.1) λx11 =>
 lZ (s5.2.2.length+([x11.stamp]).length) 8 (
 bnd (xk x11 stage) λy12 =>
 br y12 (lZ (s5.2.1.length+([s5.1]).length) 8 (
 k9 ((s5.2.1++[s5.1]),(s5.2.2++[x11.stamp]))))
 (k9 (s5.2.1,(s5.2.2++[x11.stamp])))))
 (iF (sQ stage) (s1,s5.2.1,[],s5.2.2))
def jl (w:gI)(stage:Int):Option ((List Int)×gI) :=
 jn (λs1:gI =>
 iF (pM stage s1) (0,[],[])) λk2 =>
 br (decide (stage=7)) (bnd (oK w) λy4 =>
 k2 y4)
 (k2 w)
def G6 (cards:List GCard)(s:GState):Option (List GTraits) :=
 bnd (BM cards s) λy1 =>
 bnd (jl y1 1) λy3 =>
 bnd (jl y3.2 2) λy4 =>
 bnd (jl y4.2 3) λy5 =>
 bnd (jl y5.2 4) λy6 =>
 bnd (jl y6.2 5) λy7 =>
 bnd (jl y7.2 6) λy8 =>
 bnd (jl y8.2 7) λy9 =>
 bnd (jl y9.2 8) λy10 =>
 some y10.2.gX
def wQ (cards:List GCard)(s:GState)(pe:GEvent)(add:Bool)(s1:Unit)(k2:Unit->Option (GState×GEvent×Bool)):Option (GState×GEvent×Bool) :=
 bnd (G6 cards s) λy4 =>
 bnd (nT cards s y4 pe ([]) add) λy5 =>
 br (decide ((gK y5)=0)) (some (s,(GEvent.mk pe.kind pe.source pe.object pe.iY pe.amount pe.Ad pe.to pe.cause pe.counter pe.card pe.D9 pe.lQ (NY.mk pe.extra.a0 pe.extra.a1 pe.extra.a2)),true))
 (none)
def sS (k:kV)(cards:List GCard)(s:GState)(pe:GEvent)(add:Bool):Option (GState×GEvent×Bool) :=
 iF (wQ cards s pe add) ()
def zC (k:kV)(cards:List GCard)(s:GState)(pe:GEvent)(add:Bool):Option GState :=
 bnd (sS k cards s pe add) λy1 =>
 jn (λs2:Bool =>
 br s2 (some y1.1)
 (jn (λs6:Int×Int =>
 none) λk7 =>
 jn (λs9:Bool =>
 br s9 (lt (Cc (if 2048<y1.2.1.amount then 2048 else y1.2.1.amount) 1) λv12 =>
 k7 (v12,1))
 (k7 (0,y1.2.1.amount))) λk10 =>
 br (decide (y1.2.1.kind=3)) (k10 (decide (1<y1.2.1.amount)))
 (k10 false))) λk3 =>
 br (y1.2.2==false) (k3 true)
 (bnd (zn cards y1.1 y1.2.1) λy5 =>
 k3 (y5==false))
def vX (k:kV)(cards:List GCard)(s:GState)(pe:GEvent):Option GState :=
 bnd (zC k cards s pe true) λy1 =>
 some y1
def zD (l:List GOption):Option (List GOption) :=
 lZ l.length 24 (
 some l)
def zF (k:kV):Option (KT×Bool) :=
 br (k.waits==false) (some (Gu,false))
 (bnd (zD k.pending.options) λy1 =>
 some ({ k.pending with options:=y1 },true))
def Es (k:kV):Option Int :=
 some k.used
def Fj (a:List Int)(b:List Int)(s1:Int)(k2:Int->Option Bool):Option Bool :=
 br (decide (s1<(gK a))) (bnd (kQ a s1) λx4 =>
 bnd (kQ b s1) λx5 =>
 br (!decide (x4=x5)) (some false)
 (k2 (iL s1 1)))
 (some true)
def vY (a:List Int)(b:List Int):Option Bool :=
 br (!decide ((gK a)=(gK b))) (some false)
 (iF (Fj a b) 0)
def vZ (a:oP)(b:oP):Option Bool :=
 jn (λs1:Bool =>
 br s1 (some false)
 (bnd (vY a.library b.library) λy5 =>
 br y5 (bnd (vY a.hand b.hand) λy6 =>
 br y6 (bnd (vY a.Ak b.Ak) λy7 =>
 some y7)
 (some false))
 (some false))) λk2 =>
 br (!decide (a.life=b.life)) (k2 true)
 (br (!decide (a.Ym=b.Ym)) (k2 true)
 (br (!decide (a.lands=b.lands)) (k2 true)
 (lt ((decide (a.pool.a0=b.pool.a0)&&(decide (a.pool.a1=b.pool.a1)&&(decide (a.pool.a2=b.pool.a2)&&(decide (a.pool.a3=b.pool.a3)&&(decide (a.pool.a4=b.pool.a4)&&(decide (a.pool.a5=b.pool.a5)&&true))))))==false) λv4 =>
 br v4 (k2 true)
 (br ((a.failed==b.failed)==false) (k2 true)
 (k2 ((a.lost==b.lost)==false))))))
def xN (a:uA)(b:uA)(s1:Int)(k2:Int->Option Bool):Option Bool :=
 br (decide (s1<(gK a.targets))) (bnd (kQ a.targets s1) λx4 =>
 bnd (kQ b.targets s1) λx5 =>
 lt ((decide (x4.object=x5.object)&&(decide (x4.iY=x5.iY)&&true))==false) λv6 =>
 br v6 (some false)
 (k2 (iL s1 1)))
 (br (decide (a.id=b.id)) (br (decide (a.kind=b.kind)) (br (decide (a.source=b.source)) (br (decide (a.control=b.control)) (br (decide (a.x=b.x)) (br (a.copy==b.copy) (bnd (yZ a.gz b.gz) λy7 =>
 br y7 (lt (decide (a.event.kind=b.event.kind)&&(decide (a.event.source=b.event.source)&&(decide (a.event.object=b.event.object)&&(decide (a.event.iY=b.event.iY)&&(decide (a.event.amount=b.event.amount)&&(decide (a.event.Ad=b.event.Ad)&&(decide (a.event.to=b.event.to)&&(decide (a.event.cause=b.event.cause)&&(decide (a.event.counter=b.event.counter)&&(decide (a.event.card=b.event.card)&&(a.event.D9==b.event.D9&&(a.event.lQ==b.event.lQ&&(decide (a.event.extra.a0=b.event.extra.a0)&&(decide (a.event.extra.a1=b.event.extra.a1)&&(decide (a.event.extra.a2=b.event.extra.a2)&&true))))))))))))))) λv8 =>
 some v8)
 (some false))
 (some false))
 (some false))
 (some false))
 (some false))
 (some false))
 (some false))
def zG (a:uA)(b:uA):Option Bool :=
 br (!decide ((gK a.targets)=(gK b.targets))) (some false)
 (iF (xN a b) 0)
def uJ (a:mD)(b:mD):Option Bool :=
 br (decide (a.source=b.source)) (br (decide (a.control=b.control)) (bnd (yZ a.gz b.gz) λy1 =>
 br y1 (lt (decide (a.event.kind=b.event.kind)&&(decide (a.event.source=b.event.source)&&(decide (a.event.object=b.event.object)&&(decide (a.event.iY=b.event.iY)&&(decide (a.event.amount=b.event.amount)&&(decide (a.event.Ad=b.event.Ad)&&(decide (a.event.to=b.event.to)&&(decide (a.event.cause=b.event.cause)&&(decide (a.event.counter=b.event.counter)&&(decide (a.event.card=b.event.card)&&(a.event.D9==b.event.D9&&(a.event.lQ==b.event.lQ&&(decide (a.event.extra.a0=b.event.extra.a0)&&(decide (a.event.extra.a1=b.event.extra.a1)&&(decide (a.event.extra.a2=b.event.extra.a2)&&true))))))))))))))) λv2 =>
 some v2)
 (some false))
 (some false))
 (some false)
def xO (a:List jv)(b:List jv)(s1:Int)(k2:Int->Option Bool):Option Bool :=
 br (decide (s1<(gK a))) (bnd (kQ a s1) λx4 =>
 bnd (kQ b s1) λx5 =>
 lt ((decide (x4.kind=x5.kind)&&(decide (x4.n=x5.n)&&(decide (x4.m=x5.m)&&(iP .eql x4.sub x5.sub&&(decide (x4.filter.iI=x5.filter.iI)&&(decide (x4.filter.who=x5.filter.who)&&(decide (x4.filter.self=x5.filter.self)&&(decide (x4.filter.types=x5.filter.types)&&(decide (x4.filter.iy=x5.filter.iy)&&(decide (x4.filter.iM=x5.filter.iM)&&(decide (x4.filter.gZ=x5.filter.gZ)&&(iP .eql x4.filter.sub x5.filter.sub&&(decide (x4.filter.keys=x5.filter.keys)&&(decide (x4.filter.rE=x5.filter.rE)&&(decide (x4.filter.power.kind=x5.filter.power.kind)&&(decide (x4.filter.power.n=x5.filter.power.n)&&(decide (x4.filter.ik.kind=x5.filter.ik.kind)&&(decide (x4.filter.ik.n=x5.filter.ik.n)&&(decide (x4.filter.value.kind=x5.filter.value.kind)&&(decide (x4.filter.value.n=x5.filter.value.n)&&true))))))))))))))))))))==false) λv6 =>
 br v6 (some false)
 (k2 (iL s1 1)))
 (some true)
def zH (a:List jv)(b:List jv):Option Bool :=
 br (!decide ((gK a)=(gK b))) (some false)
 (iF (xO a b) 0)
def zI (a:uX)(b:uX):Option Bool :=
 br (decide (a.stamp=b.stamp)) (br (decide (a.control=b.control)) (br (decide (a.source=b.source)) (br (decide (a.Ti=b.Ti)) (bnd (vY a.objects b.objects) λy1 =>
 br y1 (bnd (zH a.jY b.jY) λy2 =>
 some y2)
 (some false))
 (some false))
 (some false))
 (some false))
 (some false)
def Dk (a:GState)(b:GState)(s28:Int)(k29:Int->Option Bool):Option Bool :=
 br (decide (s28<(gK a.uB))) (bnd (kQ a.uB s28) λx31 =>
 bnd (kQ b.uB s28) λx32 =>
 bnd (zI x31 x32) λy33 =>
 br (y33==false) (some false)
 (k29 (iL s28 1)))
 (some true)
def Dn (a:GState)(b:GState)(s22:Int)(k23:Int->Option Bool):Option Bool :=
 br (decide (s22<(gK a.waiting))) (bnd (kQ a.waiting s22) λx25 =>
 bnd (kQ b.waiting s22) λx26 =>
 bnd (uJ x25 x26) λy27 =>
 br (y27==false) (some false)
 (k23 (iL s22 1)))
 (iF (Dk a b) 0)
def Dp (a:GState)(b:GState)(s16:Int)(k17:Int->Option Bool):Option Bool :=
 br (decide (s16<(gK a.stack))) (bnd (kQ a.stack s16) λx19 =>
 bnd (kQ b.stack s16) λx20 =>
 bnd (zG x19 x20) λy21 =>
 br (y21==false) (some false)
 (k17 (iL s16 1)))
 (iF (Dn a b) 0)
def Dq (a:GState)(b:GState)(s10:Int)(k11:Int->Option Bool):Option Bool :=
 br (decide (s10<(gK a.objects))) (bnd (kQ a.objects s10) λx13 =>
 bnd (kQ b.objects s10) λx14 =>
 lt ((decide (x13.id=x14.id)&&(decide (x13.card=x14.card)&&(decide (x13.owner=x14.owner)&&(decide (x13.control=x14.control)&&(decide (x13.iI=x14.iI)&&(x13.token==x14.token&&(x13.lQ==x14.lQ&&(x13.WC==x14.WC&&(x13.deadly==x14.deadly&&(decide (x13.Am=x14.Am)&&(decide (x13.counters.a0=x14.counters.a0)&&(decide (x13.counters.a1=x14.counters.a1)&&(decide (x13.counters.a2=x14.counters.a2)&&(decide (x13.stamp=x14.stamp)&&(decide (x13.copy=x14.copy)&&(decide (x13.Ap=x14.Ap)&&(x13.blocked==x14.blocked&&(decide (x13.blocks=x14.blocks)&&(decide (x13.yP=x14.yP)&&true)))))))))))))))))))==false) λv15 =>
 br v15 (some false)
 (k11 (iL s10 1)))
 (iF (Dp a b) 0)
def Dt (a:GState)(b:GState)(s4:Int)(k5:Int->Option Bool):Option Bool :=
 br (decide (s4<(gK a.jk))) (bnd (kQ a.jk s4) λx7 =>
 bnd (kQ b.jk s4) λx8 =>
 bnd (vZ x7 x8) λy9 =>
 br (y9==false) (some false)
 (k5 (iL s4 1)))
 (iF (Dq a b) 0)
def G7 (a:GState)(b:GState):Option Bool :=
 jn (λs1:Bool =>
 br s1 (some false)
 (iF (Dt a b) 0)) λk2 =>
 br (!decide ((gK a.jk)=(gK b.jk))) (k2 true)
 (br (!decide ((gK a.objects)=(gK b.objects))) (k2 true)
 (br (!decide ((gK a.stack)=(gK b.stack))) (k2 true)
 (br (!decide ((gK a.waiting)=(gK b.waiting))) (k2 true)
 (k2 (!decide ((gK a.uB)=(gK b.uB)))))))
def J7 (a:GState)(b:GState):Option Bool :=
 jn (λs1:Bool =>
 br s1 (some false)
 (bnd (G7 a b) λy4 =>
 br y4 (bnd (vY a.qW b.qW) λy5 =>
 br y5 (bnd (vY a.Oa b.Oa) λy6 =>
 br y6 (bnd (vY a.extra b.extra) λy7 =>
 some y7)
 (some false))
 (some false))
 (some false))) λk2 =>
 br (!decide (a.turn=b.turn)) (k2 true)
 (br (!decide (a.Cf=b.Cf)) (k2 true)
 (br (!decide (a.step=b.step)) (k2 true)
 (br ((a.begun==b.begun)==false) (k2 true)
 (br (!decide (a.priority=b.priority)) (k2 true)
 (br (!decide (a.passes=b.passes)) (k2 true)
 (br (!decide (a.nextId=b.nextId)) (k2 true)
 (br (!decide (a.sG=b.sG)) (k2 true)
 (br (!decide (a.seed=b.seed)) (k2 true)
 (br (!decide (a.over=b.over)) (k2 true)
 (k2 (!decide (a.Iq=b.Iq))))))))))))
def uf (p:qA):Option Bool :=
 jn (λs1:Bool =>
 br s1 (bnd (J5) λy6 =>
 some y6)
 (bnd (Ob p.answers) λy7 =>
 bnd (vX y7 p.cards p.s p.e) λy8 =>
 bnd (zF y7) λy9 =>
 bnd (J5) λy10 =>
 br y10 (br (y9.2==false) (bnd (Es y7) λy11 =>
 br (decide (y11=0)) (bnd (J7 y8 p.s) λy12 =>
 some y12)
 (some false))
 (some false))
 (some false))) λk2 =>
 bnd (Fe p.cards p.s) λy4 =>
 br (y4==false) (k2 true)
 (bnd (IJ p.cards p.s p.e) λy5 =>
 k2 y5)
abbrev pX (M:EncM) (l:List GAbility):List (List PV):=M.m GAbility (eGAbility M) l
abbrev ajV (M:EncM) (l:List uX):List (List PV):=M.m uX (Ea M) l
abbrev KY (M:EncM) (l:List iT):List (List PV):=M.m iT (ni M) l
abbrev nK (M:EncM) (l:List iD):List (List PV):=M.m iD (jb M) l
abbrev Oj (M:EncM) (l:List jv):List (List PV):=M.m jv (uz M) l
abbrev lK (M:EncM) (l:List GObject):List (List PV):=M.m GObject (eGObject M) l
abbrev kU (M:EncM) (l:List GOption):List (List PV):=M.m GOption (eGOption M) l
abbrev mSpec (M:EncM) (l:List oJ):List (List PV):=M.m oJ (FW M) l
abbrev ig (M:EncM) (l:List GTraits):List (List PV):=M.m GTraits (eGTraits M) l
abbrev xq (M:EncM) (l:List GAbility):PV:=.sl 72 (M.m GAbility (eGAbility M) l) false
abbrev jR (M:EncM) (l:List GCard):PV:=.sl 17 (M.m GCard (eGCard M) l) false
abbrev ajW (M:EncM) (l:List uX):PV:=.sl 6 (M.m uX (Ea M) l) false
abbrev Fp (M:EncM) (l:List iT):PV:=.sl 64 (M.m iT (ni M) l) false
abbrev gV (M:EncM) (l:List iD):PV:=.sl 23 (M.m iD (jb M) l) false
abbrev xX (M:EncM) (l:List jv):PV:=.sl 20 (M.m jv (uz M) l) false
abbrev kP (M:EncM) (l:List GObject):PV:=.sl 19 (M.m GObject (eGObject M) l) false
abbrev mQ (M:EncM) (l:List GOption):PV:=.sl 3 (M.m GOption (eGOption M) l) false
abbrev Vr (M:EncM) (l:List oJ):PV:=.sl 18 (M.m oJ (FW M) l) false
abbrev oH (M:EncM) (l:List GTraits):PV:=.sl 17 (M.m GTraits (eGTraits M) l) false
theorem d_st {p:Prop}(h:p:=by (try simp only[uy,eGObject,C9,iR,uz,qy,Q9,Dy,FW,Qy,BD,ni,oU,eGAbility,JB,eGEvent,Aq,wF,Ea,eGState,DN,eGCard,eGOption,Tj,Ar,eGTraits,jb,kG,mF,yt,ad3,N9,Q8,kD,ajU,WE,abx,PN,ahT,ag6,Yn,ad4,PO,Dz,ad5,Rf,ahU,acs,ahV,WG,WH,ahW,Yo,Gu,Z9,BF,WI,WJ,Qz,Yp,ahI,ZY,adV,ZZ,q]);repeat' constructor):p:=h
theorem AQ {u v:List PV}(e:u=v:=by simp only[q];try first|rfl|(simp only[uy,eGObject,C9,iR,uz,qy,Q9,Dy,FW,Qy,BD,ni,oU,eGAbility,JB,eGEvent,Aq,wF,Ea,eGState,DN,eGCard,eGOption,Tj,Ar,eGTraits,jb,kG,mF,yt,q];done)|simp[xQ,eI,eB,eL,eS,q]):LeL u v:=le_eq e
end Go.Proofs.YtchmoabpofnbaaaGreat
