import Derived.Test.YtchmoabpofnbaaaGreatC09
set_option linter.all false
namespace Go.Proofs.YtchmoabpofnbaaaGreat
open Go Go.Pv
set_option maxRecDepth 100000
set_option maxHeartbeats 20000000
variable [GM]
structure eX where
 kind:Int
 a:Int
 b:Int
def rU (M:fP)(x:eX):List PV:=[sI x.kind,sI x.a,sI x.b]
def QO:eX:=eX.mk 0 0 0
structure nO where
 kind:Int
 lF:Int
 source:Int
 least:Int
 most:Int
 n:Int
 options:List eX
def jD (M:fP)(x:nO):List PV:=[sI x.kind,sI x.lF,sI x.source,sI x.least,sI x.most,sI x.n,.sl 3 (M.m eX (rU M) x.options) false]
def AX:nO:=nO.mk 0 0 0 0 0 0 ([])
structure fH where
 answers:List (List Int)
 used:Int
 pending:nO
 waits:Bool
 bad:Bool
def jL (M:fP)(x:fH):List PV:=([.sl 1 (M.m (List Int) (eL M 1 (eI .i64)) x.answers) false,sI x.used]++(jD M x.pending++[.sb x.waits,.sb x.bad]))
def acF:fH:=fH.mk ([]) 0 AX false false
structure jB where
 life:Int
 agv:Int
 lands:Int
 pool:SK Int
 failed:Bool
 lost:Bool
 library:List Int
 hand:List Int
 zV:List Int
def xx (M:fP)(x:jB):List PV:=[sI x.life,sI x.agv,sI x.lands,sI x.pool.a0,sI x.pool.a1,sI x.pool.a2,sI x.pool.a3,sI x.pool.a4,sI x.pool.a5,.sb x.failed,.sb x.lost,.sl 1 (mI M x.library) false,.sl 1 (mI M x.hand) false,.sl 1 (mI M x.zV) false]
def agw:jB:=jB.mk 0 0 0 Wi false false ([]) ([]) ([])
structure fC where
 id:Int
 card:Int
 owner:Int
 control:Int
 iI:Int
 token:Bool
 kN:Bool
 SS:Bool
 deadly:Bool
 Lc:Int
 counters:Nk Int
 stamp:Int
 copy:Int
 nT:Int
 blocked:Bool
 blocks:Int
 JD:Int
def ja (M:fP)(x:fC):List PV:=[sI x.id,sI x.card,sI x.owner,sI x.control,sI x.iI,.sb x.token,.sb x.kN,.sb x.SS,.sb x.deadly,sI x.Lc,sI x.counters.a0,sI x.counters.a1,sI x.counters.a2,sI x.stamp,sI x.copy,sI x.nT,.sb x.blocked,sI x.blocks,sI x.JD]
def qi:fC:=fC.mk 0 0 0 0 0 false false false false 0 Jy 0 0 0 false 0 0
structure rV where
 kind:Int
 n:Int
def DR (M:fP)(x:rV):List PV:=[sI x.kind,sI x.n]
def QP:rV:=rV.mk 0 0
structure GFilter where
 iI:Int
 who:Int
 self:Int
 types:Int
 iw:Int
 gK:Int
 gI:Int
 sub:ByteArray
 keys:Int
 Ar:Int
 power:rV
 gz:rV
 value:rV
def jb (M:fP)(x:GFilter):List PV:=[sI x.iI,sI x.who,sI x.self,sI x.types,sI x.iw,sI x.gK,sI x.gI,.str x.sub,sI x.keys,sI x.Ar,sI x.power.kind,sI x.power.n,sI x.gz.kind,sI x.gz.n,sI x.value.kind,sI x.value.n]
def kP:GFilter:=GFilter.mk 0 0 0 0 0 0 0 (bs []) 0 0 QP QP QP
structure GMod where
 kind:Int
 n:Int
 m:Int
 sub:ByteArray
 filter:GFilter
def yz (M:fP)(x:GMod):List PV:=([sI x.kind,sI x.n,sI x.m,.str x.sub]++(jb M x.filter))
def alD:GMod:=GMod.mk 0 0 0 (bs []) kP
structure oJ where
 generic:Int
 x:Int
 color:acA Int
def qN (M:fP)(x:oJ):List PV:=[sI x.generic,sI x.x,sI x.color.a0,sI x.color.a1,sI x.color.a2,sI x.color.a3,sI x.color.a4]
def Wx:oJ:=oJ.mk 0 0 agc
structure Ld where
 EF:oJ
 Ar:Bool
 J8:Bool
 life:Int
def AY (M:fP)(x:Ld):List PV:=(qN M x.EF++[.sb x.Ar,.sb x.J8,sI x.life])
def adV:Ld:=Ld.mk Wx false false 0
structure xy where
 when:Int
 who:Int
 filter:GFilter
def pg (M:fP)(x:xy):List PV:=([sI x.when,sI x.who]++(jb M x.filter))
def SV:xy:=xy.mk 0 0 kP
structure rW where
 lF:Bool
 object:Bool
 filter:GFilter
def Le (M:fP)(x:rW):List PV:=([.sb x.lF,.sb x.object]++(jb M x.filter))
def akc:rW:=rW.mk false false kP
structure Wy where
 kind:Int
 n:Int
 filter:GFilter
def Yk (M:fP)(x:Wy):List PV:=([sI x.kind,sI x.n]++(jb M x.filter))
def aje:Wy:=Wy.mk 0 0 kP
structure yY where
 kind:Int
 n:Int
 counter:Int
 filter:GFilter
def GY (M:fP)(x:yY):List PV:=([sI x.kind,sI x.n,sI x.counter]++(jb M x.filter))
def abh:yY:=yY.mk 0 0 0 kP
structure iy where
 op:Int
 ref:Wy
 amount:yY
 counter:Int
 iI:Int
 card:ByteArray
 filter:GFilter
 pool:SK Int
 mods:List GMod
def xA (M:fP)(x:iy):List PV:=(([sI x.op]++(Yk M x.ref))++(GY M x.amount++([sI x.counter,sI x.iI,.str x.card]++(jb M x.filter++[sI x.pool.a0,sI x.pool.a1,sI x.pool.a2,sI x.pool.a3,sI x.pool.a4,sI x.pool.a5,.sl 20 (M.m GMod (yz M) x.mods) false]))))
def agx:iy:=iy.mk 0 aje abh 0 0 (bs []) kP Wi ([])
structure qj where
 on:Int
 who:Int
 filter:GFilter
 doF:Int
 n:Int
 iI:Int
 counter:Int
def qy (M:fP)(x:qj):List PV:=([sI x.on,sI x.who]++(jb M x.filter++[sI x.doF,sI x.n,sI x.iI,sI x.counter]))
def SX:qj:=qj.mk 0 0 kP 0 0 0 0
structure fU where
 kind:Int
 filter:GFilter
 mods:List GMod
 price:Ld
 slow:Bool
 fZ:xy
 may:Bool
 specs:List rW
 jw:List iy
 replace:qj
def jv (M:fP)(x:fU):List PV:=((([sI x.kind]++(jb M x.filter++([.sl 20 (M.m GMod (yz M) x.mods) false]++(AY M x.price++[.sb x.slow]))))++(pg M x.fZ++[.sb x.may,.sl 18 (M.m rW (Le M) x.specs) false,.sl 64 (M.m iy (xA M) x.jw) false]))++(qy M x.replace))
def Dc:fU:=fU.mk 0 kP ([]) adV false SV false ([]) ([]) SX
structure qf where
 object:Int
 lF:Int
def Ee (M:fP)(x:qf):List PV:=[sI x.object,sI x.lF]
def agy:qf:=qf.mk 0 0
structure jg where
 kind:Int
 source:Int
 object:Int
 lF:Int
 amount:Int
 adW:Int
 to:Int
 cause:Int
 counter:Int
 card:Int
 acG:Bool
 kN:Bool
 extra:Nk Int
def jC (M:fP)(x:jg):List PV:=[sI x.kind,sI x.source,sI x.object,sI x.lF,sI x.amount,sI x.adW,sI x.to,sI x.cause,sI x.counter,sI x.card,.sb x.acG,.sb x.kN,sI x.extra.a0,sI x.extra.a1,sI x.extra.a2]
def Va:jg:=jg.mk 0 0 0 0 0 0 0 0 0 0 false false Jy
structure oK where
 id:Int
 kind:Int
 source:Int
 control:Int
 x:Int
 copy:Bool
 iZ:fU
 targets:List qf
 event:jg
def AZ (M:fP)(x:oK):List PV:=([sI x.id,sI x.kind,sI x.source,sI x.control,sI x.x,.sb x.copy]++(jv M x.iZ++([.sl 2 (M.m qf (Ee M) x.targets) false]++(jC M x.event))))
def akd:oK:=oK.mk 0 0 0 0 0 false Dc ([]) Va
structure gm where
 source:Int
 control:Int
 iZ:fU
 event:jg
def zW (M:fP)(x:gm):List PV:=([sI x.source,sI x.control]++(jv M x.iZ++(jC M x.event)))
def aeQ:gm:=gm.mk 0 0 Dc Va
structure qc where
 stamp:Int
 control:Int
 source:Int
 acH:Int
 objects:List Int
 mods:List GMod
def Df (M:fP)(x:qc):List PV:=[sI x.stamp,sI x.control,sI x.source,sI x.acH,.sl 1 (mI M x.objects) false,.sl 20 (M.m GMod (yz M) x.mods) false]
def ake:qc:=qc.mk 0 0 0 0 ([]) ([])
structure GState where
 fM:List jB
 objects:List fC
 iD:List Int
 qV:List Int
 stack:List oK
 waiting:List gm
 jT:List qc
 turn:Int
 jZ:Int
 step:Int
 begun:Bool
 priority:Int
 passes:Int
 nextId:Int
 kF:Int
 seed:Int
 extra:List Int
 over:Int
 ql:Int
def fD (M:fP)(x:GState):List PV:=[.sl 14 (M.m jB (xx M) x.fM) false,.sl 19 (M.m fC (ja M) x.objects) false,.sl 1 (mI M x.iD) false,.sl 1 (mI M x.qV) false,.sl 94 (M.m oK (AZ M) x.stack) false,.sl 89 (M.m gm (zW M) x.waiting) false,.sl 6 (M.m qc (Df M) x.jT) false,sI x.turn,sI x.jZ,sI x.step,.sb x.begun,sI x.priority,sI x.passes,sI x.nextId,sI x.kF,.si .u64 x.seed,.sl 1 (mI M x.extra) false,sI x.over,sI x.ql]
def fV (M:fP)(x:GState):List PV:=[.sl 14 (M.m jB (xx M) x.fM) false,.sl 19 (M.m fC (ja M) x.objects) false,.sl 1 (mI M x.iD) false,.sl 1 (mI M x.qV) false,.sl 94 (M.m oK (AZ M) x.stack) false,.hc,.sl 6 (M.m qc (Df M) x.jT) false,sI x.turn,sI x.jZ,sI x.step,.sb x.begun,sI x.priority,sI x.passes,sI x.nextId,sI x.kF,.si .u64 x.seed,.sl 1 (mI M x.extra) false,sI x.over,sI x.ql]
def QQ:GState:=GState.mk ([]) ([]) ([]) ([]) ([]) ([]) ([]) 0 0 0 false 0 0 0 0 0 ([]) 0 0
structure rX where
 J9:Int
 types:Int
 subs:List ByteArray
def GZ (M:fP)(x:rX):List PV:=[sI x.J9,sI x.types,.sl 1 (M.m ByteArray eS x.subs) false]
def WA:rX:=rX.mk 0 0 ([])
structure gq where
 name:ByteArray
 token:Bool
 cost:oJ
 color:Int
 line:rX
 power:Int
 gz:Int
 keys:Int
 fB:List fU
def zD (M:fP)(x:gq):List PV:=([.str x.name,.sb x.token]++(qN M x.cost++[sI x.color,sI x.line.J9,sI x.line.types,.sl 1 (M.m ByteArray eS x.line.subs) false,sI x.power,sI x.gz,sI x.keys,.sl 72 (M.m fU (jv M) x.fB) false]))
def SY:gq:=gq.mk (bs []) false Wx 0 WA 0 0 0 ([])
structure eQ where
 name:ByteArray
 cost:oJ
 gK:Int
 line:rX
 power:Int
 gz:Int
 keys:Int
 fB:List fU
 control:Int
def jh (M:fP)(x:eQ):List PV:=([.str x.name]++(qN M x.cost++[sI x.gK,sI x.line.J9,sI x.line.types,.sl 1 (M.m ByteArray eS x.line.subs) false,sI x.power,sI x.gz,sI x.keys,.sl 72 (M.m fU (jv M) x.fB) false,sI x.control]))
def zGTraits:eQ:=eQ.mk (bs []) Wx 0 WA 0 0 0 ([]) 0
structure GLayerForce where
 source:Int
 iZ:Int
 control:Int
 stamp:Int
 fixed:Bool
 objects:List Int
 filter:GFilter
 mods:List GMod
def oN (M:fP)(x:GLayerForce):List PV:=([sI x.source,sI x.iZ,sI x.control,sI x.stamp,.sb x.fixed,.sl 1 (mI M x.objects) false]++(jb M x.filter++[.sl 20 (M.m GMod (yz M) x.mods) false]))
def QR:GLayerForce:=GLayerForce.mk 0 0 0 0 false ([]) kP ([])
structure GLayerWorld where
 s:GState
 forces:List GLayerForce
 traits:List eQ
 dropped:List Bool
 done:List Bool
 hits:List (List Int)
def Lh (M:fP)(x:GLayerWorld):List PV:=(fD M x.s++[.sl 23 (M.m GLayerForce (oN M) x.forces) false,.sl 17 (M.m eQ (jh M) x.traits) false,.sl 1 (M.m Bool eB x.dropped) false,.sl 1 (M.m Bool eB x.done) false,.sl 1 (M.m (List Int) (eL M 1 (eI .i64)) x.hits) false])
def yO (M:fP)(x:GLayerWorld):List PV:=(fV M x.s++[.sl 23 (M.m GLayerForce (oN M) x.forces) false,.sl 17 (M.m eQ (jh M) x.traits) false,.sl 1 (M.m Bool eB x.dropped) false,.sl 1 (M.m Bool eB x.done) false,.sl 1 (M.m (List Int) (eL M 1 (eI .i64)) x.hits) false])
def Zr:GLayerWorld:=GLayerWorld.mk QQ ([]) ([]) ([]) ([]) ([])
structure jV where
 jZ:Bool
 hits:List Int
 numbers:List Int
def ny (M:fP)(x:jV):List PV:=[.sb x.jZ,.sl 1 (mI M x.hits) false,.sl 1 (mI M x.numbers) false]
def Np:jV:=jV.mk false ([]) ([])
structure eP where
 id:Int
 index:Int
 you:Int
 iZ:fU
 earlier:Bool
def jy (M:fP)(x:eP):List PV:=([sI x.id,sI x.index,sI x.you]++(jv M x.iZ++[.sb x.earlier]))
def WB:eP:=eP.mk 0 0 0 Dc false
structure jP where
 before:GState
 after:GState
 l9:List eQ
 nY:List eQ
 e:jg
def Lj (M:fP)(x:jP):List PV:=(fD M x.before++(fD M x.after++([.sl 17 (M.m eQ (jh M) x.l9) false,.sl 17 (M.m eQ (jh M) x.nY) false]++(jC M x.e))))
def nH (M:fP)(x:jP):List PV:=(fV M x.before++(fV M x.after++([.sl 17 (M.m eQ (jh M) x.l9) false,.sl 17 (M.m eQ (jh M) x.nY) false]++(jC M x.e))))
def Zt:jP:=jP.mk QQ QQ ([]) ([]) Va
structure ig where
 source:Int
 iZ:Int
 control:Int
 stamp:Int
 fixed:Bool
 objects:List Int
 filter:GFilter
 mods:List GMod
def vO (M:fP)(x:ig):List PV:=([sI x.source,sI x.iZ,sI x.control,sI x.stamp,.sb x.fixed,.sl 1 (mI M x.objects) false]++(jb M x.filter++[.sl 20 (M.m GMod (yz M) x.mods) false]))
def acI:ig:=ig.mk 0 0 0 0 false ([]) kP ([])
structure ik where
 s:GState
 all:List eQ
 l:List ig
 begun:List Bool
 sets:List (List Int)
 blank:List Bool
def jr (M:fP)(x:ik):List PV:=(fD M x.s++[.sl 17 (M.m eQ (jh M) x.all) false,.sl 23 (M.m ig (vO M) x.l) false,.sl 1 (M.m Bool eB x.begun) false,.sl 1 (M.m (List Int) (eL M 1 (eI .i64)) x.sets) false,.sl 1 (M.m Bool eB x.blank) false])
def acJ:ik:=ik.mk QQ ([]) ([]) ([]) ([]) ([])
def oO (l:List Int):Option (List Int) := gY l.length 8 ( some l)
def PW (answers:List (List Int))(s1:Int×(List (List Int)))(k2:(Int×(List (List Int)))->Option fH):Option fH := br (decide (s1.1<(lenI answers))) (bnd (gu answers s1.1) λx4=>bnd (oO x4) λy5=>gY (s1.2.length+([y5]).length) 24 ( k2 ((addI s1.1 1),(s1.2++[y5])))) (some (fH.mk s1.2 0 AX false false))
def Ll (answers:List (List Int)):Option fH := loopF (PW answers) (0,[])
def wR (n:Int)(least:Int)(most:Int):Option Bool := br (decide (least<=n)) (some (decide (n<=most))) (some false)
def QS (p:SK Int)(s1:Int)(k2:Int->Option Bool):Option Bool := br (decide (s1<6)) (jn (λs4:Bool=>br s4 (some false) (k2 (addI s1 1))) λk5=>oL s1 6 λj7=>(match j7 with|0=>(br (decide (p.a0<0)) (k5 true) (oL s1 6 λj8=>(match j8 with|0=>(k5 (decide (1000000<p.a0)))  | 1=>(k5 (decide (1000000<p.a1)))  | 2=>(k5 (decide (1000000<p.a2)))  | 3=>(k5 (decide (1000000<p.a3)))  | 4=>(k5 (decide (1000000<p.a4)))  | _=>(k5 (decide (1000000<p.a5))) )))  | 1=>(br (decide (p.a1<0)) (k5 true) (oL s1 6 λj9=>(match j9 with|0=>(k5 (decide (1000000<p.a0)))  | 1=>(k5 (decide (1000000<p.a1)))  | 2=>(k5 (decide (1000000<p.a2)))  | 3=>(k5 (decide (1000000<p.a3)))  | 4=>(k5 (decide (1000000<p.a4)))  | _=>(k5 (decide (1000000<p.a5))) )))  | 2=>(br (decide (p.a2<0)) (k5 true) (oL s1 6 λj10=>(match j10 with|0=>(k5 (decide (1000000<p.a0)))  | 1=>(k5 (decide (1000000<p.a1)))  | 2=>(k5 (decide (1000000<p.a2)))  | 3=>(k5 (decide (1000000<p.a3)))  | 4=>(k5 (decide (1000000<p.a4)))  | _=>(k5 (decide (1000000<p.a5))) )))  | 3=>(br (decide (p.a3<0)) (k5 true) (oL s1 6 λj11=>(match j11 with|0=>(k5 (decide (1000000<p.a0)))  | 1=>(k5 (decide (1000000<p.a1)))  | 2=>(k5 (decide (1000000<p.a2)))  | 3=>(k5 (decide (1000000<p.a3)))  | 4=>(k5 (decide (1000000<p.a4)))  | _=>(k5 (decide (1000000<p.a5))) )))  | 4=>(br (decide (p.a4<0)) (k5 true) (oL s1 6 λj12=>(match j12 with|0=>(k5 (decide (1000000<p.a0)))  | 1=>(k5 (decide (1000000<p.a1)))  | 2=>(k5 (decide (1000000<p.a2)))  | 3=>(k5 (decide (1000000<p.a3)))  | 4=>(k5 (decide (1000000<p.a4)))  | _=>(k5 (decide (1000000<p.a5))) )))  | _=>(br (decide (p.a5<0)) (k5 true) (oL s1 6 λj13=>(match j13 with|0=>(k5 (decide (1000000<p.a0)))  | 1=>(k5 (decide (1000000<p.a1)))  | 2=>(k5 (decide (1000000<p.a2)))  | 3=>(k5 (decide (1000000<p.a3)))  | 4=>(k5 (decide (1000000<p.a4)))  | _=>(k5 (decide (1000000<p.a5))) ))) )) (some true)
def Om (p:SK Int):Option Bool := loopF (QS p) 0
def Lm (s:GState)(id:Int)(s1:Int)(k2:Int->Option Int):Option Int := br (decide (s1<(lenI s.objects))) (bnd (gu s.objects s1) λx4=>br (decide (x4.id=id)) (some s1) (k2 (addI s1 1))) (some (-1))
def Gh (s:GState)(id:Int):Option Int := loopF (Lm s id) 0
def Ef (s:GState)(id:Int):Option (fC×Bool) := bnd (Gh s id) λy1=>br (decide (y1<0)) (some (qi,false)) (bnd (gu s.objects y1) λx2=>some (x2,true))
def G5 (s:GState)(id:Int):Option (fC×Bool) := bnd (Ef s id) λy1=>some (y1.1,y1.2)
def QT (l:List Int)(n:Int)(s1:Int×Int)(k2:(Int×Int)->Option Int):Option Int := br (decide (s1.2<(lenI l))) (jn (λs4:Int=>k2 (s4,(addI s1.2 1))) λk5=>bnd (gu l s1.2) λx7=>br (decide (x7=n)) (k5 (addI s1.1 1)) (k5 s1.1)) (some s1.1)
def Gi (l:List Int)(n:Int):Option Int := loopF (QT l n) (0,0)
def Uz (s:GState)(l:List Int)(iI:Int)(owner:Int)(s1:Int)(k2:Int->Option Bool):Option Bool := br (decide (s1<(lenI l))) (bnd (gu l s1) λx4=>bnd (G5 s x4) λy5=>jn (λs6:Bool=>br s6 (some false) (k2 (addI s1 1))) λk7=>br (y5.2==false) (k7 true) (br (!decide (y5.1.iI=iI)) (k7 true) (br (decide (0<=owner)) (br (!decide (y5.1.owner=owner)) (k7 true) (bnd (gu l s1) λx9=>bnd (Gi l x9) λy10=>k7 (!decide (y10=1)))) (bnd (gu l s1) λx11=>bnd (Gi l x11) λy12=>k7 (!decide (y12=1)))))) (some true)
def Eg (s:GState)(l:List Int)(iI:Int)(owner:Int):Option Bool := loopF (Uz s l iI owner) 0
def Nq (s:GState)(s2:Int)(k3:Int->Option Bool):Option Bool := br (decide (s2<(lenI s.fM))) (bnd (gu s.fM s2) λx5=>jn (λs6:Bool=>br s6 (some false) (jn (λs13:Bool=>br s13 (some false) (k3 (addI s2 1))) λk14=>bnd (Eg s x5.library 2 s2) λy16=>br (y16==false) (k14 true) (bnd (Eg s x5.hand 1 s2) λy17=>br (y17==false) (k14 true) (bnd (Eg s x5.zV 3 s2) λy18=>k14 (y18==false))))) λk7=>bnd (wR x5.life (-1000000) 1000000) λy9=>br (y9==false) (k7 true) (bnd (wR x5.agv 0 1000000) λy10=>br (y10==false) (k7 true) (bnd (wR x5.lands 0 1000000) λy11=>br (y11==false) (k7 true) (bnd (Om x5.pool) λy12=>k7 (y12==false))))) (bnd (Eg s s.iD 0 (-1)) λy19=>br y19 (bnd (Eg s s.qV 4 (-1)) λy20=>some y20) (some false))
def IL (s:GState):Option Bool := bnd (wR (lenI s.fM) 2 4) λy1=>br (y1==false) (some false) (loopF (Nq s) 0)
def qO (s:GState)(p:Int):Option Bool := bnd (wR p 0 (qL (lenI s.fM) 1)) λy1=>some y1
def Yl (c:Nk Int)(s1:Int)(k2:Int->Option Bool):Option Bool := br (decide (s1<3)) (jn (λs4:Bool=>br s4 (some false) (k2 (addI s1 1))) λk5=>oL s1 3 λj7=>(match j7 with|0=>(br (decide (c.a0<0)) (k5 true) (oL s1 3 λj8=>(match j8 with|0=>(k5 (decide (1000000<c.a0)))  | 1=>(k5 (decide (1000000<c.a1)))  | _=>(k5 (decide (1000000<c.a2))) )))  | 1=>(br (decide (c.a1<0)) (k5 true) (oL s1 3 λj9=>(match j9 with|0=>(k5 (decide (1000000<c.a0)))  | 1=>(k5 (decide (1000000<c.a1)))  | _=>(k5 (decide (1000000<c.a2))) )))  | _=>(br (decide (c.a2<0)) (k5 true) (oL s1 3 λj10=>(match j10 with|0=>(k5 (decide (1000000<c.a0)))  | 1=>(k5 (decide (1000000<c.a1)))  | _=>(k5 (decide (1000000<c.a2))) ))) )) (some true)
def Zu (c:Nk Int):Option Bool := loopF (Yl c) 0
def QU (o:fC):Option fC := some { o with nT:=(-1),blocked:=false,blocks:=0 }
def Oo (o:fC):Option fC := some { o with deadly:=false,Lc:=0,JD:=0 }
def Zv (o:fC)(cards:Int)(fM:Int):Option Bool := jn (λs1:Bool=>br s1 (some false) (jn (λs4:Bool=>br s4 (some false) (jn (λs7:Bool=>br s7 (some false) (br (decide (o.iI=0)) (some true) (bnd (QU o) λy11=>lt (decide (o.id=y11.id)&&(decide (o.card=y11.card)&&(decide (o.owner=y11.owner)&&(decide (o.control=y11.control)&&(decide (o.iI=y11.iI)&&(o.token==y11.token&&(o.kN==y11.kN&&(o.SS==y11.SS&&(o.deadly==y11.deadly&&(decide (o.Lc=y11.Lc)&&(decide (o.counters.a0=y11.counters.a0)&&(decide (o.counters.a1=y11.counters.a1)&&(decide (o.counters.a2=y11.counters.a2)&&(decide (o.stamp=y11.stamp)&&(decide (o.copy=y11.copy)&&(decide (o.nT=y11.nT)&&(o.blocked==y11.blocked&&(decide (o.blocks=y11.blocks)&&(decide (o.JD=y11.JD)&&true))))))))))))))))))) λv12=>br v12 (bnd (Oo o) λy13=>lt (decide (o.id=y13.id)&&(decide (o.card=y13.card)&&(decide (o.owner=y13.owner)&&(decide (o.control=y13.control)&&(decide (o.iI=y13.iI)&&(o.token==y13.token&&(o.kN==y13.kN&&(o.SS==y13.SS&&(o.deadly==y13.deadly&&(decide (o.Lc=y13.Lc)&&(decide (o.counters.a0=y13.counters.a0)&&(decide (o.counters.a1=y13.counters.a1)&&(decide (o.counters.a2=y13.counters.a2)&&(decide (o.stamp=y13.stamp)&&(decide (o.copy=y13.copy)&&(decide (o.nT=y13.nT)&&(o.blocked==y13.blocked&&(decide (o.blocks=y13.blocks)&&(decide (o.JD=y13.JD)&&true))))))))))))))))))) λv14=>br v14 (br (o.kN==false) (br (o.SS==false) (lt (decide (o.counters.a0=0)&&(decide (o.counters.a1=0)&&(decide (o.counters.a2=0)&&true))) λv15=>some v15) (some false)) (some false)) (some false)) (some false)))) λk8=>bnd (Zu o.counters) λy10=>br (y10==false) (k8 true) (br (decide (o.copy<(-1))) (k8 true) (br (decide (cards<=o.copy)) (k8 true) (br (decide (o.nT<(-1))) (k8 true) (k8 (decide (fM<=o.nT)))))))) λk5=>br (decide (o.Lc<0)) (k5 true) (br (decide (1000000<o.Lc)) (k5 true) (br (decide (o.stamp<0)) (k5 true) (br (decide (1000000<o.stamp)) (k5 true) (br (decide (o.blocks<0)) (k5 true) (br (decide (1000000<o.blocks)) (k5 true) (br (decide (o.JD<0)) (k5 true) (k5 (decide (1000000<o.JD))))))))))) λk2=>br (decide (o.id<1)) (k2 true) (br (decide (o.card<0)) (k2 true) (br (decide (cards<=o.card)) (k2 true) (br (decide (o.owner<0)) (k2 true) (br (decide (fM<=o.owner)) (k2 true) (br (decide (o.control<0)) (k2 true) (br (decide (fM<=o.control)) (k2 true) (br (decide (o.iI<0)) (k2 true) (k2 (decide (5<o.iI))))))))))
def O1 (s:GState)(id:Int)(s1:Int×Int)(k2:(Int×Int)->Option Int):Option Int := br (decide (s1.2<(lenI s.stack))) (jn (λs4:Int=>k2 (s4,(addI s1.2 1))) λk5=>jn (λs7:Bool=>br s7 (k5 (addI s1.1 1)) (k5 s1.1)) λk8=>bnd (gu s.stack s1.2) λx10=>br (decide (x10.kind=1)) (bnd (gu s.stack s1.2) λx11=>k8 (decide (x11.id=id))) (k8 false)) (some s1.1)
def Lp (s:GState)(id:Int):Option Int := loopF (O1 s id) (0,0)
def Eh (l:List Int):Option (List Int) := gY (0+l.length) 8 ( some l)
def QV (s:GState)(iI:Int)(lF:Int):Option (List Int) := br (decide (iI=0)) (bnd (Eh s.iD) λy1=>some y1) (br (decide (iI=4)) (bnd (Eh s.qV) λy2=>some y2) (jn (λs3:Bool=>br s3 (some ([])) (br (decide (iI=1)) (bnd (gu s.fM lF) λx6=>bnd (Eh x6.hand) λy7=>some y7) (br (decide (iI=2)) (bnd (gu s.fM lF) λx8=>bnd (Eh x8.library) λy9=>some y9) (br (decide (iI=3)) (bnd (gu s.fM lF) λx10=>bnd (Eh x10.zV) λy11=>some y11) (some ([])))))) λk4=>br (decide (lF<0)) (k4 true) (k4 (decide ((lenI s.fM)<=lF)))))
def Lr (s:GState)(o:fC):Option Bool := br (decide (o.iI=5)) (bnd (Lp s o.id) λy1=>some (decide (y1=1))) (bnd (QV s o.iI o.owner) λy2=>bnd (Gi y2 o.id) λy3=>some (decide (y3=1)))
def G6 (cards:List gq)(s:GState)(s1:Int)(k2:Int->Option Bool):Option Bool := br (decide (s1<(lenI s.objects))) (bnd (gu s.objects s1) λx4=>jn (λs5:Bool=>br s5 (some false) (bnd (Lr s x4) λy10=>br (y10==false) (some false) (k2 (addI s1 1)))) λk6=>bnd (Zv x4 (lenI cards) (lenI s.fM)) λy8=>br (y8==false) (k6 true) (br (decide (s.nextId<=x4.id)) (k6 true) (br (decide (s.kF<=x4.stamp)) (k6 true) (br (decide (0<s1)) (bnd (gu s.objects (qL s1 1)) λx9=>k6 (decide (x4.id<=x9.id))) (k6 false))))) (some true)
def zX (cards:List gq)(s:GState):Option Bool := br (decide (2048<(lenI s.objects))) (some false) (loopF (G6 cards s) 0)
def Ls (c:Int):Option Bool := br (decide (97<=c)) (some (decide (c<=122))) (some false)
def Oq (s:ByteArray)(s7:Int)(k8:Int->Option Bool):Option Bool := br (decide (s7<(s.size:Int))) (jn (λs10:Bool=>br s10 (some false) (jn (λs19:Bool=>br s19 (some false) (k8 (addI s7 1))) λk20=>br (decide (0<s7)) (bnd (jA s s7) λx22=>br (decide (x22=45)) (bnd (jA s (qL s7 1)) λx23=>k20 (decide (x23=45))) (k20 false)) (k20 false))) λk11=>bnd (jA s s7) λx13=>bnd (Ls x13) λy14=>br (y14==false) (bnd (jA s s7) λx15=>br (decide (x15<48)) (bnd (jA s s7) λx16=>k11 (!decide (x16=45))) (bnd (jA s s7) λx17=>br (decide (57<x17)) (bnd (jA s s7) λx18=>k11 (!decide (x18=45))) (k11 false))) (k11 false)) (some true)
def Nr (s:ByteArray):Option Bool := jn (λs1:Bool=>br s1 (some false) (loopF (Oq s) 0)) λk2=>br (decide ((s.size:Int)<1)) (k2 true) (br (decide (32<(s.size:Int))) (k2 true) (bnd (jA s 0) λx4=>bnd (Ls x4) λy5=>br (y5==false) (k2 true) (bnd (jA s (qL (s.size:Int) 1)) λx6=>k2 (decide (x6=45)))))
def Fh (l:List ByteArray)(s:ByteArray)(s1:Int)(k2:Int->Option Int):Option Int := br (decide (s1<(lenI l))) (bnd (gu l s1) λx4=>br (fQ .eql x4 s) (some s1) (k2 (addI s1 1))) (some (-1))
def zY (l:List ByteArray)(s:ByteArray):Option Int := loopF (Fh l s) 0
def A7  : Option (List ByteArray) := some ([(bs [98,97,115,105,99]),(bs [117,110,105,113,117,101])])
def yP  : Option (List ByteArray) := some ([(bs [99,114,101,97,116,117,114,101]),(bs [105,110,115,116,97,110,116]),(bs [114,105,116,117,97,108]),(bs [114,101,108,105,99]),(bs [99,104,97,114,109]),(bs [108,97,110,100])])
def pq (s:ByteArray):Option Bool := bnd (Nr s) λy1=>br y1 (bnd (A7) λy2=>bnd (zY y2 s) λy3=>br (decide (y3<0)) (bnd (yP) λy4=>bnd (zY y4 s) λy5=>some (decide (y5<0))) (some false)) (some false)
def A8  (s4:Int×Int×Int)(k5:(Int×Int×Int)->Option Bool):Option Bool := br (decide (s4.2.2<6)) (jn (λs7:Bool=>br s7 (some false) (bnd (divO .quo .i64 s4.1 2) λx12=>bnd (divO .quo .i64 s4.2.1 2) λx13=>k5 (x12,x13,(addI s4.2.2 1)))) λk8=>bnd (divO .rem .i64 s4.1 2) λx10=>br (decide (x10=1)) (bnd (divO .rem .i64 s4.2.1 2) λx11=>k8 (decide (x11=1))) (k8 false)) (some true)
def Dh (a:Int)(b:Int)(most:Int):Option Bool := jn (λs1:Bool=>br s1 (some false) (loopF (A8) (a,b,0))) λk2=>br (decide (a<0)) (k2 true) (br (decide (most<a)) (k2 true) (br (decide (b<0)) (k2 true) (k2 (decide (most<b)))))
def sS (b:rV):Option Bool := jn (λs1:Bool=>br s1 (some false) (br (!decide (b.kind=0)) (some true) (some (decide (b.n=0))))) λk2=>br (decide (b.kind<0)) (k2 true) (br (decide (3<b.kind)) (k2 true) (br (decide (b.n<0)) (k2 true) (k2 (decide (1000000<b.n)))))
def r13_Is (f:GFilter):Option Bool := jn (λs1:Bool=>br s1 (some false) (jn (λs4:Bool=>br s4 (some false) (jn (λs9:Bool=>br s9 (some false) (bnd (sS f.power) λy13=>br y13 (bnd (sS f.gz) λy14=>br y14 (bnd (sS f.value) λy15=>some y15) (some false)) (some false))) λk10=>br (fQ .neq f.sub (bs [])) (bnd (pq f.sub) λy12=>br (y12==false) (k10 true) (br (decide (f.keys<0)) (k10 true) (k10 (decide (131071<f.keys))))) (br (decide (f.keys<0)) (k10 true) (k10 (decide (131071<f.keys)))))) λk5=>bnd (Dh f.types f.iw 63) λy7=>br (y7==false) (k5 true) (bnd (Dh f.gK f.gI 31) λy8=>k5 (y8==false)))) λk2=>br (decide (f.iI<0)) (k2 true) (br (decide (5<f.iI)) (k2 true) (br (decide (f.who<0)) (k2 true) (br (decide (2<f.who)) (k2 true) (br (decide (f.self<0)) (k2 true) (br (decide (2<f.self)) (k2 true) (br (decide (f.Ar<0)) (k2 true) (k2 (decide (2<f.Ar)))))))))
def Ko (m:GMod):Option GMod := br (decide (m.kind=2)) (some { m with kind:=0,n:=0 }) (br (decide (m.kind=3)) (some { m with kind:=0,n:=0 }) (br (decide (m.kind=6)) (some { m with kind:=0,n:=0 }) (br (decide (m.kind=7)) (some { m with kind:=0,n:=0 }) (br (decide (m.kind=8)) (some { m with kind:=0,n:=0 }) (br (decide (m.kind=9)) (some { m with kind:=0,n:=0 }) (br (decide (m.kind=4)) (some { m with kind:=0,sub:=(bs []) }) (br (decide (m.kind=5)) (some { m with kind:=0,sub:=(bs []) }) (br (decide (m.kind=11)) (some { m with kind:=0,filter:=kP }) (br (decide (m.kind=12)) (some (GMod.mk 0 0 0 m.sub m.filter)) (br (decide (m.kind=13)) (some (GMod.mk 0 0 0 m.sub m.filter)) (some { m with kind:=0 })))))))))))
def zZ (mask:Int):Option Bool := br (decide (1<=mask)) (br (decide (mask<=63)) (some (decide ((iL .and .i64 mask 6)=0))) (some false)) (some false)
def lG (m:GMod):Option Bool := jn (λs1:Bool=>br s1 (some false) (br (decide (m.kind=2)) (bnd (zZ m.n) λy6=>some y6) (br (decide (m.kind=3)) (bnd (zZ m.n) λy7=>some y7) (br (decide (m.kind=4)) (bnd (pq m.sub) λy8=>some y8) (br (decide (m.kind=5)) (bnd (pq m.sub) λy9=>some y9) (br (decide (m.kind=6)) (br (decide (0<=m.n)) (some (decide (m.n<=31))) (some false)) (br (decide (m.kind=7)) (br (decide (1<=m.n)) (some (decide (m.n<=31))) (some false)) (br (decide (m.kind=8)) (br (decide (1<=m.n)) (some (decide (m.n<=131071))) (some false)) (br (decide (m.kind=9)) (br (decide (1<=m.n)) (some (decide (m.n<=131071))) (some false)) (br (decide (m.kind=11)) (bnd (r13_Is m.filter) λy10=>some y10) (br (decide (m.kind=12)) (br (decide (0<=m.n)) (br (decide (m.n<=99)) (br (decide (0<=m.m)) (some (decide (m.m<=99))) (some false)) (some false)) (some false)) (br (decide (m.kind=13)) (br (decide ((-99)<=m.n)) (br (decide (m.n<=99)) (br (decide ((-99)<=m.m)) (some (decide (m.m<=99))) (some false)) (some false)) (some false)) (some true))))))))))))) λk2=>br (decide (m.kind<1)) (k2 true) (br (decide (14<m.kind)) (k2 true) (bnd (Ko m) λy4=>lt ((decide (y4.kind=0)&&(decide (y4.n=0)&&(decide (y4.m=0)&&(fQ .eql y4.sub (bs [])&&(decide (y4.filter.iI=0)&&(decide (y4.filter.who=0)&&(decide (y4.filter.self=0)&&(decide (y4.filter.types=0)&&(decide (y4.filter.iw=0)&&(decide (y4.filter.gK=0)&&(decide (y4.filter.gI=0)&&(fQ .eql y4.filter.sub (bs [])&&(decide (y4.filter.keys=0)&&(decide (y4.filter.Ar=0)&&(decide (y4.filter.power.kind=0)&&(decide (y4.filter.power.n=0)&&(decide (y4.filter.gz.kind=0)&&(decide (y4.filter.gz.n=0)&&(decide (y4.filter.value.kind=0)&&(decide (y4.filter.value.n=0)&&true))))))))))))))))))))==false) λv5=>k2 v5))
def WC (i:Int)(s1:Int×Int)(k2:(Int×Int)->Option Bool):Option Bool := br (decide (s1.2<i)) (bnd (divO .quo .i64 s1.1 2) λx4=>k2 (x4,(addI s1.2 1))) (bnd (divO .rem .i64 s1.1 2) λx5=>some (decide (x5=1)))
def Ot (mask:Int)(i:Int):Option Bool := loopF (WC i) (mask,0)
def JE (l:List ByteArray)(mask:Int)(pby:ByteArray)(s1:ByteArray×Int)(k2:(ByteArray×Int)->Option ByteArray):Option ByteArray := br (decide (s1.2<(lenI l))) (jn (λs4:ByteArray=>k2 (s4,(addI s1.2 1))) λk5=>bnd (Ot mask s1.2) λy7=>br y7 (jn (λs8:ByteArray=>bnd (gu l s1.2) λx12=>bnd (iO s8 x12) λx13=>k5 x13) λk9=>br (fQ .neq s1.1 (bs [])) (bnd (iO s1.1 pby) λx11=>k9 x11) (k9 s1.1)) (k5 s1.1)) (some s1.1)
def Lt (l:List ByteArray)(mask:Int)(pby:ByteArray):Option ByteArray := loopF (JE l mask pby) ((bs []),0)
def wE (mask:Int):Option ByteArray := br (decide (mask<1)) (some (bs [])) (br (decide (63<mask)) (some (bs [])) (bnd (yP) λy1=>bnd (Lt y1 mask (bs [43])) λy2=>some y2))
def Zw (mask:Int):Option Bool := br (decide (0<=mask)) (some (decide (mask<=31))) (some false)
def Kq (i:Int):Option ByteArray := br (decide (i=0)) (some (bs [97,109,98,101,114])) (br (decide (i=1)) (some (bs [99,111,98,97,108,116])) (br (decide (i=2)) (some (bs [106,101,116])) (br (decide (i=3)) (some (bs [114,117,98,121])) (br (decide (i=4)) (some (bs [101,109,101,114,97,108,100])) (some (bs []))))))
def Ns (mask:Int)(s2:ByteArray×Int)(k3:(ByteArray×Int)->Option ByteArray):Option ByteArray := br (decide (s2.2<5)) (jn (λs5:ByteArray=>k3 (s5,(addI s2.2 1))) λk6=>bnd (jF .shl .i64 1 s2.2) λx8=>bnd (divO .quo .i64 mask x8) λx9=>bnd (divO .rem .i64 x9 2) λx10=>br (decide (x10=1)) (jn (λs11:ByteArray=>bnd (Kq s2.2) λy15=>bnd (iO s11 y15) λx16=>k6 x16) λk12=>br (fQ .neq s2.1 (bs [])) (bnd (iO s2.1 (bs [43])) λx14=>k12 x14) (k12 s2.1)) (k6 s2.1)) (some s2.1)
def Nu (mask:Int):Option ByteArray := bnd (Zw mask) λy1=>br (y1==false) (some (bs [])) (br (decide (mask=0)) (some (bs [110,111,110,101])) (loopF (Ns mask) ((bs []),0)))
def WE (mask:Int):Option Bool := br (decide (0<=mask)) (some (decide (mask<=131071))) (some false)
def Ou  : Option (List ByteArray) := some ([(bs [102,108,121,105,110,103]),(bs [114,101,97,99,104]),(bs [104,97,115,116,101]),(bs [118,105,103,105,108,97,110,116]),(bs [116,114,97,109,112,108,101]),(bs [102,105,114,115,116,45,115,116,114,105,107,101]),(bs [100,111,117,98,108,101,45,115,116,114,105,107,101]),(bs [100,101,97,100,108,121]),(bs [108,105,102,101,108,105,110,107]),(bs [109,101,110,97,99,101]),(bs [100,101,102,101,110,100,101,114]),(bs [119,97,114,100,101,100]),(bs [115,116,117,114,100,121]),(bs [101,108,117,115,105,118,101]),(bs [110,111,45,97,116,116,97,99,107]),(bs [110,111,45,98,108,111,99,107]),(bs [109,117,115,116,45,97,116,116,97,99,107])])
def Nv (i:Int):Option ByteArray := br (decide (i<0)) (some (bs [])) (br (decide (16<i)) (some (bs [])) (bnd (Ou) λy1=>bnd (gu y1 i) λx2=>some x2))
def UA  (s2:Int×ByteArray×Int)(k3:(Int×ByteArray×Int)->Option ByteArray):Option ByteArray := br (decide (s2.2.2<17)) (jn (λs5:Int×ByteArray=>k3 (s5.1,s5.2,(addI s2.2.2 1))) λk6=>jn (λs8:ByteArray=>bnd (divO .quo .i64 s2.1 2) λx18=>k6 (x18,s8)) λk9=>bnd (divO .rem .i64 s2.1 2) λx11=>br (decide (x11=1)) (jn (λs12:ByteArray=>bnd (Nv s2.2.2) λy16=>bnd (iO s12 y16) λx17=>k9 x17) λk13=>br (fQ .neq s2.2.1 (bs [])) (bnd (iO s2.2.1 (bs [43])) λx15=>k13 x15) (k13 s2.2.1)) (k9 s2.2.1)) (br (fQ .eql s2.2.1 (bs [])) (some (bs [110,111,110,101])) (some s2.2.1))
def Nw (mask:Int):Option ByteArray := bnd (WE mask) λy1=>br (y1==false) (some (bs [])) (loopF (UA) (mask,(bs []),0))
def DT  : Option (List ByteArray) := some ([(bs []),(bs [105,110,45,104,97,110,100]),(bs [105,110,45,108,105,98,114,97,114,121]),(bs [105,110,45,103,114,97,118,101,121,97,114,100]),(bs [105,110,45,101,120,105,108,101]),(bs [111,110,45,115,116,97,99,107])])
def Fj  : Option (List ByteArray) := some ([(bs []),(bs [121,111,117,114,115]),(bs [116,104,101,105,114,115])])
def DU  : Option (List ByteArray) := some ([(bs []),(bs [115,101,108,102]),(bs [111,116,104,101,114])])
def Fp  : Option (List ByteArray) := some ([(bs []),(bs [116,97,112,112,101,100]),(bs [117,110,116,97,112,112,101,100])])
def DV (l:List ByteArray)(s:ByteArray):Option (List ByteArray) := br (fQ .eql s (bs [])) (some l) (gY (l.length+([s]).length) 16 ( some (l++[s])))
def WG (i:Int)(s1:Int×Int)(k2:(Int×Int)->Option Bool):Option Bool := br (decide (s1.2<i)) (bnd (divO .quo .i64 s1.1 2) λx4=>k2 (x4,(addI s1.2 1))) (bnd (divO .rem .i64 s1.1 2) λx5=>some (decide (x5=1)))
def IM (mask:Int)(i:Int):Option Bool := loopF (WG i) (mask,0)
def MC (i:Int)(s1:Int×Int)(k2:(Int×Int)->Option ByteArray):Option ByteArray := br (decide (s1.2<i)) (k2 ((QJ s1.1 2),(addI s1.2 1))) (bnd (wE s1.1) λy4=>some y4)
def Ba (i:Int):Option ByteArray := loopF (MC i) (1,0)
def JF  (s4:Int×ByteArray)(k5:(Int×ByteArray)->Option ByteArray):Option ByteArray := br (decide (0<s4.1)) (bnd (divO .rem .u64 s4.1 10) λx7=>bnd (jU ([(IntKind.wrap .u8 (iL .add .u64 48 x7))])) λx8=>bnd (iO x8 s4.2) λx9=>bnd (divO .quo .u64 s4.1 10) λx10=>k5 (x10,x9)) (some s4.2)
def Di (u:Int):Option ByteArray := bnd (divO .rem .u64 u 10) λx1=>bnd (jU ([(IntKind.wrap .u8 (iL .add .u64 48 x1))])) λx2=>bnd (divO .quo .u64 u 10) λx3=>loopF (JF) (x3,x2)
def Bc (n:Int):Option ByteArray := br (decide (n<0)) (bnd (Di (IntKind.wrap .u64 (0-(IntKind.wrap .u64 n)))) λy1=>bnd (iO (bs [45]) y1) λx2=>some x2) (bnd (Di (IntKind.wrap .u64 n)) λy3=>some y3)
def Ov  : Option (List ByteArray) := some ([(bs []),(bs [62,61]),(bs [60,61]),(bs [61])])
def wF (name:ByteArray)(b:rV):Option ByteArray := br (decide (b.kind=0)) (some (bs [])) (bnd (Ov) λy1=>bnd (gu y1 b.kind) λx2=>bnd (iO name x2) λx3=>bnd (Bc b.n) λy4=>bnd (iO x3 y4) λx5=>some x5)
def Ny (l:List ByteArray)(pby:ByteArray)(s1:ByteArray×Int)(k2:(ByteArray×Int)->Option ByteArray):Option ByteArray := br (decide (s1.2<(lenI l))) (jn (λs4:ByteArray=>k2 (s4,(addI s1.2 1))) λk5=>jn (λs7:ByteArray=>bnd (gu l s1.2) λx11=>bnd (iO s7 x11) λx12=>k5 x12) λk8=>br (decide (0<s1.2)) (bnd (iO s1.1 pby) λx10=>k8 x10) (k8 s1.1)) (some s1.1)
def QW (l:List ByteArray)(pby:ByteArray):Option ByteArray := loopF (Ny l pby) ((bs []),0)
def IP (f:GFilter)(y5:List ByteArray)(s50:Int×(List ByteArray))(k51:(Int×(List ByteArray))->Option ByteArray):Option ByteArray := br (decide (s50.1<17)) (jn (λs53:(List ByteArray)=>k51 ((addI s50.1 1),s53)) λk54=>bnd (IM f.keys s50.1) λy56=>br y56 (bnd (Nv s50.1) λy57=>bnd (iO (bs [119,105,116,104,58]) y57) λx58=>gY (s50.2.length+([x58]).length) 16 ( k54 (s50.2++[x58]))) (k54 s50.2)) (bnd (gu y5 f.Ar) λx59=>bnd (DV s50.2 x59) λy60=>bnd (wF (bs [112,111,119,101,114]) f.power) λy61=>bnd (DV y60 y61) λy62=>bnd (wF (bs [116,111,117,103,104]) f.gz) λy63=>bnd (DV y62 y63) λy64=>bnd (wF (bs [118,97,108,117,101]) f.value) λy65=>bnd (DV y64 y65) λy66=>br (decide ((lenI y66)=0)) (some (bs [97,110,121])) (bnd (QW y66 (bs [32])) λy67=>some y67))
def IQ (f:GFilter)(y5:List ByteArray)(s37:Int×(List ByteArray))(k38:(Int×(List ByteArray))->Option ByteArray):Option ByteArray := br (decide (s37.1<5)) (jn (λs40:(List ByteArray)=>k38 ((addI s37.1 1),s40)) λk41=>bnd (IM f.gI s37.1) λy43=>br y43 (bnd (Kq s37.1) λy44=>bnd (iO (bs [110,111,110,45]) y44) λx45=>gY (s37.2.length+([x45]).length) 16 ( k41 (s37.2++[x45]))) (k41 s37.2)) (jn (λs46:(List ByteArray)=>loopF (IP f y5) (0,s46)) λk47=>br (fQ .neq f.sub (bs [])) (bnd (iO (bs [115,117,98,58]) f.sub) λx49=>gY (s37.2.length+([x49]).length) 16 ( k47 (s37.2++[x49]))) (k47 s37.2))
def IU (f:GFilter)(y5:List ByteArray)(s29:Int×(List ByteArray))(k30:(Int×(List ByteArray))->Option ByteArray):Option ByteArray := br (decide (s29.1<5)) (jn (λs32:(List ByteArray)=>k30 ((addI s29.1 1),s32)) λk33=>bnd (IM f.gK s29.1) λy35=>br y35 (bnd (Kq s29.1) λy36=>gY (s29.2.length+([y36]).length) 16 ( k33 (s29.2++[y36]))) (k33 s29.2)) (loopF (IQ f y5) (0,s29.2))
def IV (f:GFilter)(y5:List ByteArray)(s20:Int×(List ByteArray))(k21:(Int×(List ByteArray))->Option ByteArray):Option ByteArray := br (decide (s20.1<6)) (jn (λs23:(List ByteArray)=>k21 ((addI s20.1 1),s23)) λk24=>bnd (IM f.iw s20.1) λy26=>br y26 (bnd (Ba s20.1) λy27=>bnd (iO (bs [110,111,110,45]) y27) λx28=>gY (s20.2.length+([x28]).length) 16 ( k24 (s20.2++[x28]))) (k24 s20.2)) (loopF (IU f y5) (0,s20.2))
def IW (f:GFilter)(y5:List ByteArray)(s12:Int×(List ByteArray))(k13:(Int×(List ByteArray))->Option ByteArray):Option ByteArray := br (decide (s12.1<6)) (jn (λs15:(List ByteArray)=>k13 ((addI s12.1 1),s15)) λk16=>bnd (IM f.types s12.1) λy18=>br y18 (bnd (Ba s12.1) λy19=>gY (s12.2.length+([y19]).length) 16 ( k16 (s12.2++[y19]))) (k16 s12.2)) (loopF (IV f y5) (0,s12.2))
def Nz (f:GFilter):Option ByteArray := bnd (r13_Is f) λy1=>br (y1==false) (some (bs [])) (bnd (DT) λy2=>bnd (Fj) λy3=>bnd (DU) λy4=>bnd (Fp) λy5=>bnd (gu y2 f.iI) λx6=>bnd (DV ([]) x6) λy7=>bnd (gu y3 f.who) λx8=>bnd (DV y7 x8) λy9=>bnd (gu y4 f.self) λx10=>bnd (DV y9 x10) λy11=>loopF (IW f y5) (0,y11))
def QX (m:GMod):Option ByteArray := bnd (lG m) λy1=>br (y1==false) (some (bs [])) (br (decide (m.kind=1)) (some (bs [99,111,110,116,114,111,108])) (br (decide (m.kind=2)) (bnd (wE m.n) λy2=>bnd (iO (bs [116,121,112,101,115,61]) y2) λx3=>some x3) (br (decide (m.kind=3)) (bnd (wE m.n) λy4=>bnd (iO (bs [116,121,112,101,115,43,61]) y4) λx5=>some x5) (br (decide (m.kind=4)) (bnd (iO (bs [115,117,98,61]) m.sub) λx6=>some x6) (br (decide (m.kind=5)) (bnd (iO (bs [115,117,98,43,61]) m.sub) λx7=>some x7) (br (decide (m.kind=6)) (bnd (Nu m.n) λy8=>bnd (iO (bs [99,111,108,111,114,115,61]) y8) λx9=>some x9) (br (decide (m.kind=7)) (bnd (Nu m.n) λy10=>bnd (iO (bs [99,111,108,111,114,115,43,61]) y10) λx11=>some x11) (br (decide (m.kind=8)) (bnd (Nw m.n) λy12=>bnd (iO (bs [107,101,121,115,43,61]) y12) λx13=>some x13) (br (decide (m.kind=9)) (bnd (Nw m.n) λy14=>bnd (iO (bs [107,101,121,115,45,61]) y14) λx15=>some x15) (br (decide (m.kind=10)) (some (bs [98,108,97,110,107])) (br (decide (m.kind=11)) (bnd (Nz m.filter) λy16=>bnd (iO (bs [112,116,61,99,111,117,110,116,40]) y16) λx17=>bnd (iO x17 (bs [41])) λx18=>some x18) (br (decide (m.kind=12)) (bnd (Bc m.n) λy19=>bnd (iO (bs [112,116,61]) y19) λx20=>bnd (iO x20 (bs [47])) λx21=>bnd (Bc m.m) λy22=>bnd (iO x21 y22) λx23=>some x23) (br (decide (m.kind=13)) (bnd (Bc m.n) λy24=>bnd (iO (bs [112,116,43,61]) y24) λx25=>bnd (iO x25 (bs [47])) λx26=>bnd (Bc m.m) λy27=>bnd (iO x26 y27) λx28=>some x28) (some (bs [112,116,45,115,119,105,116,99,104])))))))))))))))
def vZ (l:List GMod)(s4:ByteArray×Int)(k5:(ByteArray×Int)->Option ByteArray):Option ByteArray := br (decide (s4.2<(lenI l))) (jn (λs7:ByteArray=>k5 (s7,(addI s4.2 1))) λk8=>bnd (gu l s4.2) λx10=>bnd (lG x10) λy11=>br (y11==false) (some (bs [])) (jn (λs12:ByteArray=>bnd (gu l s4.2) λx16=>bnd (QX x16) λy17=>bnd (iO s12 y17) λx18=>k8 x18) λk13=>br (decide (0<s4.2)) (bnd (iO s4.1 (bs [44,32])) λx15=>k13 x15) (k13 s4.1))) (some s4.1)
def tH (l:List GMod):Option ByteArray := jn (λs1:Bool=>br s1 (some (bs [])) (loopF (vZ l) ((bs []),0))) λk2=>br (decide ((lenI l)=0)) (k2 true) (k2 (decide (6<(lenI l))))
def Kr (c:oJ)(s4:Int)(k5:Int->Option Bool):Option Bool := br (decide (s4<5)) (jn (λs7:Bool=>br s7 (some false) (k5 (addI s4 1))) λk8=>oL s4 5 λj10=>(match j10 with|0=>(br (decide (c.color.a0<0)) (k8 true) (oL s4 5 λj11=>(match j11 with|0=>(k8 (decide (9<c.color.a0)))  | 1=>(k8 (decide (9<c.color.a1)))  | 2=>(k8 (decide (9<c.color.a2)))  | 3=>(k8 (decide (9<c.color.a3)))  | _=>(k8 (decide (9<c.color.a4))) )))  | 1=>(br (decide (c.color.a1<0)) (k8 true) (oL s4 5 λj12=>(match j12 with|0=>(k8 (decide (9<c.color.a0)))  | 1=>(k8 (decide (9<c.color.a1)))  | 2=>(k8 (decide (9<c.color.a2)))  | 3=>(k8 (decide (9<c.color.a3)))  | _=>(k8 (decide (9<c.color.a4))) )))  | 2=>(br (decide (c.color.a2<0)) (k8 true) (oL s4 5 λj13=>(match j13 with|0=>(k8 (decide (9<c.color.a0)))  | 1=>(k8 (decide (9<c.color.a1)))  | 2=>(k8 (decide (9<c.color.a2)))  | 3=>(k8 (decide (9<c.color.a3)))  | _=>(k8 (decide (9<c.color.a4))) )))  | 3=>(br (decide (c.color.a3<0)) (k8 true) (oL s4 5 λj14=>(match j14 with|0=>(k8 (decide (9<c.color.a0)))  | 1=>(k8 (decide (9<c.color.a1)))  | 2=>(k8 (decide (9<c.color.a2)))  | 3=>(k8 (decide (9<c.color.a3)))  | _=>(k8 (decide (9<c.color.a4))) )))  | _=>(br (decide (c.color.a4<0)) (k8 true) (oL s4 5 λj15=>(match j15 with|0=>(k8 (decide (9<c.color.a0)))  | 1=>(k8 (decide (9<c.color.a1)))  | 2=>(k8 (decide (9<c.color.a2)))  | 3=>(k8 (decide (9<c.color.a3)))  | _=>(k8 (decide (9<c.color.a4))) ))) )) (some true)
def G7 (c:oJ):Option Bool := jn (λs1:Bool=>br s1 (some false) (loopF (Kr c) 0)) λk2=>br (decide (c.generic<0)) (k2 true) (br (decide (99<c.generic)) (k2 true) (br (decide (c.x<0)) (k2 true) (k2 (decide (2<c.x)))))
def Ox (p:Ld):Option Bool := bnd (G7 p.EF) λy1=>br y1 (br (decide (p.EF.x=0)) (br (decide (0<=p.life)) (some (decide (p.life<=99))) (some false)) (some false)) (some false)
def NC (when:Int):Option ByteArray := br (decide (when=1)) (some (bs [101,110,116,101,114,115])) (br (decide (when=2)) (some (bs [108,101,97,118,101,115])) (br (decide (when=3)) (some (bs [100,105,101,115])) (br (decide (when=4)) (some (bs [97,116,116,97,99,107,115])) (br (decide (when=5)) (some (bs [98,108,111,99,107,115])) (br (decide (when=6)) (some (bs [100,101,97,108,115])) (br (decide (when=7)) (some (bs [100,101,97,108,116])) (br (decide (when=8)) (some (bs [100,114,97,119,115])) (br (decide (when=9)) (some (bs [99,97,115,116,115])) (br (decide (when=10)) (some (bs [117,112,107,101,101,112])) (br (decide (when=11)) (some (bs [101,110,100])) (br (decide (when=12)) (some (bs [103,97,105,110,115])) (br (decide (when=13)) (some (bs [108,111,115,101,115])) (br (decide (when=14)) (some (bs [112,108,97,99,101,100])) (some (bs [])))))))))))))))
def G8 (when:Int):Option Bool := br (decide (when=8)) (some true) (br (decide (when=9)) (some true) (br (decide (when=10)) (some true) (br (decide (when=11)) (some true) (br (decide (when=12)) (some true) (some (decide (when=13)))))))
def DW (when:Int):Option Bool := bnd (NC when) λy1=>br (fQ .neq y1 (bs [])) (bnd (G8 when) λy2=>br (y2==false) (some true) (some (decide (when=9)))) (some false)
def Zx (t:xy):Option Bool := jn (λs1:Bool=>br s1 (some false) (bnd (DW t.when) λy6=>br (y6==false) (lt (decide (t.filter.iI=0)&&(decide (t.filter.who=0)&&(decide (t.filter.self=0)&&(decide (t.filter.types=0)&&(decide (t.filter.iw=0)&&(decide (t.filter.gK=0)&&(decide (t.filter.gI=0)&&(fQ .eql t.filter.sub (bs [])&&(decide (t.filter.keys=0)&&(decide (t.filter.Ar=0)&&(decide (t.filter.power.kind=0)&&(decide (t.filter.power.n=0)&&(decide (t.filter.gz.kind=0)&&(decide (t.filter.gz.n=0)&&(decide (t.filter.value.kind=0)&&(decide (t.filter.value.n=0)&&true)))))))))))))))) λv7=>some v7) (jn (λs8:Int=>bnd (r13_Is t.filter) λy11=>br y11 (some (decide (t.filter.iI=s8))) (some false)) λk9=>br (decide (t.when=9)) (k9 5) (k9 0)))) λk2=>bnd (NC t.when) λy4=>br (fQ .eql y4 (bs [])) (k2 true) (br (decide (t.who<0)) (k2 true) (br (decide (2<t.who)) (k2 true) (bnd (G8 t.when) λy5=>br (y5==false) (k2 (!decide (t.who=0))) (k2 false))))
def Gj (f:GFilter):Option Bool := bnd (r13_Is f) λy1=>br y1 (some (decide (f.iI=0))) (some false)
def Oy (pr:qj):Option Bool := jn (λs1:Bool=>br s1 (some false) (br (decide (pr.doF=5)) (br (decide (pr.n=0)) (br (decide (pr.counter=0)) (br (decide (pr.iI=1)) (some true) (br (decide (pr.iI=2)) (some true) (some (decide (pr.iI=4))))) (some false)) (some false)) (br (decide (pr.doF=6)) (br (decide (pr.n=0)) (br (decide (pr.counter=0)) (some (decide (pr.iI=0))) (some false)) (some false)) (br (decide (pr.doF=7)) (br (decide (pr.iI=0)) (br (decide (1<=pr.n)) (br (decide (pr.n<=99)) (br (decide (0<=pr.counter)) (some (decide (pr.counter<3))) (some false)) (some false)) (some false)) (some false)) (some false))))) λk2=>br (!decide (pr.who=0)) (k2 true) (bnd (Gj pr.filter) λy4=>k2 (y4==false))
def Oz (pr:qj):Option Bool := jn (λs1:Bool=>br s1 (some false) (jn (λs4:Bool=>br s4 (br (decide (1<=pr.n)) (some (decide (pr.n<=99))) (some false)) (some (decide (pr.n=0)))) λk5=>br (decide (pr.doF=2)) (k5 true) (k5 (decide (pr.doF=4))))) λk2=>br (!decide (pr.iI=0)) (k2 true) (k2 (!decide (pr.counter=0)))
def Zy (pr:qj):Option Bool := br (decide (pr.on=2)) (bnd (Oy pr) λy1=>some y1) (bnd (Oz pr) λy2=>br (y2==false) (some false) (lt (decide (pr.filter.iI=0)&&(decide (pr.filter.who=0)&&(decide (pr.filter.self=0)&&(decide (pr.filter.types=0)&&(decide (pr.filter.iw=0)&&(decide (pr.filter.gK=0)&&(decide (pr.filter.gI=0)&&(fQ .eql pr.filter.sub (bs [])&&(decide (pr.filter.keys=0)&&(decide (pr.filter.Ar=0)&&(decide (pr.filter.power.kind=0)&&(decide (pr.filter.power.n=0)&&(decide (pr.filter.gz.kind=0)&&(decide (pr.filter.gz.n=0)&&(decide (pr.filter.value.kind=0)&&(decide (pr.filter.value.n=0)&&true)))))))))))))))) λv3=>jn (λs4:Bool×Bool=>br (decide (pr.on=1)) (jn (λs7:Bool=>br s7 (some false) (br (decide (pr.who=0)) (bnd (Gj pr.filter) λy10=>br y10 (some true) (br (decide (pr.who=1)) (some s4.1) (br (decide (pr.who=2)) (some s4.1) (some false)))) (br (decide (pr.who=1)) (some s4.1) (br (decide (pr.who=2)) (some s4.1) (some false))))) λk8=>br (!decide (pr.doF=1)) (br (!decide (pr.doF=2)) (br (!decide (pr.doF=3)) (k8 (!decide (pr.doF=4))) (k8 false)) (k8 false)) (k8 false)) (br (decide (pr.on=8)) (br s4.2 (br (decide (pr.who=0)) (bnd (Gj pr.filter) λy11=>some y11) (some false)) (some false)) (br (decide (pr.on=3)) (br (decide (pr.doF=4)) (br (decide (0<=pr.who)) (br (decide (pr.who<=2)) (some s4.1) (some false)) (some false)) (br (decide (pr.doF=8)) (br (decide (0<=pr.who)) (br (decide (pr.who<=2)) (some s4.1) (some false)) (some false)) (some false))) (br (decide (pr.on=4)) (br s4.2 (br (decide (0<=pr.who)) (br (decide (pr.who<=2)) (some s4.1) (some false)) (some false)) (some false)) (br (decide (pr.on=5)) (br s4.2 (br (decide (0<=pr.who)) (br (decide (pr.who<=2)) (some s4.1) (some false)) (some false)) (some false)) (br (decide (pr.on=10)) (br s4.2 (br (decide (0<=pr.who)) (br (decide (pr.who<=2)) (some s4.1) (some false)) (some false)) (some false)) (some false))))))) λk5=>br (decide (pr.doF=3)) (k5 (v3,true)) (br (decide (pr.doF=4)) (k5 (v3,true)) (k5 (v3,(decide (pr.doF=8)))))))
def QY (s:rW):Option Bool := br (s.object==false) (jn (λs1:Bool=>some s1) λk2=>br s.lF (lt (decide (s.filter.iI=0)&&(decide (s.filter.who=0)&&(decide (s.filter.self=0)&&(decide (s.filter.types=0)&&(decide (s.filter.iw=0)&&(decide (s.filter.gK=0)&&(decide (s.filter.gI=0)&&(fQ .eql s.filter.sub (bs [])&&(decide (s.filter.keys=0)&&(decide (s.filter.Ar=0)&&(decide (s.filter.power.kind=0)&&(decide (s.filter.power.n=0)&&(decide (s.filter.gz.kind=0)&&(decide (s.filter.gz.n=0)&&(decide (s.filter.value.kind=0)&&(decide (s.filter.value.n=0)&&true)))))))))))))))) λv4=>k2 v4) (k2 false)) (bnd (r13_Is s.filter) λy5=>br y5 (br (decide (s.filter.iI=0)) (some true) (br (decide (s.filter.iI=3)) (some true) (some (decide (s.filter.iI=5))))) (some false))
def QZ (l:List rW)(s1:Int)(k2:Int->Option Bool):Option Bool := br (decide (s1<(lenI l))) (bnd (gu l s1) λx4=>bnd (QY x4) λy5=>br (y5==false) (some false) (k2 (addI s1 1))) (some (decide ((lenI l)<=4)))
def OA (l:List rW):Option Bool := loopF (QZ l) 0
def Q4 (op:Int):Option ByteArray := jn (λs1:Bool=>br s1 (some (bs [])) (bnd (jS 26 (qL op 1)) λj4=>bnd (([(bs [100,97,109,97,103,101]),(bs [100,101,115,116,114,111,121]),(bs [109,111,118,101]),(bs [100,114,97,119]),(bs [100,105,115,99,97,114,100]),(bs [103,97,105,110]),(bs [108,111,115,101]),(bs [116,97,112]),(bs [117,110,116,97,112]),(bs [112,117,116]),(bs [116,97,107,101]),(bs [99,114,101,97,116,101]),(bs [109,111,100]),(bs [109,97,110,97]),(bs [99,111,117,110,116,101,114]),(bs [99,111,112,121]),(bs [98,101,99,111,109,101]),(bs [115,97,99,114,105,102,105,99,101]),(bs [109,105,108,108]),(bs [115,99,114,121]),(bs [115,101,97,114,99,104]),(bs [115,104,105,101,108,100]),(bs [116,117,114,110]),(bs [119,105,110]),(bs [100,101,102,101,97,116]),(bs [118,101,110,111,109])])[j4]?) λx5=>some x5)) λk2=>br (decide (op<1)) (k2 true) (k2 (decide (26<op)))
def Q5 (op:Int):Option ByteArray := br (decide (op=2)) (some (bs [114])) (br (decide (op=8)) (some (bs [114])) (br (decide (op=9)) (some (bs [114])) (br (decide (op=15)) (some (bs [114])) (br (decide (op=16)) (some (bs [114])) (br (decide (op=17)) (some (bs [114])) (br (decide (op=25)) (some (bs [114])) (br (decide (op=3)) (some (bs [114,122])) (br (decide (op=10)) (some (bs [114,107,97])) (br (decide (op=11)) (some (bs [114,107,97])) (br (decide (op=12)) (some (bs [114,99,97])) (br (decide (op=13)) (some (bs [114,109])) (br (decide (op=14)) (some (bs [112])) (br (decide (op=18)) (some (bs [114,97,102])) (br (decide (op=20)) (some (bs [97])) (br (decide (op=21)) (some (bs [102])) (br (decide (op=23)) (some (bs [])) (br (decide (op=24)) (some (bs [])) (some (bs [114,97])))))))))))))))))))
def UB (field:Int)(y1:ByteArray)(s2:Int)(k3:Int->Option Bool):Option Bool := br (decide (s2<(y1.size:Int))) (bnd (jA y1 s2) λx5=>br (decide (x5=field)) (some true) (k3 (addI s2 1))) (some false)
def xB (op:Int)(field:Int):Option Bool := bnd (Q5 op) λy1=>loopF (UB field y1) 0
def Fq (kind:Int):Option Bool := br (decide (kind=3)) (some true) (some (decide (kind=8)))
def Zz (pr:Wy)(specs:Int):Option Bool := jn (λs1:Int=>jn (λs4:Bool=>br s4 (some false) (jn (λs7:Unit=>br (decide (pr.kind=4)) (bnd (r13_Is pr.filter) λy14=>some y14) (lt (decide (pr.filter.iI=0)&&(decide (pr.filter.who=0)&&(decide (pr.filter.self=0)&&(decide (pr.filter.types=0)&&(decide (pr.filter.iw=0)&&(decide (pr.filter.gK=0)&&(decide (pr.filter.gI=0)&&(fQ .eql pr.filter.sub (bs [])&&(decide (pr.filter.keys=0)&&(decide (pr.filter.Ar=0)&&(decide (pr.filter.power.kind=0)&&(decide (pr.filter.power.n=0)&&(decide (pr.filter.gz.kind=0)&&(decide (pr.filter.gz.n=0)&&(decide (pr.filter.value.kind=0)&&(decide (pr.filter.value.n=0)&&true)))))))))))))))) λv15=>some v15)) λk8=>bnd (Fq pr.kind) λy10=>br y10 (jn (λs11:Bool=>br s11 (some false) (k8 ())) λk12=>br (decide (pr.n<1)) (k12 true) (k12 (decide (s1<pr.n)))) (br (!decide (pr.n=0)) (some false) (k8 ())))) λk5=>br (decide (pr.kind<1)) (k5 true) (k5 (decide (8<pr.kind)))) λk2=>br (decide (4<specs)) (k2 4) (k2 specs)
def ND (kind:Int):Option ByteArray := br (decide (kind=0)) (some (bs [112,108,117,115])) (br (decide (kind=1)) (some (bs [109,105,110,117,115])) (br (decide (kind=2)) (some (bs [99,104,97,114,103,101])) (some (bs []))))
def ZA (a:yY):Option Bool := jn (λs1:yY=>br (decide (0<=a.kind)) (br (decide (a.kind<=7)) (lt (decide (s1.kind=a.kind)&&(decide (s1.n=0)&&(decide (s1.counter=0)&&(decide (s1.filter.iI=0)&&(decide (s1.filter.who=0)&&(decide (s1.filter.self=0)&&(decide (s1.filter.types=0)&&(decide (s1.filter.iw=0)&&(decide (s1.filter.gK=0)&&(decide (s1.filter.gI=0)&&(fQ .eql s1.filter.sub (bs [])&&(decide (s1.filter.keys=0)&&(decide (s1.filter.Ar=0)&&(decide (s1.filter.power.kind=0)&&(decide (s1.filter.power.n=0)&&(decide (s1.filter.gz.kind=0)&&(decide (s1.filter.gz.n=0)&&(decide (s1.filter.value.kind=0)&&(decide (s1.filter.value.n=0)&&true))))))))))))))))))) λv12=>some v12) (some false)) (some false)) λk2=>br (decide (a.kind=0)) (jn (λs4:Bool=>br s4 (some false) (k2 { a with n:=0 })) λk5=>br (decide (a.n<0)) (k5 true) (k5 (decide (1000000<a.n)))) (br (decide (a.kind=2)) (jn (λs7:Bool=>br s7 (some false) (k2 { a with n:=0,filter:=kP })) λk8=>br (decide (a.n<1)) (k8 true) (br (decide (99<a.n)) (k8 true) (bnd (r13_Is a.filter) λy10=>k8 (y10==false)))) (br (decide (a.kind=4)) (bnd (ND a.counter) λy11=>br (fQ .eql y11 (bs [])) (some false) (k2 { a with counter:=0 })) (k2 a)))
def Q7 (l:List GMod):Option Bool := bnd (tH l) λy1=>some (fQ .neq y1 (bs []))
def UC (c:oJ)(s11:ByteArray×Int)(k12:(ByteArray×Int)->Option ByteArray)(s14:ByteArray×Int)(k15:(ByteArray×Int)->Option ByteArray):Option ByteArray := jn (λs17:Bool=>br s17 (bnd (jY (bs [65,67,74,82,69]) s11.2 (addI s11.2 1)) λx21=>bnd (iO s14.1 x21) λx22=>k15 (x22,(addI s14.2 1))) (k12 (s14.1,(addI s11.2 1)))) λk18=>oL s11.2 5 λj20=>(match j20 with|0=>(k18 (decide (s14.2<c.color.a0)))  | 1=>(k18 (decide (s14.2<c.color.a1)))  | 2=>(k18 (decide (s14.2<c.color.a2)))  | 3=>(k18 (decide (s14.2<c.color.a3)))  | _=>(k18 (decide (s14.2<c.color.a4))) )
def NF (c:oJ)(s11:ByteArray×Int)(k12:(ByteArray×Int)->Option ByteArray):Option ByteArray := br (decide (s11.2<5)) (loopF (UC c s11 k12) (s11.1,0)) (br (fQ .eql s11.1 (bs [])) (some (bs [48])) (some s11.1))
def NG (c:oJ)(s2:ByteArray×Int)(k3:(ByteArray×Int)->Option ByteArray):Option ByteArray := br (decide (s2.2<c.x)) (bnd (iO s2.1 (bs [88])) λx5=>k3 (x5,(addI s2.2 1))) (jn (λs6:ByteArray=>loopF (NF c) (s6,0)) λk7=>br (!decide (c.generic=0)) (bnd (Bc c.generic) λy9=>bnd (iO s2.1 y9) λx10=>k7 x10) (k7 s2.1))
def Q8 (c:oJ):Option ByteArray := bnd (G7 c) λy1=>br (y1==false) (some (bs [])) (loopF (NG c) ((bs []),0))
def NH (p:SK Int):Option oJ := some (oJ.mk p.a0 0 (acA.mk p.a1 p.a2 p.a3 p.a4 p.a5))
def Fv (p:SK Int):Option ByteArray := bnd (NH p) λy1=>bnd (Q8 y1) λy2=>some y2
def Lu (op:Int)(f:GFilter):Option Bool := jn (λs1:Int=>bnd (r13_Is f) λy4=>br y4 (some (decide (f.iI=s1))) (some false)) λk2=>br (decide (op=21)) (k2 2) (k2 0)
def ZB (pe:iy)(specs:Int):Option Bool := bnd (Q4 pe.op) λy1=>br (fQ .eql y1 (bs [])) (some false) (lt (decide (pe.ref.kind=0)&&(decide (pe.ref.n=0)&&(decide (pe.ref.filter.iI=0)&&(decide (pe.ref.filter.who=0)&&(decide (pe.ref.filter.self=0)&&(decide (pe.ref.filter.types=0)&&(decide (pe.ref.filter.iw=0)&&(decide (pe.ref.filter.gK=0)&&(decide (pe.ref.filter.gI=0)&&(fQ .eql pe.ref.filter.sub (bs [])&&(decide (pe.ref.filter.keys=0)&&(decide (pe.ref.filter.Ar=0)&&(decide (pe.ref.filter.power.kind=0)&&(decide (pe.ref.filter.power.n=0)&&(decide (pe.ref.filter.gz.kind=0)&&(decide (pe.ref.filter.gz.n=0)&&(decide (pe.ref.filter.value.kind=0)&&(decide (pe.ref.filter.value.n=0)&&true)))))))))))))))))) λv2=>jn (λs3:Bool=>jn (λs8:Bool=>jn (λs12:Bool=>jn (λs17:Bool=>lt (decide (pe.amount.kind=0)&&(decide (pe.amount.n=0)&&(decide (pe.amount.counter=0)&&(decide (pe.amount.filter.iI=0)&&(decide (pe.amount.filter.who=0)&&(decide (pe.amount.filter.self=0)&&(decide (pe.amount.filter.types=0)&&(decide (pe.amount.filter.iw=0)&&(decide (pe.amount.filter.gK=0)&&(decide (pe.amount.filter.gI=0)&&(fQ .eql pe.amount.filter.sub (bs [])&&(decide (pe.amount.filter.keys=0)&&(decide (pe.amount.filter.Ar=0)&&(decide (pe.amount.filter.power.kind=0)&&(decide (pe.amount.filter.power.n=0)&&(decide (pe.amount.filter.gz.kind=0)&&(decide (pe.amount.filter.gz.n=0)&&(decide (pe.amount.filter.value.kind=0)&&(decide (pe.amount.filter.value.n=0)&&true))))))))))))))))))) λv22=>jn (λs23:Bool=>jn (λs28:Bool=>lt (decide (pe.pool.a0=0)&&(decide (pe.pool.a1=0)&&(decide (pe.pool.a2=0)&&(decide (pe.pool.a3=0)&&(decide (pe.pool.a4=0)&&(decide (pe.pool.a5=0)&&true)))))) λv33=>jn (λs34:Bool=>lt (decide (pe.filter.iI=0)&&(decide (pe.filter.who=0)&&(decide (pe.filter.self=0)&&(decide (pe.filter.types=0)&&(decide (pe.filter.iw=0)&&(decide (pe.filter.gK=0)&&(decide (pe.filter.gI=0)&&(fQ .eql pe.filter.sub (bs [])&&(decide (pe.filter.keys=0)&&(decide (pe.filter.Ar=0)&&(decide (pe.filter.power.kind=0)&&(decide (pe.filter.power.n=0)&&(decide (pe.filter.gz.kind=0)&&(decide (pe.filter.gz.n=0)&&(decide (pe.filter.value.kind=0)&&(decide (pe.filter.value.n=0)&&true)))))))))))))))) λv39=>jn (λs40:Bool=>br s3 (br s8 (br s12 (br s17 (br s23 (br s28 (br s34 (some s40) (some false)) (some false)) (some false)) (some false)) (some false)) (some false)) (some false)) λk41=>bnd (xB pe.op 102) λy43=>br y43 (bnd (Lu pe.op pe.filter) λy44=>k41 y44) (k41 v39)) λk35=>bnd (xB pe.op 112) λy37=>br y37 (br (v33==false) (bnd (Fv pe.pool) λy38=>k35 (fQ .neq y38 (bs []))) (k35 false)) (k35 v33)) λk29=>bnd (xB pe.op 109) λy31=>br y31 (bnd (Q7 pe.mods) λy32=>k29 y32) (k29 (decide ((lenI pe.mods)=0)))) λk24=>bnd (xB pe.op 97) λy26=>br y26 (bnd (ZA pe.amount) λy27=>k24 y27) (k24 v22)) λk18=>bnd (xB pe.op 99) λy20=>br y20 (bnd (Nr pe.card) λy21=>k18 y21) (k18 (fQ .eql pe.card (bs [])))) λk13=>br (decide (pe.counter=0)) (k13 true) (bnd (xB pe.op 107) λy15=>br y15 (bnd (ND pe.counter) λy16=>k13 (fQ .neq y16 (bs []))) (k13 false))) λk9=>br (decide (pe.iI=0)) (k9 true) (bnd (xB pe.op 122) λy11=>br y11 (br (decide (0<pe.iI)) (k9 (decide (pe.iI<=4))) (k9 false)) (k9 false))) λk4=>bnd (xB pe.op 114) λy6=>br y6 (bnd (Zz pe.ref specs) λy7=>k4 y7) (k4 v2))
def NI (l:List iy)(n:Int)(s1:Int)(k2:Int->Option Bool):Option Bool := br (decide (s1<(lenI l))) (bnd (gu l s1) λx4=>bnd (ZB x4 n) λy5=>br (y5==false) (some false) (k2 (addI s1 1))) (br (decide (1<=(lenI l))) (some (decide ((lenI l)<=8))) (some false))
def IX (l:List iy)(n:Int):Option Bool := loopF (NI l n) 0
def LC (a:fU):Option Bool := jn (λs1:Bool=>br s1 (some false) (jn (λs4:Bool=>jn (λs7:Unit=>jn (λs19:Unit=>jn (λs27:Unit=>jn (λs35:Unit=>br s4 (jn (λs40:Bool=>some s40) λk41=>bnd (OA a.specs) λy43=>br y43 (bnd (IX a.jw (lenI a.specs)) λy44=>k41 y44) (k41 false)) (br (decide ((lenI a.specs)=0)) (some (decide ((lenI a.jw)=0))) (some false))) λk36=>br (decide (a.kind=5)) (bnd (Zy a.replace) λy38=>br (y38==false) (some false) (k36 ())) (lt ((decide (a.replace.on=0)&&(decide (a.replace.who=0)&&(decide (a.replace.filter.iI=0)&&(decide (a.replace.filter.who=0)&&(decide (a.replace.filter.self=0)&&(decide (a.replace.filter.types=0)&&(decide (a.replace.filter.iw=0)&&(decide (a.replace.filter.gK=0)&&(decide (a.replace.filter.gI=0)&&(fQ .eql a.replace.filter.sub (bs [])&&(decide (a.replace.filter.keys=0)&&(decide (a.replace.filter.Ar=0)&&(decide (a.replace.filter.power.kind=0)&&(decide (a.replace.filter.power.n=0)&&(decide (a.replace.filter.gz.kind=0)&&(decide (a.replace.filter.gz.n=0)&&(decide (a.replace.filter.value.kind=0)&&(decide (a.replace.filter.value.n=0)&&(decide (a.replace.doF=0)&&(decide (a.replace.n=0)&&(decide (a.replace.iI=0)&&(decide (a.replace.counter=0)&&true))))))))))))))))))))))==false) λv39=>br v39 (some false) (k36 ()))) λk28=>br (decide (a.kind=4)) (bnd (Zx a.fZ) λy30=>br (y30==false) (some false) (k28 ())) (jn (λs31:Bool=>br s31 (some false) (k28 ())) λk32=>lt ((decide (a.fZ.when=0)&&(decide (a.fZ.who=0)&&(decide (a.fZ.filter.iI=0)&&(decide (a.fZ.filter.who=0)&&(decide (a.fZ.filter.self=0)&&(decide (a.fZ.filter.types=0)&&(decide (a.fZ.filter.iw=0)&&(decide (a.fZ.filter.gK=0)&&(decide (a.fZ.filter.gI=0)&&(fQ .eql a.fZ.filter.sub (bs [])&&(decide (a.fZ.filter.keys=0)&&(decide (a.fZ.filter.Ar=0)&&(decide (a.fZ.filter.power.kind=0)&&(decide (a.fZ.filter.power.n=0)&&(decide (a.fZ.filter.gz.kind=0)&&(decide (a.fZ.filter.gz.n=0)&&(decide (a.fZ.filter.value.kind=0)&&(decide (a.fZ.filter.value.n=0)&&true))))))))))))))))))==false) λv34=>br v34 (k32 true) (k32 a.may))) λk20=>br (decide (a.kind=3)) (bnd (Ox a.price) λy22=>br (y22==false) (some false) (k20 ())) (jn (λs23:Bool=>br s23 (some false) (k20 ())) λk24=>lt ((decide (a.price.EF.generic=0)&&(decide (a.price.EF.x=0)&&(decide (a.price.EF.color.a0=0)&&(decide (a.price.EF.color.a1=0)&&(decide (a.price.EF.color.a2=0)&&(decide (a.price.EF.color.a3=0)&&(decide (a.price.EF.color.a4=0)&&(a.price.Ar==false&&(a.price.J8==false&&(decide (a.price.life=0)&&true))))))))))==false) λv26=>br v26 (k24 true) (k24 a.slow))) λk8=>br (decide (a.kind=1)) (jn (λs10:Bool=>br s10 (some false) (k8 ())) λk11=>bnd (r13_Is a.filter) λy13=>br (y13==false) (k11 true) (br (!decide (a.filter.iI=0)) (k11 true) (bnd (tH a.mods) λy14=>k11 (fQ .eql y14 (bs []))))) (jn (λs15:Bool=>br s15 (some false) (k8 ())) λk16=>lt ((decide (a.filter.iI=0)&&(decide (a.filter.who=0)&&(decide (a.filter.self=0)&&(decide (a.filter.types=0)&&(decide (a.filter.iw=0)&&(decide (a.filter.gK=0)&&(decide (a.filter.gI=0)&&(fQ .eql a.filter.sub (bs [])&&(decide (a.filter.keys=0)&&(decide (a.filter.Ar=0)&&(decide (a.filter.power.kind=0)&&(decide (a.filter.power.n=0)&&(decide (a.filter.gz.kind=0)&&(decide (a.filter.gz.n=0)&&(decide (a.filter.value.kind=0)&&(decide (a.filter.value.n=0)&&true))))))))))))))))==false) λv18=>br v18 (k16 true) (k16 (decide (0<(lenI a.mods)))))) λk5=>br (decide (a.kind=2)) (k5 true) (br (decide (a.kind=3)) (k5 true) (k5 (decide (a.kind=4)))))) λk2=>br (decide (a.kind<1)) (k2 true) (k2 (decide (5<a.kind)))
def MF (a:List GMod)(b:List GMod)(s1:Int)(k2:Int->Option Bool):Option Bool := br (decide (s1<(lenI a))) (bnd (gu a s1) λx4=>bnd (gu b s1) λx5=>lt ((decide (x4.kind=x5.kind)&&(decide (x4.n=x5.n)&&(decide (x4.m=x5.m)&&(fQ .eql x4.sub x5.sub&&(decide (x4.filter.iI=x5.filter.iI)&&(decide (x4.filter.who=x5.filter.who)&&(decide (x4.filter.self=x5.filter.self)&&(decide (x4.filter.types=x5.filter.types)&&(decide (x4.filter.iw=x5.filter.iw)&&(decide (x4.filter.gK=x5.filter.gK)&&(decide (x4.filter.gI=x5.filter.gI)&&(fQ .eql x4.filter.sub x5.filter.sub&&(decide (x4.filter.keys=x5.filter.keys)&&(decide (x4.filter.Ar=x5.filter.Ar)&&(decide (x4.filter.power.kind=x5.filter.power.kind)&&(decide (x4.filter.power.n=x5.filter.power.n)&&(decide (x4.filter.gz.kind=x5.filter.gz.kind)&&(decide (x4.filter.gz.n=x5.filter.gz.n)&&(decide (x4.filter.value.kind=x5.filter.value.kind)&&(decide (x4.filter.value.n=x5.filter.value.n)&&true))))))))))))))))))))==false) λv6=>br v6 (some false) (k2 (addI s1 1))) (some true)
def Bd (a:List GMod)(b:List GMod):Option Bool := br (!decide ((lenI a)=(lenI b))) (some false) (loopF (MF a b) 0)
def Q9 (a:iy)(b:iy):Option Bool := br (decide (a.op=b.op)) (lt (decide (a.ref.kind=b.ref.kind)&&(decide (a.ref.n=b.ref.n)&&(decide (a.ref.filter.iI=b.ref.filter.iI)&&(decide (a.ref.filter.who=b.ref.filter.who)&&(decide (a.ref.filter.self=b.ref.filter.self)&&(decide (a.ref.filter.types=b.ref.filter.types)&&(decide (a.ref.filter.iw=b.ref.filter.iw)&&(decide (a.ref.filter.gK=b.ref.filter.gK)&&(decide (a.ref.filter.gI=b.ref.filter.gI)&&(fQ .eql a.ref.filter.sub b.ref.filter.sub&&(decide (a.ref.filter.keys=b.ref.filter.keys)&&(decide (a.ref.filter.Ar=b.ref.filter.Ar)&&(decide (a.ref.filter.power.kind=b.ref.filter.power.kind)&&(decide (a.ref.filter.power.n=b.ref.filter.power.n)&&(decide (a.ref.filter.gz.kind=b.ref.filter.gz.kind)&&(decide (a.ref.filter.gz.n=b.ref.filter.gz.n)&&(decide (a.ref.filter.value.kind=b.ref.filter.value.kind)&&(decide (a.ref.filter.value.n=b.ref.filter.value.n)&&true)))))))))))))))))) λv1=>br v1 (lt (decide (a.amount.kind=b.amount.kind)&&(decide (a.amount.n=b.amount.n)&&(decide (a.amount.counter=b.amount.counter)&&(decide (a.amount.filter.iI=b.amount.filter.iI)&&(decide (a.amount.filter.who=b.amount.filter.who)&&(decide (a.amount.filter.self=b.amount.filter.self)&&(decide (a.amount.filter.types=b.amount.filter.types)&&(decide (a.amount.filter.iw=b.amount.filter.iw)&&(decide (a.amount.filter.gK=b.amount.filter.gK)&&(decide (a.amount.filter.gI=b.amount.filter.gI)&&(fQ .eql a.amount.filter.sub b.amount.filter.sub&&(decide (a.amount.filter.keys=b.amount.filter.keys)&&(decide (a.amount.filter.Ar=b.amount.filter.Ar)&&(decide (a.amount.filter.power.kind=b.amount.filter.power.kind)&&(decide (a.amount.filter.power.n=b.amount.filter.power.n)&&(decide (a.amount.filter.gz.kind=b.amount.filter.gz.kind)&&(decide (a.amount.filter.gz.n=b.amount.filter.gz.n)&&(decide (a.amount.filter.value.kind=b.amount.filter.value.kind)&&(decide (a.amount.filter.value.n=b.amount.filter.value.n)&&true))))))))))))))))))) λv2=>br v2 (br (decide (a.counter=b.counter)) (br (decide (a.iI=b.iI)) (br (fQ .eql a.card b.card) (lt (decide (a.filter.iI=b.filter.iI)&&(decide (a.filter.who=b.filter.who)&&(decide (a.filter.self=b.filter.self)&&(decide (a.filter.types=b.filter.types)&&(decide (a.filter.iw=b.filter.iw)&&(decide (a.filter.gK=b.filter.gK)&&(decide (a.filter.gI=b.filter.gI)&&(fQ .eql a.filter.sub b.filter.sub&&(decide (a.filter.keys=b.filter.keys)&&(decide (a.filter.Ar=b.filter.Ar)&&(decide (a.filter.power.kind=b.filter.power.kind)&&(decide (a.filter.power.n=b.filter.power.n)&&(decide (a.filter.gz.kind=b.filter.gz.kind)&&(decide (a.filter.gz.n=b.filter.gz.n)&&(decide (a.filter.value.kind=b.filter.value.kind)&&(decide (a.filter.value.n=b.filter.value.n)&&true)))))))))))))))) λv3=>br v3 (lt (decide (a.pool.a0=b.pool.a0)&&(decide (a.pool.a1=b.pool.a1)&&(decide (a.pool.a2=b.pool.a2)&&(decide (a.pool.a3=b.pool.a3)&&(decide (a.pool.a4=b.pool.a4)&&(decide (a.pool.a5=b.pool.a5)&&true)))))) λv4=>br v4 (bnd (Bd a.mods b.mods) λy5=>some y5) (some false)) (some false)) (some false)) (some false)) (some false)) (some false)) (some false)) (some false)
def MG (a:List iy)(b:List iy)(s1:Int)(k2:Int->Option Bool):Option Bool := br (decide (s1<(lenI a))) (bnd (gu a s1) λx4=>bnd (gu b s1) λx5=>bnd (Q9 x4 x5) λy6=>br (y6==false) (some false) (k2 (addI s1 1))) (some true)
def Fz (a:List iy)(b:List iy):Option Bool := br (!decide ((lenI a)=(lenI b))) (some false) (loopF (MG a b) 0)
def UD (a:fU)(b:fU)(s1:Int)(k2:Int->Option Bool):Option Bool := br (decide (s1<(lenI a.specs))) (bnd (gu a.specs s1) λx4=>bnd (gu b.specs s1) λx5=>lt ((x4.lF==x5.lF&&(x4.object==x5.object&&(decide (x4.filter.iI=x5.filter.iI)&&(decide (x4.filter.who=x5.filter.who)&&(decide (x4.filter.self=x5.filter.self)&&(decide (x4.filter.types=x5.filter.types)&&(decide (x4.filter.iw=x5.filter.iw)&&(decide (x4.filter.gK=x5.filter.gK)&&(decide (x4.filter.gI=x5.filter.gI)&&(fQ .eql x4.filter.sub x5.filter.sub&&(decide (x4.filter.keys=x5.filter.keys)&&(decide (x4.filter.Ar=x5.filter.Ar)&&(decide (x4.filter.power.kind=x5.filter.power.kind)&&(decide (x4.filter.power.n=x5.filter.power.n)&&(decide (x4.filter.gz.kind=x5.filter.gz.kind)&&(decide (x4.filter.gz.n=x5.filter.gz.n)&&(decide (x4.filter.value.kind=x5.filter.value.kind)&&(decide (x4.filter.value.n=x5.filter.value.n)&&true))))))))))))))))))==false) λv6=>br v6 (some false) (k2 (addI s1 1))) (br (decide (a.kind=b.kind)) (lt (decide (a.filter.iI=b.filter.iI)&&(decide (a.filter.who=b.filter.who)&&(decide (a.filter.self=b.filter.self)&&(decide (a.filter.types=b.filter.types)&&(decide (a.filter.iw=b.filter.iw)&&(decide (a.filter.gK=b.filter.gK)&&(decide (a.filter.gI=b.filter.gI)&&(fQ .eql a.filter.sub b.filter.sub&&(decide (a.filter.keys=b.filter.keys)&&(decide (a.filter.Ar=b.filter.Ar)&&(decide (a.filter.power.kind=b.filter.power.kind)&&(decide (a.filter.power.n=b.filter.power.n)&&(decide (a.filter.gz.kind=b.filter.gz.kind)&&(decide (a.filter.gz.n=b.filter.gz.n)&&(decide (a.filter.value.kind=b.filter.value.kind)&&(decide (a.filter.value.n=b.filter.value.n)&&true)))))))))))))))) λv7=>br v7 (bnd (Bd a.mods b.mods) λy8=>br y8 (lt (decide (a.price.EF.generic=b.price.EF.generic)&&(decide (a.price.EF.x=b.price.EF.x)&&(decide (a.price.EF.color.a0=b.price.EF.color.a0)&&(decide (a.price.EF.color.a1=b.price.EF.color.a1)&&(decide (a.price.EF.color.a2=b.price.EF.color.a2)&&(decide (a.price.EF.color.a3=b.price.EF.color.a3)&&(decide (a.price.EF.color.a4=b.price.EF.color.a4)&&(a.price.Ar==b.price.Ar&&(a.price.J8==b.price.J8&&(decide (a.price.life=b.price.life)&&true)))))))))) λv9=>br v9 (br (a.slow==b.slow) (lt (decide (a.fZ.when=b.fZ.when)&&(decide (a.fZ.who=b.fZ.who)&&(decide (a.fZ.filter.iI=b.fZ.filter.iI)&&(decide (a.fZ.filter.who=b.fZ.filter.who)&&(decide (a.fZ.filter.self=b.fZ.filter.self)&&(decide (a.fZ.filter.types=b.fZ.filter.types)&&(decide (a.fZ.filter.iw=b.fZ.filter.iw)&&(decide (a.fZ.filter.gK=b.fZ.filter.gK)&&(decide (a.fZ.filter.gI=b.fZ.filter.gI)&&(fQ .eql a.fZ.filter.sub b.fZ.filter.sub&&(decide (a.fZ.filter.keys=b.fZ.filter.keys)&&(decide (a.fZ.filter.Ar=b.fZ.filter.Ar)&&(decide (a.fZ.filter.power.kind=b.fZ.filter.power.kind)&&(decide (a.fZ.filter.power.n=b.fZ.filter.power.n)&&(decide (a.fZ.filter.gz.kind=b.fZ.filter.gz.kind)&&(decide (a.fZ.filter.gz.n=b.fZ.filter.gz.n)&&(decide (a.fZ.filter.value.kind=b.fZ.filter.value.kind)&&(decide (a.fZ.filter.value.n=b.fZ.filter.value.n)&&true)))))))))))))))))) λv10=>br v10 (br (a.may==b.may) (bnd (Fz a.jw b.jw) λy11=>br y11 (lt (decide (a.replace.on=b.replace.on)&&(decide (a.replace.who=b.replace.who)&&(decide (a.replace.filter.iI=b.replace.filter.iI)&&(decide (a.replace.filter.who=b.replace.filter.who)&&(decide (a.replace.filter.self=b.replace.filter.self)&&(decide (a.replace.filter.types=b.replace.filter.types)&&(decide (a.replace.filter.iw=b.replace.filter.iw)&&(decide (a.replace.filter.gK=b.replace.filter.gK)&&(decide (a.replace.filter.gI=b.replace.filter.gI)&&(fQ .eql a.replace.filter.sub b.replace.filter.sub&&(decide (a.replace.filter.keys=b.replace.filter.keys)&&(decide (a.replace.filter.Ar=b.replace.filter.Ar)&&(decide (a.replace.filter.power.kind=b.replace.filter.power.kind)&&(decide (a.replace.filter.power.n=b.replace.filter.power.n)&&(decide (a.replace.filter.gz.kind=b.replace.filter.gz.kind)&&(decide (a.replace.filter.gz.n=b.replace.filter.gz.n)&&(decide (a.replace.filter.value.kind=b.replace.filter.value.kind)&&(decide (a.replace.filter.value.n=b.replace.filter.value.n)&&(decide (a.replace.doF=b.replace.doF)&&(decide (a.replace.n=b.replace.n)&&(decide (a.replace.iI=b.replace.iI)&&(decide (a.replace.counter=b.replace.counter)&&true)))))))))))))))))))))) λv12=>some v12) (some false)) (some false)) (some false)) (some false)) (some false)) (some false)) (some false)) (some false))
def Rf (a:fU)(b:fU):Option Bool := br (!decide ((lenI a.specs)=(lenI b.specs))) (some false) (loopF (UD a b) 0)
def Rh (s:GState)(x:oK):Option Bool := jn (λs1:Bool=>br s1 (some false) (bnd (G5 s x.id) λy7=>br (decide (x.kind=1)) (bnd (Rf x.iZ Dc) λy8=>jn (λs9:Bool=>some s9) λk10=>br (decide (x.source=x.id)) (br y7.2 (br (decide (y7.1.iI=5)) (br y8 (k10 true) (bnd (LC x.iZ) λy12=>k10 y12)) (k10 false)) (k10 false)) (k10 false)) (br (decide (x.kind=2)) (br (y7.2==false) (bnd (LC x.iZ) λy13=>some y13) (some false)) (some false)))) λk2=>bnd (wR x.id 1 (qL s.nextId 1)) λy4=>br (y4==false) (k2 true) (bnd (wR x.x 0 1000000) λy5=>br (y5==false) (k2 true) (br (decide (4<(lenI x.targets))) (k2 true) (bnd (qO s x.control) λy6=>k2 (y6==false))))
def Ym (l:List Int)(s1:Int)(k2:Int->Option Bool):Option Bool := br (decide (s1<(lenI l))) (bnd (gu l (qL s1 1)) λx4=>bnd (gu l s1) λx5=>br (decide (x5<=x4)) (some false) (k2 (addI s1 1))) (some true)
def ZC (l:List Int):Option Bool := loopF (Ym l) 1
def LD (s:GState)(s4:Int)(k5:Int->Option Bool)(s9:Int)(k10:Int->Option Bool):Option Bool := br (decide (s9<s4)) (bnd (gu s.stack s9) λx12=>bnd (gu s.stack s4) λx13=>br (decide (x12.id=x13.id)) (some false) (k10 (addI s9 1))) (k5 (addI s4 1))
def FB (s:GState)(s23:Int)(k24:Int->Option Bool):Option Bool := br (decide (s23<(lenI s.jT))) (bnd (gu s.jT s23) λx26=>jn (λs27:Bool=>br s27 (some false) (k24 (addI s23 1))) λk28=>bnd (qO s x26.control) λy30=>br (y30==false) (k28 true) (br (decide (s.kF<=x26.stamp)) (k28 true) (bnd (wR x26.acH 1 2) λy31=>br (y31==false) (k28 true) (bnd (ZC x26.objects) λy32=>br (y32==false) (k28 true) (bnd (tH x26.mods) λy33=>k28 (fQ .eql y33 (bs []))))))) (some true)
def FC (s:GState)(s14:Int)(k15:Int->Option Bool):Option Bool := br (decide (s14<(lenI s.waiting))) (bnd (gu s.waiting s14) λx17=>jn (λs18:Bool=>br s18 (some false) (k15 (addI s14 1))) λk19=>bnd (qO s x17.control) λy21=>br (y21==false) (k19 true) (br (!decide (x17.iZ.kind=4)) (k19 true) (bnd (LC x17.iZ) λy22=>k19 (y22==false)))) (loopF (FB s) 0)
def LG (s:GState)(s4:Int)(k5:Int->Option Bool):Option Bool := br (decide (s4<(lenI s.stack))) (bnd (gu s.stack s4) λx7=>bnd (Rh s x7) λy8=>br (y8==false) (some false) (loopF (LD s s4 k5) 0)) (loopF (FC s) 0)
def Gl (s:GState):Option Bool := jn (λs1:Bool=>br s1 (some false) (loopF (LG s) 0)) λk2=>br (decide (64<(lenI s.stack))) (k2 true) (br (decide (64<(lenI s.waiting))) (k2 true) (k2 (decide (64<(lenI s.jT)))))
def S9 (cards:List gq)(s:GState)(s16:Int)(k17:Int->Option Bool):Option Bool := br (decide (s16<(lenI s.extra))) (bnd (gu s.extra s16) λx19=>bnd (qO s x19) λy20=>br (y20==false) (some false) (k17 (addI s16 1))) (jn (λs21:Bool=>br s21 (some false) (bnd (zX cards s) λy25=>br y25 (bnd (Gl s) λy26=>some y26) (some false))) λk22=>br (decide (s.over=1)) (bnd (qO s s.ql) λy24=>br (y24==false) (k22 true) (br (!decide (s.over=1)) (k22 (!decide (s.ql=(-1)))) (k22 false))) (br (!decide (s.over=1)) (k22 (!decide (s.ql=(-1)))) (k22 false)))
def Td (cards:List gq)(s:GState):Option Bool := jn (λs1:Bool=>br s1 (some false) (jn (λs8:Bool=>br s8 (some false) (loopF (S9 cards s) 0)) λk9=>bnd (IL s) λy11=>br (y11==false) (k9 true) (bnd (qO s s.jZ) λy12=>br (y12==false) (k9 true) (bnd (qO s s.priority) λy13=>br (y13==false) (k9 true) (bnd (wR s.passes 0 (lenI s.fM)) λy14=>br (y14==false) (k9 true) (br (decide (500<(lenI s.extra))) (k9 true) (bnd (wR s.over 0 2) λy15=>k9 (y15==false)))))))) λk2=>bnd (wR s.nextId 1 1000000) λy4=>br (y4==false) (k2 true) (bnd (wR s.kF 1 1000000) λy5=>br (y5==false) (k2 true) (bnd (wR s.turn 0 500) λy6=>br (y6==false) (k2 true) (bnd (wR s.step 0 10) λy7=>br (y7==false) (k2 true) (k2 (decide (2048<(lenI s.objects)))))))
def Yn (l:rX)(s4:Int)(k5:Int->Option Bool):Option Bool := br (decide (s4<(lenI l.subs))) (jn (λs7:Bool=>br s7 (some false) (k5 (addI s4 1))) λk8=>bnd (gu l.subs s4) λx10=>bnd (pq x10) λy11=>br (y11==false) (k8 true) (br (decide (0<s4)) (bnd (gu l.subs (qL s4 1)) λx12=>bnd (gu l.subs s4) λx13=>k8 (fQ .geq x12 x13)) (k8 false))) (br (decide (l.types=2)) (some true) (br (decide (l.types=4)) (some true) (bnd (Ot l.types 1) λy14=>br (y14==false) (bnd (Ot l.types 2) λy15=>some (y15==false)) (some false))))
def Tf (l:rX):Option Bool := jn (λs1:Bool=>br s1 (some false) (loopF (Yn l) 0)) λk2=>br (decide (l.J9<0)) (k2 true) (br (decide (3<l.J9)) (k2 true) (br (decide (l.types<1)) (k2 true) (br (decide (63<l.types)) (k2 true) (k2 (decide (4<(lenI l.subs)))))))
def FD (c:gq):Option Bool := some (!decide ((iL .and .i64 c.line.types 1)=0))
def Ri (c:gq):Option Bool := br (decide (c.line.types=2)) (some true) (some (decide (c.line.types=4)))
def Ti (c:gq)(s12:Int×Int)(k13:(Int×Int)->Option Bool):Option Bool := br (decide (s12.2<(lenI c.fB))) (jn (λs15:Int=>k13 (s15,(addI s12.2 1))) λk16=>bnd (gu c.fB s12.2) λx18=>bnd (LC x18) λy19=>br (y19==false) (some false) (bnd (gu c.fB s12.2) λx20=>br (decide (x20.kind=2)) (k16 (addI s12.1 1)) (k16 s12.1))) (bnd (Ri c) λy21=>br y21 (jn (λs22:Bool=>some s22) λk23=>br (c.token==false) (br (decide (c.keys=0)) (br (decide ((lenI c.fB)=1)) (k23 (decide (s12.1=1))) (k23 false)) (k23 false)) (k23 false)) (br (decide (s12.1=0)) (br (c.token==false) (br (decide ((iL .and .i64 c.line.types 32)=0)) (some true) (lt (decide (c.cost.generic=0)&&(decide (c.cost.x=0)&&(decide (c.cost.color.a0=0)&&(decide (c.cost.color.a1=0)&&(decide (c.cost.color.a2=0)&&(decide (c.cost.color.a3=0)&&(decide (c.cost.color.a4=0)&&true))))))) λv25=>some v25)) (lt (decide (c.cost.generic=0)&&(decide (c.cost.x=0)&&(decide (c.cost.color.a0=0)&&(decide (c.cost.color.a1=0)&&(decide (c.cost.color.a2=0)&&(decide (c.cost.color.a3=0)&&(decide (c.cost.color.a4=0)&&true))))))) λv26=>some v26)) (some false)))
def Tj (c:gq):Option Bool := jn (λs1:Bool=>br s1 (some false) (jn (λs8:Bool=>br s8 (some false) (loopF (Ti c) (0,0))) λk9=>br (decide (c.power<0)) (k9 true) (br (decide (99<c.power)) (k9 true) (br (decide (c.gz<0)) (k9 true) (br (decide (99<c.gz)) (k9 true) (bnd (FD c) λy11=>br (y11==false) (br (!decide (c.power=0)) (k9 true) (br (!decide (c.gz=0)) (k9 true) (k9 (decide (8<(lenI c.fB)))))) (k9 (decide (8<(lenI c.fB)))))))))) λk2=>bnd (Nr c.name) λy4=>br (y4==false) (k2 true) (bnd (G7 c.cost) λy5=>br (y5==false) (k2 true) (bnd (Tf c.line) λy6=>br (y6==false) (k2 true) (bnd (WE c.keys) λy7=>br (y7==false) (k2 true) (br (decide (c.color<0)) (k2 true) (k2 (decide (31<c.color)))))))
def UE (l:List gq)(name:ByteArray)(s1:Int)(k2:Int->Option Int):Option Int := br (decide (s1<(lenI l))) (bnd (gu l s1) λx4=>br (fQ .eql x4.name name) (some s1) (k2 (addI s1 1))) (some (-1))
def Rj (l:List gq)(name:ByteArray):Option Int := loopF (UE l name) 0
def Rk (l:List gq)(name:ByteArray)(s1:Int)(k2:Int->Option Bool):Option Bool := br (decide (s1<(lenI l))) (jn (λs4:Bool=>br s4 (some true) (k2 (addI s1 1))) λk5=>bnd (gu l s1) λx7=>br (fQ .eql x7.name name) (bnd (gu l s1) λx8=>k5 x8.token) (k5 false)) (some false)
def OB (l:List gq)(name:ByteArray):Option Bool := loopF (Rk l name) 0
def G9 (l:List gq)(c:gq)(s1:Int)(k2:Int->Option Bool)(s4:Int)(k5:Int->Option Bool):Option Bool := bnd (gu c.fB s1) λx7=>br (decide (s4<(lenI x7.jw))) (bnd (gu c.fB s1) λx8=>bnd (gu x8.jw s4) λx9=>jn (λs10:Bool=>br s10 (some false) (k5 (addI s4 1))) λk11=>br (decide (x9.op=12)) (bnd (OB l x9.card) λy13=>k11 (y13==false)) (k11 false)) (k2 (addI s1 1))
def Ha (l:List gq)(c:gq)(s1:Int)(k2:Int->Option Bool):Option Bool := br (decide (s1<(lenI c.fB))) (loopF (G9 l c s1 k2) 0) (some true)
def IY (l:List gq)(c:gq):Option Bool := loopF (Ha l c) 0
def LH (l:List gq)(s1:Int)(k2:Int->Option (Int×Int)):Option (Int×Int) := br (decide (s1<(lenI l))) (bnd (gu l s1) λx4=>bnd (Tj x4) λy5=>br (y5==false) (some (s1,9)) (bnd (gu l s1) λx6=>bnd (Rj l x6.name) λy7=>br (decide (y7<s1)) (some (s1,6)) (bnd (gu l s1) λx8=>bnd (IY l x8) λy9=>br (y9==false) (some (s1,7)) (k2 (addI s1 1))))) (some ((-1),0))
def Gm (l:List gq):Option (Int×Int) := br (decide (256<(lenI l))) (some ((-1),5)) (loopF (LH l) 0)
def Be (cards:List gq)(s:GState)(s4:Int)(k5:Int->Option Bool):Option Bool := br (decide (s4<(lenI s.fM))) (bnd (gu s.fM s4) λx7=>bnd (gu s.fM s4) λx8=>bnd (gu s.fM s4) λx9=>lt (addI (addI (lenI x7.library) (lenI x8.hand)) (lenI x9.zV)) λv10=>br (decide (60<v10)) (some false) (k5 (addI s4 1))) (bnd (Gm cards) λy11=>br (decide (y11.2=0)) (bnd (Td cards s) λy12=>some y12) (some false))
def vF (cards:List gq)(s:GState):Option Bool := jn (λs1:Bool=>br s1 (some false) (loopF (Be cards s) 0)) λk2=>br (decide (12<(lenI cards))) (k2 true) (br (decide (4<(lenI s.fM))) (k2 true) (br (decide (60<(lenI s.objects))) (k2 true) (br (decide (60<(lenI s.iD))) (k2 true) (br (decide (60<(lenI s.qV))) (k2 true) (br (decide (8<(lenI s.stack))) (k2 true) (br (decide (8<(lenI s.waiting))) (k2 true) (br (decide (8<(lenI s.jT))) (k2 true) (k2 (decide (20<(lenI s.extra)))))))))))
def vP (s:List eX)(v:eX)(s1:Int)(k2:Int->Option Int):Option Int := br (decide (s1<(lenI s))) (bnd (gu s s1) λx4=>lt (decide (v.kind=x4.kind)&&(decide (v.a=x4.a)&&(decide (v.b=x4.b)&&true))) λv5=>br v5 (some s1) (k2 (addI s1 1))) (some (-1))
def yF (s:List eX)(v:eX):Option Int := loopF (vP s v) 0
def oP (s:List eX)(v:eX):Option Bool := bnd (yF s v) λy1=>some (decide (0<=y1))
def Bf (o:eX)(c1:List eX):Option Bool := bnd (oP c1 o) λy1=>some y1
def rY (s:List eX)(f:eX->Option Bool)(s1:Int)(k2:Int->Option Int):Option Int := br (decide (s1<(lenI s))) (bnd (gu s s1) λx4=>bnd (f x4) λy5=>br y5 (some s1) (k2 (addI s1 1))) (some (-1))
def mg (s:List eX)(f:eX->Option Bool):Option Int := loopF (rY s f) 0
def wX (del:eX->Option Bool)(s2:Int×Int×(List eX))(k3:(Int×Int×(List eX))->Option (List eX)):Option (List eX) := br (decide (s2.2.1<(lenI s2.2.2))) (jn (λs5:Int×(List eX)=>k3 (s5.1,(addI s2.2.1 1),s5.2)) λk6=>bnd (jS s2.2.2.length s2.2.1) λj8=>bnd (s2.2.2[j8]?) λx9=>bnd (del x9) λy10=>br (y10==false) (bnd (jS s2.2.2.length s2.1) λj11=>bnd (s2.2.2[j11]?) λx12=>k6 ((addI s2.1 1),(s2.2.2.set j11 x9))) (k6 (s2.1,s2.2.2))) (bnd (jE s2.2.2.length s2.1 ((s2.2.2.length:Nat):Int)) λx13=>lt QO λx14=>bnd (jE s2.2.2.length 0 s2.1) λx15=>some (Az (abV s2.2.2 (0+x13.1) (List.replicate (x13.2-x13.1) x14)) (0+x15.1) (x15.2-x15.1)))
def uo (s:List eX)(del:eX->Option Bool):Option (List eX) := bnd (mg s del) λy1=>br (decide (y1=(-1))) (some s) (loopF (wX del) (y1,(addI y1 1),s))
def FH (o:fC)(c1:Int):Option Bool := some (decide (o.id=c1))
def mP (s:List fC)(f:fC->Option Bool)(s1:Int)(k2:Int->Option Int):Option Int := br (decide (s1<(lenI s))) (bnd (gu s s1) λx4=>bnd (f x4) λy5=>br y5 (some s1) (k2 (addI s1 1))) (some (-1))
def gQ (s:List fC)(f:fC->Option Bool):Option Int := loopF (mP s f) 0
def LJ (s:GState)(id:Int):Option Int := bnd (gQ s.objects (λa0=>FH a0 id)) λy1=>some y1
def Kt (s:GState)(id:Int):Option (fC×Bool) := bnd (LJ s id) λy1=>br (decide (y1<0)) (some (qi,false)) (bnd (gu s.objects y1) λx2=>some (x2,true))
def wG (s:GState)(id:Int):Option (fC×Bool) := bnd (Kt s id) λy1=>br y1.2 (some (y1.1,(decide (y1.1.iI=0)))) (some (y1.1,false))
def Bg (s:GState)(p:Int):Option Bool := br (decide (0<=p)) (br (decide (p<(lenI s.fM))) (bnd (gu s.fM p) λx1=>some (x1.lost==false)) (some false)) (some false)
def Bh (cards:List gq)(s:GState)(pe:jg):Option Bool := bnd (wG s pe.object) λy1=>br (decide (pe.kind=1)) (none) (br (decide (pe.kind=2)) (none) (br (decide (pe.kind=3)) (none) (br (decide (pe.kind=14)) (none) (br (decide (pe.kind=15)) (none) (br (decide (pe.kind=17)) (none) (br (decide (pe.kind=4)) (none) (br (decide (pe.kind=5)) (none) (br (decide (pe.kind=16)) (none) (br (decide (pe.kind=6)) (br y1.2 (some (y1.1.kN==false)) (some false)) (br (decide (pe.kind=7)) (none) (br (decide (pe.kind=8)) (none) (br (decide (pe.kind=9)) (none) (br (decide (pe.kind=10)) (none) (br (decide (pe.kind=11)) (none) (br (decide (pe.kind=12)) (br y1.2 (bnd (Bg s pe.lF) λy2=>some y2) (some false)) (br (decide (pe.kind=13)) (none) (some false)))))))))))))))))
def He (o:fC)(c1:Int):Option Bool := some (decide (o.id=c1))
def Bi (s:GState)(all:List eQ)(id:Int):Option (fC×eQ×Bool) := bnd (gQ s.objects (λa0=>He a0 id)) λy1=>br (decide (y1<0)) (some (qi,zGTraits,false)) (br (decide ((lenI all)<=y1)) (bnd (gu s.objects y1) λx2=>some (x2,zGTraits,true)) (bnd (gu s.objects y1) λx3=>bnd (gu all y1) λx4=>some (x3,x4,true)))
def yZ (cards:List gq)(s:GState)(all:List eQ)(pe:jg)(pr:qj)(you:Int)(source:Int):Option Bool := br (!decide (pr.on=pe.kind)) (some false) (br (decide (pe.kind=1)) (none) (br (decide (pe.kind=2)) (none) (br (decide (pe.kind=8)) (none) (br (decide (pe.kind=3)) (none) (br (decide (pe.kind=4)) (none) (br (decide (pe.kind=5)) (none) (br (decide (pe.kind=10)) (none) (some false))))))))
def Hf (cards:List gq)(s:GState)(all:List eQ)(pe:jg)(s9:Int×(List eX))(k10:(Int×(List eX))->Option (List eX))(y13:fC×eQ×Bool)(s14:fC×Int×(List eX))(k15:(fC×Int×(List eX))->Option (List eX)):Option (List eX) := br (decide (s14.2.1<(lenI y13.2.1.fB))) (jn (λs17:fC×(List eX)=>k15 (s17.1,(addI s14.2.1 1),s17.2)) λk18=>bnd (gu y13.2.1.fB s14.2.1) λx20=>jn (λs21:Bool=>br s21 (lt (eX.mk 12 s14.1.id s14.2.1) λx25=>gY (s14.2.2.length+([x25]).length) 24 ( k18 (s14.1,(s14.2.2++[x25])))) (k18 (s14.1,s14.2.2))) λk22=>br (decide (s14.1.iI=0)) (br (decide (x20.kind=5)) (bnd (yZ cards s all pe x20.replace y13.2.1.control s14.1.id) λy24=>k22 y24) (k22 false)) (k22 false)) (k10 ((addI s9.1 1),s14.2.2))
def zF (cards:List gq)(s:GState)(all:List eQ)(pe:jg)(s9:Int×(List eX))(k10:(Int×(List eX))->Option (List eX)):Option (List eX) := br (decide (s9.1<(lenI s.objects))) (bnd (gu s.objects s9.1) λx12=>bnd (Bi s all x12.id) λy13=>loopF (Hf cards s all pe s9 k10 y13) (x12,0,s9.2)) (jn (λs26:Bool=>br s26 (some s9.2) (none)) λk27=>br (!decide (pe.kind=2)) (k27 true) (k27 (!decide (pe.to=0))))
def zf (cards:List gq)(s:GState)(all:List eQ)(pe:jg):Option (List eX) := bnd (Bh cards s pe) λy1=>br (y1==false) (some ([])) (jn (λs2:Unit=>loopF (zF cards s all pe) (0,[])) λk3=>bnd (Bi s all pe.object) λy5=>jn (λs6:Bool=>br s6 (none) (k3 ())) λk7=>br y5.2.2 (br (decide (pe.kind=1)) (br (!decide (pe.object=0)) (k7 (decide (0<y5.1.JD))) (k7 false)) (k7 false)) (k7 false))
def FK (cards:List gq)(s:GState)(all:List eQ)(pe:jg)(used:List eX):Option (List eX) := bnd (zf cards s all pe) λy1=>bnd (uo y1 (λa0=>Bf a0 used)) λy2=>some y2
def pR (c0:List gq)(c1:GState)(c2:List eQ)(c3:jg)(c4:List eX)(c5:Bool):Option (List eX) := bnd (FK c0 c1 c2 c3 ([])) λy1=>br c5 (some y1) (none)
def IZ (pe:jg):Option Bool := br (decide (pe.kind=1)) (some (!decide (pe.object=0))) (br (decide (pe.kind=2)) (br (decide (pe.adW=0)) (some true) (some (decide (pe.to=0)))) (br (decide (pe.kind=6)) (some true) (br (decide (pe.kind=7)) (some true) (br (decide (pe.kind=8)) (some true) (br (decide (pe.kind=9)) (some true) (some false))))))
def Tm (s:GState)(all:List eQ)(pe:jg)(s2:Int)(k3:Int->Option Int):Option Int := br (decide (s2<(lenI s.objects))) (bnd (gu s.objects s2) λx5=>br (!decide (x5.id=pe.object)) (k3 (addI s2 1)) (br (decide (s2<(lenI all))) (bnd (gu all s2) λx6=>some x6.control) (some 0))) (some pe.lF)
def JG (s:GState)(all:List eQ)(pe:jg):Option Int := bnd (IZ pe) λy1=>br (y1==false) (some pe.lF) (loopF (Tm s all pe) 0)
def slices_Clone_int (s:List Int):Option (List Int) := pO (some ([])) (gY (0+s.length) 8 ( some s))
def jo (s:List GMod):Option (List GMod) := pO (some ([])) (gY (0+s.length) 176 ( some s))
def LK (c:oJ)(s1:Int)(k2:Int->Option Bool):Option Bool := br (decide (s1<5)) (jn (λs4:Int=>jn (λs8:Bool=>br s8 (some false) (k2 (addI s1 1))) λk9=>br (decide (s4<0)) (k9 true) (k9 (decide (9<s4)))) λk5=>oL s1 5 λj7=>(match j7 with|0=>(k5 c.color.a0)  | 1=>(k5 c.color.a1)  | 2=>(k5 c.color.a2)  | 3=>(k5 c.color.a3)  | _=>(k5 c.color.a4) )) (br (decide (0<=c.generic)) (br (decide (c.generic<=99)) (br (decide (0<=c.x)) (some (decide (c.x<=2))) (some false)) (some false)) (some false))
def I4 (c:oJ):Option Bool := loopF (LK c) 0
def xC (c:oJ)(s6:Int×Int)(k7:(Int×Int)->Option Int):Option Int := br (decide (s6.2<5)) (jn (λs9:Int=>k7 (s9,(addI s6.2 1))) λk10=>jn (λs12:Int=>br (decide (0<s12)) (bnd (jF .shl .i64 1 s6.2) λx16=>k10 (iL .or .i64 s6.1 x16)) (k10 s6.1)) λk13=>oL s6.2 5 λj15=>(match j15 with|0=>(k13 c.color.a0)  | 1=>(k13 c.color.a1)  | 2=>(k13 c.color.a2)  | 3=>(k13 c.color.a3)  | _=>(k13 c.color.a4) )) (some s6.1)
def xE (c:oJ):Option Int := jn (λs1:Bool=>br s1 (some 0) (loopF (xC c) (0,0))) λk2=>bnd (I4 c) λy4=>br (y4==false) (k2 true) (lt (decide (c.color.a0=0)&&(decide (c.color.a1=0)&&(decide (c.color.a2=0)&&(decide (c.color.a3=0)&&(decide (c.color.a4=0)&&true))))) λv5=>k2 v5)
def slices_Clone_string (s:List ByteArray):Option (List ByteArray) := pO (some ([])) (gY (0+s.length) 16 ( some s))
def ng (s:List rW):Option (List rW) := pO (some ([])) (gY (0+s.length) 144 ( some s))
def oW (s:List iy):Option (List iy) := pO (some ([])) (gY (0+s.length) 560 ( some s))
def uz (a:fU)(y1:List GMod)(y2:List rW)(y3:List iy)(s4:Int×(List iy))(k5:(Int×(List iy))->Option fU):Option fU := br (decide (s4.1<(lenI y3))) (bnd (jS s4.2.length s4.1) λj7=>bnd (s4.2[j7]?) λx8=>bnd (jo x8.mods) λy9=>bnd (jS s4.2.length s4.1) λj10=>bnd (s4.2[j10]?) λx11=>k5 ((addI s4.1 1),(s4.2.set j10 { x11 with mods:=y9 }))) (some { a with mods:=y1,specs:=y2,jw:=s4.2 })
def uM (a:fU):Option fU := bnd (jo a.mods) λy1=>bnd (ng a.specs) λy2=>bnd (oW a.jw) λy3=>loopF (uz a y1 y2 y3) (0,y3)
def sU (c:gq)(y1:Int)(y2:List ByteArray)(s3:Int×(List fU))(k4:(Int×(List fU))->Option eQ):Option eQ := br (decide (s3.1<(lenI c.fB))) (bnd (gu c.fB s3.1) λx6=>bnd (uM x6) λy7=>gY (s3.2.length+([y7]).length) 640 ( k4 ((addI s3.1 1),(s3.2++[y7])))) (some { c with gK:=(iL .or .i64 y1 c.color),line:={ c.line with subs:=y2 },fB:=s3.2,control:=0 })
def qg (c:gq):Option eQ := bnd (xE c.cost) λy1=>bnd (slices_Clone_string c.line.subs) λy2=>loopF (sU c y1 y2) (0,[])
def I5 (cards:List gq)(o:fC):Option eQ := jn (λs1:Int=>jn (λs4:eQ=>br (decide (o.iI=0)) (some { s4 with control:=o.control }) (br (decide (o.iI=5)) (some { s4 with control:=o.control }) (some { s4 with control:=o.owner }))) λk5=>jn (λs7:Bool=>br s7 (bnd (gu cards s1) λx10=>bnd (qg x10) λy11=>k5 y11) (k5 zGTraits)) λk8=>br (decide (0<=s1)) (k8 (decide (s1<(lenI cards)))) (k8 false)) λk2=>br (decide (o.copy<0)) (k2 o.card) (k2 o.copy)
def EG (k5:(List GLayerForce)->Option (List GLayerForce))(x7:fC)(y8:eQ)(s9:Int×(List GLayerForce))(k10:(Int×(List GLayerForce))->Option (List GLayerForce)):Option (List GLayerForce) := br (decide (s9.1<(lenI y8.fB))) (jn (λs12:(List GLayerForce)=>k10 ((addI s9.1 1),s12)) λk13=>bnd (gu y8.fB s9.1) λx15=>br (decide (x15.kind=1)) (bnd (jo x15.mods) λy16=>lt (GLayerForce.mk x7.id s9.1 x7.control x7.stamp false ([]) x15.filter y16) λx17=>gY (s9.2.length+([x17]).length) 224 ( k13 (s9.2++[x17]))) (k13 s9.2)) (k5 s9.2)
def EH (s:GState)(s18:Int×(List GLayerForce))(k19:(Int×(List GLayerForce))->Option (List GLayerForce)):Option (List GLayerForce) := br (decide (s18.1<(lenI s.jT))) (bnd (gu s.jT s18.1) λx21=>bnd (slices_Clone_int x21.objects) λy22=>bnd (jo x21.mods) λy23=>lt (GLayerForce.mk x21.source (-1) x21.control x21.stamp true y22 kP y23) λx24=>gY (s18.2.length+([x24]).length) 224 ( k19 ((addI s18.1 1),(s18.2++[x24])))) (some s18.2)
def EI (cards:List gq)(s:GState)(s1:Int×(List GLayerForce))(k2:(Int×(List GLayerForce))->Option (List GLayerForce)):Option (List GLayerForce) := br (decide (s1.1<(lenI s.objects))) (jn (λs4:(List GLayerForce)=>k2 ((addI s1.1 1),s4)) λk5=>bnd (gu s.objects s1.1) λx7=>br (!decide (x7.iI=0)) (k5 s1.2) (bnd (I5 cards x7) λy8=>loopF (EG k5 x7 y8) (0,s1.2))) (loopF (EH s) (0,s1.2))
def FM (cards:List gq)(s:GState):Option (List GLayerForce) := loopF (EI cards s) (0,[])
def Bj (cards:List gq)(s:GState)(y1:List GLayerForce)(s4:Int×(List eQ)×(List Bool))(k5:(Int×(List eQ)×(List Bool))->Option GLayerWorld):Option GLayerWorld := br (decide (s4.1<(lenI s.objects))) (bnd (gu s.objects s4.1) λx7=>bnd (I5 cards x7) λy8=>gY (s4.2.1.length+([y8]).length) 176 ( k5 ((addI s4.1 1),(s4.2.1++[y8]),s4.2.2))) (bnd (jm (lenI y1) (lenI y1) 1) λj9=>lt false λx10=>bnd (jm (lenI y1) (lenI y1) 24) λj11=>lt ([]) λx12=>some (GLayerWorld.mk s y1 s4.2.1 s4.2.2 (List.replicate j9 x10) (List.replicate j11 x12)))
def Ei (cards:List gq)(s:GState):Option GLayerWorld := bnd (FM cards s) λy1=>bnd (jm (lenI s.objects) (lenI s.objects) 1) λj2=>lt false λx3=>loopF (Bj cards s y1) (0,[],(List.replicate j2 x3))
def uA (k:Int)(c1:Int):Option Bool := some (decide (k=c1))
def uN (s:List Int)(f:Int->Option Bool)(s1:Int)(k2:Int->Option Int):Option Int := br (decide (s1<(lenI s))) (bnd (gu s s1) λx4=>bnd (f x4) λy5=>br y5 (some s1) (k2 (addI s1 1))) (some (-1))
def nZ (s:List Int)(f:Int->Option Bool):Option Int := loopF (uN s f) 0
def uq (del:Int->Option Bool)(s2:Int×Int×(List Int))(k3:(Int×Int×(List Int))->Option (List Int)):Option (List Int) := br (decide (s2.2.1<(lenI s2.2.2))) (jn (λs5:Int×(List Int)=>k3 (s5.1,(addI s2.2.1 1),s5.2)) λk6=>bnd (jS s2.2.2.length s2.2.1) λj8=>bnd (s2.2.2[j8]?) λx9=>bnd (del x9) λy10=>br (y10==false) (bnd (jS s2.2.2.length s2.1) λj11=>bnd (s2.2.2[j11]?) λx12=>k6 ((addI s2.1 1),(s2.2.2.set j11 x9))) (k6 (s2.1,s2.2.2))) (bnd (jE s2.2.2.length s2.1 ((s2.2.2.length:Nat):Int)) λx13=>lt 0 λx14=>bnd (jE s2.2.2.length 0 s2.1) λx15=>some (Az (abV s2.2.2 (0+x13.1) (List.replicate (x13.2-x13.1) x14)) (0+x15.1) (x15.2-x15.1)))
def pU (s:List Int)(del:Int->Option Bool):Option (List Int) := bnd (nZ s del) λy1=>br (decide (y1=(-1))) (some s) (loopF (uq del) (y1,(addI y1 1),s))
def pz (n:Int):Option Int := some (if 1000000<(if n<(-1000000) then(-1000000) else n) then 1000000 else(if n<(-1000000) then(-1000000) else n))
def OC (a:Int)(b:Int):Option Int := bnd (pz a) λy1=>bnd (pz b) λy2=>bnd (pz (qL y1 y2)) λy3=>some y3
def wH (c:Nk Int):Option Int := bnd (OC c.a0 c.a1) λy1=>some y1
def DX (a:Int)(b:Int):Option Int := bnd (pz a) λy1=>bnd (pz b) λy2=>bnd (pz (addI y1 y2)) λy3=>some y3
def uO (w:GLayerWorld)(s1:Int×(List eQ))(k2:(Int×(List eQ))->Option GLayerWorld):Option GLayerWorld := br (decide (s1.1<(lenI w.s.objects))) (jn (λs4:(List eQ)=>k2 ((addI s1.1 1),s4)) λk5=>bnd (gu w.s.objects s1.1) λx7=>bnd (jS s1.2.length s1.1) λj8=>jn (λs9:Bool=>br s9 (bnd (wH x7.counters) λy13=>bnd (s1.2[j8]?) λx14=>bnd (DX x14.power y13) λy15=>bnd (s1.2[j8]?) λx16=>bnd (DX x16.gz y13) λy17=>bnd (s1.2[j8]?) λx18=>bnd ((s1.2.set j8 { x18 with power:=y15 })[j8]?) λx19=>k5 ((s1.2.set j8 { x18 with power:=y15 }).set j8 { x19 with gz:=y17 })) (k5 s1.2)) λk10=>br (decide (x7.iI=0)) (bnd (s1.2[j8]?) λx12=>k10 (!decide ((iL .and .i64 x12.line.types 1)=0))) (k10 false)) (some { w with traits:=s1.2 })
def qm (w:GLayerWorld):Option GLayerWorld := loopF (uO w) (0,w.traits)
def uP (kind:Int):Option Int := br (decide (kind=1)) (some 1) (br (decide (kind=2)) (some 2) (br (decide (kind=3)) (some 2) (br (decide (kind=4)) (some 2) (br (decide (kind=5)) (some 2) (br (decide (kind=6)) (some 3) (br (decide (kind=7)) (some 3) (br (decide (kind=8)) (some 4) (br (decide (kind=9)) (some 4) (br (decide (kind=10)) (some 4) (br (decide (kind=11)) (some (qL (addI 5 kind) 11)) (br (decide (kind=12)) (some (qL (addI 5 kind) 11)) (br (decide (kind=13)) (some (qL (addI 5 kind) 11)) (br (decide (kind=14)) (some (qL (addI 5 kind) 11)) (some 0))))))))))))))
def wo (m:GMod)(c1:Int):Option Bool := bnd (uP m.kind) λy1=>some (decide (y1=c1))
def uQ (s:List GMod)(f:GMod->Option Bool)(s1:Int)(k2:Int->Option Int):Option Int := br (decide (s1<(lenI s))) (bnd (gu s s1) λx4=>bnd (f x4) λy5=>br y5 (some s1) (k2 (addI s1 1))) (some (-1))
def xG (s:List GMod)(f:GMod->Option Bool):Option Int := loopF (uQ s f) 0
def uS (s:List GMod)(f:GMod->Option Bool):Option Bool := bnd (xG s f) λy1=>some (decide (0<=y1))
def DY (f:GLayerForce)(stage:Int):Option Bool := bnd (uS f.mods (λa0=>wo a0 stage)) λy1=>some y1
def yQ (needs:List (List Bool))(i:Int)(j:Int):Option Bool := br (decide (0<=i)) (br (decide (0<=j)) (br (decide (i<(lenI needs))) (bnd (gu needs i) λx1=>br (decide (j<(lenI x1))) (bnd (gu needs i) λx2=>bnd (gu x2 j) λx3=>some x3) (some false)) (some false)) (some false)) (some false)
def yG (s:List Int)(v:Int)(s1:Int)(k2:Int->Option Int):Option Int := br (decide (s1<(lenI s))) (bnd (gu s s1) λx4=>br (decide (v=x4)) (some s1) (k2 (addI s1 1))) (some (-1))
def slices_Index_int (s:List Int)(v:Int):Option Int := loopF (yG s v) 0
def rZ (i:Int)(j:Int)(c2:List Int)(c3:List (List Bool)):Option Bool := bnd (slices_Index_int c2 i) λy1=>bnd (slices_Index_int c2 j) λy2=>br (decide (0<=y1)) (br (decide (0<=y2)) (bnd (gu c3 y1) λx3=>bnd (gu x3 y2) λx4=>some x4) (some false)) (some false)
def xH (j:Int)(c1:Int)(c2:List (List Bool))(c3:Int->Int->Option Bool):Option Bool := br (!decide (j=c1)) (bnd (yQ c2 c1 j) λy1=>br y1 (bnd (c3 j c1) λy2=>some (y2==false)) (some false)) (some false)
def qA (s:List Int)(f:Int->Option Bool):Option Bool := bnd (nZ s f) λy1=>some (decide (0<=y1))
def slices_Contains_int (s:List Int)(v:Int):Option Bool := bnd (slices_Index_int s v) λy1=>some (decide (0<=y1))
def zG (left:List Int)(s1:Int×(List Int))(k2:(Int×(List Int))->Option (List Int)):Option (List Int) := br (decide (s1.1<(lenI left))) (jn (λs4:(List Int)=>k2 ((addI s1.1 1),s4)) λk5=>bnd (gu left s1.1) λx7=>jn (λs8:Bool=>br s8 (gY (s1.2.length+([x7]).length) 8 ( k5 (s1.2++[x7]))) (k5 s1.2)) λk9=>br (decide (0<=x7)) (bnd (slices_Contains_int s1.2 x7) λy11=>k9 (y11==false)) (k9 false)) (some s1.2)
def zg (left:List Int):Option (List Int) := loopF (zG left) (0,[])
def zh (l:List Int)(needs:List (List Bool))(s2:Int×(List (List Bool)))(k3:(Int×(List (List Bool)))->Option ((List Int)×(List (List Bool))))(s11:Int×(List (List Bool)))(k12:(Int×(List (List Bool)))->Option ((List Int)×(List (List Bool)))):Option ((List Int)×(List (List Bool))) := br (decide (s11.1<(lenI l))) (bnd (jS s11.2.length s2.1) λj14=>bnd (s11.2[j14]?) λx15=>bnd (gu l s2.1) λx16=>bnd (gu l s11.1) λx17=>bnd (yQ needs x16 x17) λy18=>bnd (jS x15.length s11.1) λj19=>bnd (s11.2[j14]?) λx20=>bnd (x20[j19]?) λx21=>k12 ((addI s11.1 1),(s11.2.set j14 (x20.set j19 y18)))) (k3 ((addI s2.1 1),s11.2))
def zi (l:List Int)(s22:Int×(List (List Bool)))(s25:Int×(List (List Bool)))(k26:(Int×(List (List Bool)))->Option ((List Int)×(List (List Bool))))(s28:Int×(List (List Bool)))(k29:(Int×(List (List Bool)))->Option ((List Int)×(List (List Bool)))):Option ((List Int)×(List (List Bool))) := br (decide (s28.1<(lenI l))) (jn (λs31:(List (List Bool))=>k29 ((addI s28.1 1),s31)) λk32=>jn (λs34:Bool=>br s34 (bnd (jS s28.2.length s25.1) λj47=>bnd (s28.2[j47]?) λx48=>bnd (jS x48.length s28.1) λj49=>lt true λx50=>bnd (s28.2[j47]?) λx51=>bnd (x51[j49]?) λx52=>k32 (s28.2.set j47 (x51.set j49 x50))) (k32 s28.2)) λk35=>bnd (jS s28.2.length s25.1) λj37=>bnd (s28.2[j37]?) λx38=>bnd (jS x38.length s22.1) λj39=>bnd (s28.2[j37]?) λx40=>bnd (x40[j39]?) λx41=>br x41 (bnd (jS s28.2.length s22.1) λj42=>bnd (s28.2[j42]?) λx43=>bnd (jS x43.length s28.1) λj44=>bnd (s28.2[j42]?) λx45=>bnd (x45[j44]?) λx46=>k35 x46) (k35 false)) (k26 ((addI s25.1 1),s28.2))
def zk (l:List Int)(s22:Int×(List (List Bool)))(k23:(Int×(List (List Bool)))->Option ((List Int)×(List (List Bool))))(s25:Int×(List (List Bool)))(k26:(Int×(List (List Bool)))->Option ((List Int)×(List (List Bool)))):Option ((List Int)×(List (List Bool))) := br (decide (s25.1<(lenI l))) (loopF (zi l s22 s25 k26) (0,s25.2)) (k23 ((addI s22.1 1),s25.2))
def zl (l:List Int)(s22:Int×(List (List Bool)))(k23:(Int×(List (List Bool)))->Option ((List Int)×(List (List Bool)))):Option ((List Int)×(List (List Bool))) := br (decide (s22.1<(lenI l))) (loopF (zk l s22 k23) (0,s22.2)) (some (l,s22.2))
def zn (l:List Int)(needs:List (List Bool))(j1:Nat)(s2:Int×(List (List Bool)))(k3:(Int×(List (List Bool)))->Option ((List Int)×(List (List Bool)))):Option ((List Int)×(List (List Bool))) := lt (decide (s2.1<(lenI (List.replicate j1 ([]:List Bool))))) λv5=>br v5 (bnd (jm (lenI l) (lenI l) 1) λj6=>lt false λx7=>bnd (jS s2.2.length s2.1) λj8=>bnd (s2.2[j8]?) λx10=>loopF (zh l needs s2 k3) (0,(s2.2.set j8 (List.replicate j6 x7)))) (loopF (zl l) (0,s2.2))
def Bl (l:List Int)(needs:List (List Bool)):Option ((List Int)×(List (List Bool))) := bnd (jm (lenI l) (lenI l) 24) λj1=>loopF (zn l needs j1) (0,(List.replicate j1 ([]:List Bool)))
def EJ (needs:List (List Bool))(y1:List Int)(y2:(List Int)×(List (List Bool)))(s3:Int×(List Int))(k4:(Int×(List Int))->Option (List Int)):Option (List Int) := br (decide (s3.1<(lenI y1))) (jn (λs6:(List Int)=>k4 ((addI s3.1 1),s6)) λk7=>bnd (gu y1 s3.1) λx9=>bnd (qA y1 (λa0=>xH a0 x9 needs (λa0 a1=>rZ a0 a1 y2.1 y2.2))) λy10=>br (y10==false) (gY (s3.2.length+([x9]).length) 8 ( k7 (s3.2++[x9]))) (k7 s3.2)) (some s3.2)
def FN (left:List Int)(needs:List (List Bool)):Option (List Int) := bnd (zg left) λy1=>bnd (Bl y1 needs) λy2=>loopF (EJ needs y1 y2) (0,[])
def Bo (stamps:List Int)(i:Int):Option Int := br (decide (i<(lenI stamps))) (bnd (gu stamps i) λx1=>some x1) (some 0)
def Hg (stamps:List Int)(y1:List Int)(s2:Int×Int)(k3:(Int×Int)->Option Int):Option Int := br (decide (s2.2<(lenI y1))) (jn (λs5:Int=>k3 (s5,(addI s2.2 1))) λk6=>bnd (gu y1 s2.2) λx8=>br (decide (s2.1<0)) (k6 x8) (bnd (Bo stamps x8) λy9=>bnd (Bo stamps s2.1) λy10=>jn (λs11:Bool=>br s11 (k6 x8) (k6 s2.1)) λk12=>br (decide (y9<y10)) (k12 true) (br (decide (y9=y10)) (k12 (decide (x8<s2.1))) (k12 false)))) (some s2.1)
def I7 (left:List Int)(stamps:List Int)(needs:List (List Bool)):Option Int := bnd (FN left needs) λy1=>loopF (Hg stamps y1) ((-1),0)
def cmp_isNaN_int (x:Int):Option Bool := some (!decide (x=x))
def cmp_Compare_int (x:Int)(y:Int):Option Int := bnd (cmp_isNaN_int x) λy1=>bnd (cmp_isNaN_int y) λy2=>br y1 (br y2 (some 0) (some (-1))) (br y2 (some 1) (br (decide (x<y)) (some (-1)) (br (decide (y<x)) (some 1) (some 0))))
def yR (o:fC)(id:Int):Option Int := bnd (cmp_Compare_int o.id id) λy1=>some y1
def uT (x:List fC)(target:Int)(cmp:fC->Int->Option Int)(s1:Int×Int)(k2:(Int×Int)->Option (Int×Bool)):Option (Int×Bool) := br (decide (s1.1<s1.2)) (bnd (jF .shr .u64 (IntKind.wrap .u64 (addI s1.1 s1.2)) 1) λx4=>bnd (gu x (IntKind.wrap .i64 x4)) λx5=>bnd (cmp x5 target) λy6=>br (decide (y6<0)) (k2 ((addI (IntKind.wrap .i64 x4) 1),s1.2)) (k2 (s1.1,(IntKind.wrap .i64 x4)))) (br (decide (s1.1<(lenI x))) (bnd (gu x s1.1) λx7=>bnd (cmp x7 target) λy8=>some (s1.1,(decide (y8=0)))) (some (s1.1,false)))
def oG (x:List fC)(target:Int)(cmp:fC->Int->Option Int):Option (Int×Bool) := loopF (uT x target cmp) (0,(lenI x))
def rE (s:GState)(id:Int):Option Int := bnd (oG s.objects id yR) λy1=>br (y1.2==false) (some (-1)) (some y1.1)
def nP (w:GLayerWorld)(i:Int):Option Int := bnd (gu w.forces i) λx1=>bnd (rE w.s x1.source) λy2=>jn (λs3:Bool=>br s3 (bnd (gu w.traits y2) λx6=>some x6.control) (some x1.control)) λk4=>br (x1.fixed==false) (k4 (decide (0<=y2))) (k4 false)
def pV (w:GLayerWorld)(i:Int):Option Bool := bnd (gu w.forces i) λx1=>jn (λs2:Bool=>br s2 (some true) (bnd (rE w.s x1.source) λy7=>br (decide (y7<0)) (some true) (bnd (jS w.dropped.length y7) λj8=>bnd (w.dropped[j8]?) λx9=>some (x9==false)))) λk3=>br x1.fixed (k3 true) (bnd (jS w.done.length i) λj5=>bnd (w.done[j5]?) λx6=>k3 x6)
def nz (mask:Int)(key:Int):Option Bool := some (decide ((iL .and .i64 mask key)=key))
def strings_Contains (s:ByteArray)(substr:ByteArray):Option Bool:=ags s substr
def Hl (x8:List Int)(s9:Int)(k10:Int->Option Bool):Option Bool := br (decide (s9<(lenI x8))) (bnd (gu x8 s9) λx12=>jn (λs13:Bool=>br s13 (some false) (k10 (addI s9 1))) λk14=>br (decide (x12<97)) (br (decide (x12<48)) (k14 (!decide (x12=45))) (br (decide (57<x12)) (k14 (!decide (x12=45))) (k14 false))) (br (decide (122<x12)) (br (decide (x12<48)) (k14 (!decide (x12=45))) (br (decide (57<x12)) (k14 (!decide (x12=45))) (k14 false))) (k14 false))) (some true)
def LM (s:ByteArray):Option Bool := jn (λs1:Bool=>br s1 (some false) (lt (EE s) λx8=>loopF (Hl x8) 0)) λk2=>br (decide ((s.size:Int)=0)) (k2 true) (br (decide (32<(s.size:Int))) (k2 true) (bnd (jA s 0) λx4=>br (decide (x4<97)) (k2 true) (bnd (jA s 0) λx5=>br (decide (122<x5)) (k2 true) (bnd (jA s (qL (s.size:Int) 1)) λx6=>br (decide (x6=45)) (k2 true) (bnd (strings_Contains s (bs [45,45])) λy7=>k2 y7)))))
def uU (i:Int):Option ByteArray := oL i 2 λj1=>(match j1 with|0=>(some (bs [98,97,115,105,99]))  | _=>(some (bs [117,110,105,113,117,101])) )
def I8 (s:ByteArray)(n:Int)(name:Int->Option ByteArray)(s1:Int)(k2:Int->Option Int):Option Int := br (decide (s1<n)) (bnd (name s1) λy4=>br (fQ .neq y4 s) (k2 (addI s1 1)) (bnd (jF .shl .i64 1 s1) λx5=>some x5)) (some 0)
def Ej (s:ByteArray)(n:Int)(name:Int->Option ByteArray):Option Int := loopF (I8 s n name) 0
def wI (i:Int):Option ByteArray := oL i 6 λj1=>(match j1 with|0=>(some (bs [99,114,101,97,116,117,114,101]))  | 1=>(some (bs [105,110,115,116,97,110,116]))  | 2=>(some (bs [114,105,116,117,97,108]))  | 3=>(some (bs [114,101,108,105,99]))  | 4=>(some (bs [99,104,97,114,109]))  | _=>(some (bs [108,97,110,100])) )
def vS (s:ByteArray):Option Bool := bnd (LM s) λy1=>br y1 (bnd (Ej s 2 uU) λy2=>br (decide (y2=0)) (bnd (Ej s 6 wI) λy3=>some (decide (y3=0))) (some false)) (some false)
def jR (n:Int)(most:Int):Option Bool := br (decide (0<=n)) (some (decide (n<=most))) (some false)
def qo (b:rV):Option Bool := bnd (jR b.kind 3) λy1=>br y1 (bnd (jR b.n 1000000) λy2=>br y2 (br (!decide (b.kind=0)) (some true) (some (decide (b.n=0)))) (some false)) (some false)
def Dj (f:GFilter):Option Bool := jn (λs1:Bool=>br s1 (some false) (jn (λs9:Bool=>br s9 (some false) (jn (λs14:Bool=>br s14 (some false) (jn (λs19:Bool=>br s19 (some false) (bnd (qo f.power) λy23=>br y23 (bnd (qo f.gz) λy24=>br y24 (bnd (qo f.value) λy25=>some y25) (some false)) (some false))) λk20=>br (fQ .neq f.sub (bs [])) (bnd (vS f.sub) λy22=>k20 (y22==false)) (k20 false))) λk15=>bnd (jR f.gK 31) λy17=>br (y17==false) (k15 true) (bnd (jR f.gI 31) λy18=>br (y18==false) (k15 true) (k15 (!decide ((iL .and .i64 f.gK f.gI)=0)))))) λk10=>bnd (jR f.types 63) λy12=>br (y12==false) (k10 true) (bnd (jR f.iw 63) λy13=>br (y13==false) (k10 true) (k10 (!decide ((iL .and .i64 f.types f.iw)=0)))))) λk2=>bnd (jR f.iI 5) λy4=>br (y4==false) (k2 true) (bnd (jR f.who 2) λy5=>br (y5==false) (k2 true) (bnd (jR f.self 2) λy6=>br (y6==false) (k2 true) (bnd (jR f.Ar 2) λy7=>br (y7==false) (k2 true) (bnd (jR f.keys 131071) λy8=>k2 (y8==false)))))
def kV (phave:Int)(psome:Int)(pnone:Int):Option Bool := br (decide (psome=0)) (some (decide ((iL .and .i64 phave pnone)=0))) (br (!decide ((iL .and .i64 phave psome)=0)) (some (decide ((iL .and .i64 phave pnone)=0))) (some false))
def Dk (b:rV)(n:Int):Option Bool := br (decide (b.kind=0)) (some true) (br (decide (b.kind=1)) (some (decide (b.n<=n))) (br (decide (b.kind=2)) (some (decide (n<=b.n))) (br (decide (b.kind=3)) (some (decide (n=b.n))) (some false))))
def uV (b:rV)(n:Int)(c2:Bool):Option Bool := br (decide (b.kind=0)) (some true) (br c2 (bnd (Dk b n) λy1=>some y1) (some false))
def rq (s:List ByteArray)(v:ByteArray)(s1:Int)(k2:Int->Option Int):Option Int := br (decide (s1<(lenI s))) (bnd (gu s s1) λx4=>br (fQ .eql v x4) (some s1) (k2 (addI s1 1))) (some (-1))
def slices_Index_string (s:List ByteArray)(v:ByteArray):Option Int := loopF (rq s v) 0
def slices_Contains_string (s:List ByteArray)(v:ByteArray):Option Bool := bnd (slices_Index_string s v) λy1=>some (decide (0<=y1))
def og (l:rX)(sub:ByteArray):Option Bool := bnd (slices_Contains_string l.subs sub) λy1=>some y1
def OD (a:Int)(b:Int):Option Int := bnd (pz a) λy1=>bnd (pz b) λy2=>bnd (pz (QJ y1 y2)) λy3=>some y3
def DZ (c:oJ)(x:Int)(s2:Int×Int)(k3:(Int×Int)->Option Int):Option Int := br (decide (s2.2<5)) (jn (λs5:Int=>k3 ((addI s2.1 s5),(addI s2.2 1))) λk6=>oL s2.2 5 λj8=>(match j8 with|0=>(k6 c.color.a0)  | 1=>(k6 c.color.a1)  | 2=>(k6 c.color.a2)  | 3=>(k6 c.color.a3)  | _=>(k6 c.color.a4) )) (bnd (OD c.x (if 0<x then x else 0)) λy9=>bnd (DX s2.1 y9) λy10=>some y10)
def zH (c:oJ)(x:Int):Option Int := bnd (I4 c) λy1=>br (y1==false) (some 0) (loopF (DZ c x) (c.generic,0))
def lX (o:fC)(t:eQ)(you:Int)(source:Int)(f:GFilter):Option Bool := jn (λs1:Bool=>br s1 (some false) (jn (λs5:Unit=>bnd (uV f.power t.power (!decide ((iL .and .i64 t.line.types 1)=0))) λy57=>br y57 (bnd (uV f.gz t.gz (!decide ((iL .and .i64 t.line.types 1)=0))) λy58=>br y58 (bnd (zH t.cost 0) λy59=>bnd (Dk f.value y59) λy60=>some y60) (some false)) (some false)) λk6=>jn (λs8:Bool=>br s8 (some false) (br (decide (f.who=2)) (br (decide (t.control=you)) (some false) (jn (λs11:Bool=>br s11 (some false) (br (decide (f.self=2)) (br (decide (o.id=source)) (some false) (bnd (kV t.line.types f.types f.iw) λy14=>br (y14==false) (some false) (bnd (kV t.gK f.gK f.gI) λy15=>br (y15==false) (some false) (jn (λs16:Bool=>br s16 (some false) (bnd (nz t.keys f.keys) λy20=>br (y20==false) (some false) (jn (λs21:Bool=>br s21 (some false) (br (decide (f.Ar=2)) (br o.kN (some false) (k6 ())) (k6 ()))) λk22=>br (decide (f.Ar=1)) (k22 (o.kN==false)) (k22 false)))) λk17=>br (fQ .neq f.sub (bs [])) (bnd (og t.line f.sub) λy19=>k17 (y19==false)) (k17 false))))) (bnd (kV t.line.types f.types f.iw) λy24=>br (y24==false) (some false) (bnd (kV t.gK f.gK f.gI) λy25=>br (y25==false) (some false) (jn (λs26:Bool=>br s26 (some false) (bnd (nz t.keys f.keys) λy30=>br (y30==false) (some false) (jn (λs31:Bool=>br s31 (some false) (br (decide (f.Ar=2)) (br o.kN (some false) (k6 ())) (k6 ()))) λk32=>br (decide (f.Ar=1)) (k32 (o.kN==false)) (k32 false)))) λk27=>br (fQ .neq f.sub (bs [])) (bnd (og t.line f.sub) λy29=>k27 (y29==false)) (k27 false)))))) λk12=>br (decide (f.self=1)) (k12 (!decide (o.id=source))) (k12 false))) (jn (λs34:Bool=>br s34 (some false) (br (decide (f.self=2)) (br (decide (o.id=source)) (some false) (bnd (kV t.line.types f.types f.iw) λy37=>br (y37==false) (some false) (bnd (kV t.gK f.gK f.gI) λy38=>br (y38==false) (some false) (jn (λs39:Bool=>br s39 (some false) (bnd (nz t.keys f.keys) λy43=>br (y43==false) (some false) (jn (λs44:Bool=>br s44 (some false) (br (decide (f.Ar=2)) (br o.kN (some false) (k6 ())) (k6 ()))) λk45=>br (decide (f.Ar=1)) (k45 (o.kN==false)) (k45 false)))) λk40=>br (fQ .neq f.sub (bs [])) (bnd (og t.line f.sub) λy42=>k40 (y42==false)) (k40 false))))) (bnd (kV t.line.types f.types f.iw) λy47=>br (y47==false) (some false) (bnd (kV t.gK f.gK f.gI) λy48=>br (y48==false) (some false) (jn (λs49:Bool=>br s49 (some false) (bnd (nz t.keys f.keys) λy53=>br (y53==false) (some false) (jn (λs54:Bool=>br s54 (some false) (br (decide (f.Ar=2)) (br o.kN (some false) (k6 ())) (k6 ()))) λk55=>br (decide (f.Ar=1)) (k55 (o.kN==false)) (k55 false)))) λk50=>br (fQ .neq f.sub (bs [])) (bnd (og t.line f.sub) λy52=>k50 (y52==false)) (k50 false)))))) λk35=>br (decide (f.self=1)) (k35 (!decide (o.id=source))) (k35 false)))) λk9=>br (decide (f.who=1)) (k9 (!decide (t.control=you))) (k9 false))) λk2=>bnd (Dj f) λy4=>br (y4==false) (k2 true) (k2 (!decide (o.iI=f.iI)))
def su (w:GLayerWorld)(x6:GLayerForce)(y7:Int)(s8:Int×(List Int))(k9:(Int×(List Int))->Option (List Int)):Option (List Int) := br (decide (s8.1<(lenI w.s.objects))) (jn (λs11:(List Int)=>k9 ((addI s8.1 1),s11)) λk12=>bnd (gu w.s.objects s8.1) λx14=>jn (λs15:Bool=>br s15 (gY (s8.2.length+([s8.1]).length) 8 ( k12 (s8.2++[s8.1]))) (k12 s8.2)) λk16=>br (decide (x14.iI=0)) (br x6.fixed (bnd (slices_Contains_int x6.objects x14.id) λy18=>br y18 (k16 true) (br (x6.fixed==false) (bnd (jS w.traits.length s8.1) λj19=>bnd (w.traits[j19]?) λx20=>bnd (lX x14 x20 y7 x6.source x6.filter) λy21=>k16 y21) (k16 false))) (br (x6.fixed==false) (bnd (jS w.traits.length s8.1) λj22=>bnd (w.traits[j22]?) λx23=>bnd (lX x14 x23 y7 x6.source x6.filter) λy24=>k16 y24) (k16 false))) (k16 false)) (some s8.2)
def mr (w:GLayerWorld)(i:Int):Option (List Int) := bnd (jS w.done.length i) λj1=>bnd (w.done[j1]?) λx2=>br x2 (bnd (jS w.hits.length i) λj3=>bnd (w.hits[j3]?) λx4=>some x4) (bnd (pV w i) λy5=>br (y5==false) (some ([])) (bnd (gu w.forces i) λx6=>bnd (nP w i) λy7=>loopF (su w x6 y7) (0,[])))
def Ku (s:GState)(all:List eQ)(you:Int)(source:Int)(f:GFilter)(s1:Int×(List Int))(k2:(Int×(List Int))->Option (List Int)):Option (List Int) := br (decide (s1.1<(lenI s.objects))) (jn (λs4:(List Int)=>k2 ((addI s1.1 1),s4)) λk5=>bnd (gu s.objects s1.1) λx7=>jn (λs8:fC×eQ=>bnd (lX s8.1 s8.2 you source f) λy13=>br y13 (gY (s1.2.length+([s8.1.id]).length) 8 ( k5 (s1.2++[s8.1.id]))) (k5 s1.2)) λk9=>br (decide (s1.1<(lenI all))) (bnd (jS all.length s1.1) λj11=>bnd (all[j11]?) λx12=>k9 (x7,x12)) (k9 (x7,zGTraits))) (some s1.2)
def D5 (s:GState)(all:List eQ)(you:Int)(source:Int)(f:GFilter):Option (List Int) := loopF (Ku s all you source f) (0,[])
def yA (w:GLayerWorld)(i:Int)(stage:Int)(x1:GLayerForce)(s4:Int×(List Int))(k5:(Int×(List Int))->Option (List Int)):Option (List Int) := br (decide (s4.1<(lenI x1.mods))) (jn (λs7:(List Int)=>k5 ((addI s4.1 1),s7)) λk8=>bnd (gu x1.mods s4.1) λx10=>jn (λs11:Bool=>br s11 (bnd (nP w i) λy15=>bnd (D5 w.s w.traits y15 x1.source x10.filter) λy16=>bnd (jS s4.2.length s4.1) λj17=>bnd (s4.2[j17]?) λx18=>k8 (s4.2.set j17 ((y16.length:Nat):Int))) (k8 s4.2)) λk12=>br (decide (x10.kind=11)) (bnd (uP x10.kind) λy14=>k12 (decide (y14=stage))) (k12 false)) (some s4.2)
def oQ (w:GLayerWorld)(i:Int)(stage:Int):Option (List Int) := bnd (gu w.forces i) λx1=>bnd (jm (lenI x1.mods) (lenI x1.mods) 8) λj2=>lt 0 λx3=>loopF (yA w i stage x1) (0,(List.replicate j2 x3))
def vT (w:GLayerWorld)(i:Int):Option Int := bnd (gu w.forces i) λx1=>bnd (rE w.s x1.source) λy2=>jn (λs3:Bool=>br s3 (bnd (jS w.traits.length y2) λj6=>bnd (w.traits[j6]?) λx7=>some x7.control) (some x1.control)) λk4=>br (x1.fixed==false) (k4 (decide (0<=y2))) (k4 false)
def vU (s:List iy):Option (List iy) := pO (some ([])) (gY (0+s.length) 560 ( some s))
def xI (s:List fU):Option (List fU) := pO (some ([])) (gY (0+s.length) 640 ( some s))
def D6 (s3:Int×(List fU))(k4:(Int×(List fU))->Option eQ)(j6:Nat)(x7:fU)(y8:List GMod)(y9:List rW)(y10:List iy)(s11:Int×(List iy))(k12:(Int×(List iy))->Option eQ):Option eQ := br (decide (s11.1<(lenI y10))) (bnd (jS s11.2.length s11.1) λj14=>bnd (s11.2[j14]?) λx15=>bnd (jo x15.mods) λy16=>bnd (jS s11.2.length s11.1) λj17=>bnd (s11.2[j17]?) λx18=>k12 ((addI s11.1 1),(s11.2.set j17 { x18 with mods:=y16 }))) (k4 ((addI s3.1 1),(s3.2.set j6 { x7 with mods:=y8,specs:=y9,jw:=s11.2 })))
def D7 (t:eQ)(y1:List ByteArray)(y2:List fU)(s3:Int×(List fU))(k4:(Int×(List fU))->Option eQ):Option eQ := br (decide (s3.1<(lenI y2))) (bnd (jS s3.2.length s3.1) λj6=>bnd (s3.2[j6]?) λx7=>bnd (jo x7.mods) λy8=>bnd (ng x7.specs) λy9=>bnd (vU x7.jw) λy10=>loopF (D6 s3 k4 j6 x7 y8 y9 y10) (0,y10)) (some { t with line:={ t.line with subs:=y1 },fB:=s3.2 })
def Dn (t:eQ):Option eQ := bnd (slices_Clone_string t.line.subs) λy1=>bnd (xI t.fB) λy2=>loopF (D7 t y1 y2) (0,y2)
def zI (n:Int)(least:Int)(most:Int):Option Bool := br (decide (least<=n)) (some (decide (n<=most))) (some false)
def NJ (m:GMod):Option GMod := br (decide (m.kind=2)) (some (GMod.mk m.kind m.n 0 (bs []) kP)) (br (decide (m.kind=3)) (some (GMod.mk m.kind m.n 0 (bs []) kP)) (br (decide (m.kind=6)) (some (GMod.mk m.kind m.n 0 (bs []) kP)) (br (decide (m.kind=7)) (some (GMod.mk m.kind m.n 0 (bs []) kP)) (br (decide (m.kind=8)) (some (GMod.mk m.kind m.n 0 (bs []) kP)) (br (decide (m.kind=9)) (some (GMod.mk m.kind m.n 0 (bs []) kP)) (br (decide (m.kind=4)) (some (GMod.mk m.kind 0 0 m.sub kP)) (br (decide (m.kind=5)) (some (GMod.mk m.kind 0 0 m.sub kP)) (br (decide (m.kind=11)) (some (GMod.mk m.kind 0 0 (bs []) m.filter)) (br (decide (m.kind=12)) (some { m with sub:=(bs []),filter:=kP }) (br (decide (m.kind=13)) (some { m with sub:=(bs []),filter:=kP }) (some (GMod.mk m.kind 0 0 (bs []) kP))))))))))))
def Tn (m:GMod):Option Bool := jn (λs1:Bool=>br s1 (some false) (br (decide (m.kind=2)) (bnd (zI m.n 1 63) λy7=>br y7 (some (decide ((iL .and .i64 m.n 6)=0))) (some false)) (br (decide (m.kind=3)) (bnd (zI m.n 1 63) λy8=>br y8 (some (decide ((iL .and .i64 m.n 6)=0))) (some false)) (br (decide (m.kind=4)) (bnd (vS m.sub) λy9=>some y9) (br (decide (m.kind=5)) (bnd (vS m.sub) λy10=>some y10) (br (decide (m.kind=6)) (bnd (zI m.n 0 31) λy11=>some y11) (br (decide (m.kind=7)) (bnd (zI m.n 1 31) λy12=>some y12) (br (decide (m.kind=8)) (bnd (zI m.n 1 131071) λy13=>some y13) (br (decide (m.kind=9)) (bnd (zI m.n 1 131071) λy14=>some y14) (br (decide (m.kind=11)) (bnd (Dj m.filter) λy15=>some y15) (br (decide (m.kind=12)) (bnd (zI m.n 0 99) λy16=>br y16 (bnd (zI m.m 0 99) λy17=>some y17) (some false)) (br (decide (m.kind=13)) (bnd (zI m.n (-99) 99) λy18=>br y18 (bnd (zI m.m (-99) 99) λy19=>some y19) (some false)) (some true))))))))))))) λk2=>bnd (zI m.kind 1 14) λy4=>br (y4==false) (k2 true) (bnd (NJ m) λy5=>lt ((decide (m.kind=y5.kind)&&(decide (m.n=y5.n)&&(decide (m.m=y5.m)&&(fQ .eql m.sub y5.sub&&(decide (m.filter.iI=y5.filter.iI)&&(decide (m.filter.who=y5.filter.who)&&(decide (m.filter.self=y5.filter.self)&&(decide (m.filter.types=y5.filter.types)&&(decide (m.filter.iw=y5.filter.iw)&&(decide (m.filter.gK=y5.filter.gK)&&(decide (m.filter.gI=y5.filter.gI)&&(fQ .eql m.filter.sub y5.filter.sub&&(decide (m.filter.keys=y5.filter.keys)&&(decide (m.filter.Ar=y5.filter.Ar)&&(decide (m.filter.power.kind=y5.filter.power.kind)&&(decide (m.filter.power.n=y5.filter.power.n)&&(decide (m.filter.gz.kind=y5.filter.gz.kind)&&(decide (m.filter.gz.n=y5.filter.gz.n)&&(decide (m.filter.value.kind=y5.filter.value.kind)&&(decide (m.filter.value.n=y5.filter.value.n)&&true))))))))))))))))))))==false) λv6=>k2 v6)
def D8 (s:ByteArray)(c1:ByteArray):Option Bool := some (fQ .geq s c1)
def mQ (s:List ByteArray)(f:ByteArray->Option Bool)(s1:Int)(k2:Int->Option Int):Option Int := br (decide (s1<(lenI s))) (bnd (gu s s1) λx4=>bnd (f x4) λy5=>br y5 (some s1) (k2 (addI s1 1))) (some (-1))
def mD (s:List ByteArray)(f:ByteArray->Option Bool):Option Int := loopF (mQ s f) 0
def tJ (s:List ByteArray)(i:Int)(v:List ByteArray):Option (List ByteArray):=aeN s i v
def xJ (l:rX)(sub:ByteArray):Option rX := bnd (slices_Clone_string l.subs) λy1=>jn (λs2:Bool=>br s2 (some { l with subs:=y1 }) (bnd (mD y1 (λa0=>D8 a0 sub)) λy7=>jn (λs8:Int=>bnd (tJ y1 s8 ([sub])) λy11=>some { l with subs:=y11 }) λk9=>br (decide (y7<0)) (k9 (lenI y1)) (k9 y7))) λk3=>bnd (vS sub) λy5=>br (y5==false) (k3 true) (bnd (og { l with subs:=y1 } sub) λy6=>br y6 (k3 true) (k3 (decide (4<=(lenI y1)))))
def Dp (t:eQ)(m:GMod)(you:Int)(count:Int):Option eQ := bnd (Dn t) λy1=>bnd (Tn m) λy2=>br (y2==false) (some y1) (br (decide (m.kind=1)) (some { y1 with control:=you }) (br (decide (m.kind=2)) (some { y1 with line:={ y1.line with types:=m.n } }) (br (decide (m.kind=3)) (some { y1 with line:={ y1.line with types:=(iL .or .i64 y1.line.types m.n) } }) (br (decide (m.kind=4)) (some { y1 with line:={ y1.line with subs:=[m.sub] } }) (br (decide (m.kind=5)) (bnd (xJ y1.line m.sub) λy3=>some { y1 with line:=y3 }) (br (decide (m.kind=6)) (some { y1 with gK:=m.n }) (br (decide (m.kind=7)) (some { y1 with gK:=(iL .or .i64 y1.gK m.n) }) (br (decide (m.kind=8)) (some { y1 with keys:=(iL .or .i64 y1.keys m.n) }) (br (decide (m.kind=9)) (some { y1 with keys:=(iL .andNot .i64 y1.keys m.n) }) (br (decide (m.kind=10)) (some { y1 with keys:=0,fB:=[] }) (br (decide (m.kind=11)) (bnd (pz count) λy4=>bnd (pz count) λy5=>some { y1 with power:=y4,gz:=y5 }) (br (decide (m.kind=12)) (some { y1 with power:=m.n,gz:=m.m }) (br (decide (m.kind=13)) (bnd (DX y1.power m.n) λy6=>bnd (DX y1.gz m.m) λy7=>some { y1 with power:=y6,gz:=y7 }) (br (decide (m.kind=14)) (some { y1 with power:=y1.gz,gz:=y1.power }) (some y1)))))))))))))))
def qB (stage:Int)(y2:List Int)(y3:Int)(s4:Int×(List eQ)×(List Bool))(k5:(Int×(List eQ)×(List Bool))->Option GLayerWorld)(x7:Int)(x8:GLayerForce)(s9:Int×(List eQ)×(List Bool))(k10:(Int×(List eQ)×(List Bool))->Option GLayerWorld):Option GLayerWorld := br (decide (s9.1<(lenI x8.mods))) (jn (λs12:(List eQ)×(List Bool)=>k10 ((addI s9.1 1),s12.1,s12.2)) λk13=>bnd (gu x8.mods s9.1) λx15=>bnd (uP x15.kind) λy16=>br (!decide (y16=stage)) (k13 (s9.2.1,s9.2.2)) (bnd (jS s9.2.1.length x7) λj17=>bnd (s9.2.1[j17]?) λx18=>bnd (jS y2.length s9.1) λj19=>bnd (y2[j19]?) λx20=>bnd (Dp x18 x15 y3 x20) λy21=>bnd (jS s9.2.1.length x7) λj22=>bnd (s9.2.1[j22]?) λx23=>br (decide (x15.kind=10)) (bnd (jS s9.2.2.length x7) λj24=>lt true λx25=>bnd (s9.2.2[j24]?) λx26=>k13 ((s9.2.1.set j22 y21),(s9.2.2.set j24 x25))) (k13 ((s9.2.1.set j22 y21),s9.2.2)))) (k5 ((addI s4.1 1),s9.2.1,s9.2.2))
def qC (w:GLayerWorld)(i:Int)(stage:Int)(y1:List Int)(y2:List Int)(y3:Int)(s4:Int×(List eQ)×(List Bool))(k5:(Int×(List eQ)×(List Bool))->Option GLayerWorld):Option GLayerWorld := br (decide (s4.1<(lenI y1))) (bnd (gu y1 s4.1) λx7=>bnd (gu w.forces i) λx8=>loopF (qB stage y2 y3 s4 k5 x7 x8) (0,s4.2.1,s4.2.2)) (bnd (jS w.done.length i) λj27=>lt true λx28=>bnd (w.done[j27]?) λx29=>bnd (jS w.hits.length i) λj30=>bnd (w.hits[j30]?) λx31=>some (GLayerWorld.mk w.s w.forces s4.2.1 s4.2.2 (w.done.set j27 x28) (w.hits.set j30 y1)))
def oh (w:GLayerWorld)(i:Int)(stage:Int):Option GLayerWorld := bnd (mr w i) λy1=>bnd (oQ w i stage) λy2=>bnd (vT w i) λy3=>loopF (qC w i stage y1 y2 y3) (0,w.traits,w.dropped)
def layer_sensitive (f:GFilter)(stage:Int):Option Bool := jn (λs1:Bool=>br (decide (stage=1)) (some (!decide (f.who=0))) (br (decide (stage=2)) (br (!decide ((iL .or .i64 f.types f.iw)=0)) (some true) (br (fQ .neq f.sub (bs [])) (some true) (some s1))) (br (decide (stage=3)) (some (!decide ((iL .or .i64 f.gK f.gI)=0))) (br (decide (stage=4)) (some (!decide (f.keys=0))) (some s1))))) λk2=>br (!decide (f.power.kind=0)) (k2 true) (k2 (!decide (f.gz.kind=0)))
def layer_world_depends_z0_l1 (w:GLayerWorld)(i:Int)(stage:Int)(x1:GLayerForce)(s2:Int)(k3:Int->Option Bool):Option Bool := br (decide (s2<(lenI x1.mods))) (bnd (gu x1.mods s2) λx5=>jn (λs6:Bool=>br s6 (some true) (k3 (addI s2 1))) λk7=>br (decide (x5.kind=11)) (bnd (uP x5.kind) λy9=>br (decide (y9=stage)) (bnd (layer_sensitive x5.filter stage) λy10=>k7 y10) (k7 false)) (k7 false)) (br (x1.fixed==false) (bnd (jS w.done.length i) λj11=>bnd (w.done[j11]?) λx12=>br (x12==false) (br (decide (stage=4)) (some true) (bnd (layer_sensitive x1.filter stage) λy13=>some y13)) (some false)) (some false))
def layer_world_depends_z0 (w:GLayerWorld)(i:Int)(stage:Int):Option Bool := bnd (gu w.forces i) λx1=>loopF (layer_world_depends_z0_l1 w i stage x1) 0
def qW (w:GLayerWorld)(i:Int)(stage:Int):Option jV := bnd (pV w i) λy1=>bnd (mr w i) λy2=>bnd (oQ w i stage) λy3=>some (jV.mk y1 y2 y3)
def nU (w:GLayerWorld)(i:Int):Option Bool := bnd (gu w.forces i) λx1=>jn (λs2:Bool=>br s2 (some true) (bnd (rE w.s x1.source) λy6=>br (decide (y6<0)) (some true) (bnd (gu w.dropped y6) λx7=>some (x7==false)))) λk3=>br x1.fixed (k3 true) (bnd (gu w.done i) λx5=>k3 x5)
def oq (w:GLayerWorld)(x4:GLayerForce)(y5:Int)(s6:Int×(List Int))(k7:(Int×(List Int))->Option (List Int)):Option (List Int) := br (decide (s6.1<(lenI w.s.objects))) (jn (λs9:(List Int)=>k7 ((addI s6.1 1),s9)) λk10=>bnd (gu w.s.objects s6.1) λx12=>jn (λs13:Bool=>br s13 (gY (s6.2.length+([s6.1]).length) 8 ( k10 (s6.2++[s6.1]))) (k10 s6.2)) λk14=>br (decide (x12.iI=0)) (br x4.fixed (bnd (slices_Contains_int x4.objects x12.id) λy16=>br y16 (k14 true) (br (x4.fixed==false) (bnd (gu w.traits s6.1) λx17=>bnd (lX x12 x17 y5 x4.source x4.filter) λy18=>k14 y18) (k14 false))) (br (x4.fixed==false) (bnd (gu w.traits s6.1) λx19=>bnd (lX x12 x19 y5 x4.source x4.filter) λy20=>k14 y20) (k14 false))) (k14 false)) (some s6.2)
def mV (w:GLayerWorld)(i:Int):Option (List Int) := bnd (gu w.done i) λx1=>br x1 (bnd (gu w.hits i) λx2=>some x2) (bnd (nU w i) λy3=>br (y3==false) (some ([])) (bnd (gu w.forces i) λx4=>bnd (nP w i) λy5=>loopF (oq w x4 y5) (0,[])))
def uX (s:GState)(all:List eQ)(you:Int)(source:Int)(f:GFilter)(s1:Int×(List Int))(k2:(Int×(List Int))->Option (List Int)):Option (List Int) := br (decide (s1.1<(lenI s.objects))) (jn (λs4:(List Int)=>k2 ((addI s1.1 1),s4)) λk5=>bnd (gu s.objects s1.1) λx7=>jn (λs8:fC×eQ=>bnd (lX s8.1 s8.2 you source f) λy12=>br y12 (gY (s1.2.length+([s8.1.id]).length) 8 ( k5 (s1.2++[s8.1.id]))) (k5 s1.2)) λk9=>br (decide (s1.1<(lenI all))) (bnd (gu all s1.1) λx11=>k9 (x7,x11)) (k9 (x7,zGTraits))) (some s1.2)
def nI (s:GState)(all:List eQ)(you:Int)(source:Int)(f:GFilter):Option (List Int) := loopF (uX s all you source f) (0,[])
def ru (w:GLayerWorld)(i:Int)(stage:Int)(x1:GLayerForce)(s4:Int×(List Int))(k5:(Int×(List Int))->Option (List Int)):Option (List Int) := br (decide (s4.1<(lenI x1.mods))) (jn (λs7:(List Int)=>k5 ((addI s4.1 1),s7)) λk8=>bnd (gu x1.mods s4.1) λx10=>jn (λs11:Bool=>br s11 (bnd (nP w i) λy15=>bnd (nI w.s w.traits y15 x1.source x10.filter) λy16=>bnd (jS s4.2.length s4.1) λj17=>bnd (s4.2[j17]?) λx18=>k8 (s4.2.set j17 ((y16.length:Nat):Int))) (k8 s4.2)) λk12=>br (decide (x10.kind=11)) (bnd (uP x10.kind) λy14=>k12 (decide (y14=stage))) (k12 false)) (some s4.2)
def pF (w:GLayerWorld)(i:Int)(stage:Int):Option (List Int) := bnd (gu w.forces i) λx1=>bnd (jm (lenI x1.mods) (lenI x1.mods) 8) λj2=>lt 0 λx3=>loopF (ru w i stage x1) (0,(List.replicate j2 x3))
def lV (w:GLayerWorld)(i:Int)(stage:Int):Option jV := bnd (nU w i) λy1=>bnd (mV w i) λy2=>bnd (pF w i stage) λy3=>some (jV.mk y1 y2 y3)
def uB (ps1:List Int)(ps2:List Int)(s1:Int)(k2:Int->Option Bool):Option Bool := br (decide (s1<(lenI ps1))) (bnd (gu ps1 s1) λx4=>bnd (gu ps2 s1) λx5=>br (!decide (x4=x5)) (some false) (k2 (addI s1 1))) (some true)
def slices_Equal_int (ps1:List Int)(ps2:List Int):Option Bool := br (!decide ((lenI ps1)=(lenI ps2))) (some false) (loopF (uB ps1 ps2) 0)
def uC (a:jV)(b:jV):Option Bool := br ((a.jZ==b.jZ)==false) (some true) (bnd (slices_Equal_int a.hits b.hits) λy1=>br (y1==false) (some true) (bnd (slices_Equal_int a.numbers b.numbers) λy2=>some (y2==false)))
def ry (s:List eQ):Option (List eQ) := pO (some ([])) (gY (0+s.length) 176 ( some s))
def qp (s:List Bool):Option (List Bool) := pO (some ([])) (gY (0+s.length) 1 ( some s))
def sG (s:List (List Int)):Option (List (List Int)) := pO (some ([])) (gY (0+s.length) 24 ( some s))
def sH (w:GLayerWorld):Option GLayerWorld := bnd (ry w.traits) λy1=>bnd (qp w.dropped) λy2=>bnd (qp w.done) λy3=>bnd (sG w.hits) λy4=>some (GLayerWorld.mk w.s w.forces y1 y2 y3 y4)
def qE (left:List Int)(stage:Int)(s11:Int×(List (Int×jV)))(s24:Int×(List (List Bool)))(k25:(Int×(List (List Bool)))->Option (List (List Bool)))(x28:Int)(y30:GLayerWorld)(s31:Int×(List (List Bool)))(k32:(Int×(List (List Bool)))->Option (List (List Bool))):Option (List (List Bool)) := br (decide (s31.1<(lenI left))) (jn (λs34:(List (List Bool))=>k32 ((addI s31.1 1),s34)) λk35=>bnd (jS left.length s31.1) λj37=>bnd (left[j37]?) λx38=>rG s11.2 x38 Np λx39 b40=>jn (λs41:Bool=>br s41 (bnd (jS s31.2.length x38) λj44=>bnd (s31.2[j44]?) λx45=>bnd (lV y30 x38 stage) λy46=>bnd (uC x39 y46) λy47=>bnd (jS x45.length x28) λj48=>bnd (s31.2[j44]?) λx49=>bnd (x49[j48]?) λx50=>k35 (s31.2.set j44 (x49.set j48 y47))) (k35 s31.2)) λk42=>br b40 (k42 (!decide (x38=x28))) (k42 false)) (k25 ((addI s24.1 1),s31.2))
def qF (w:GLayerWorld)(left:List Int)(stage:Int)(s11:Int×(List (Int×jV)))(s24:Int×(List (List Bool)))(k25:(Int×(List (List Bool)))->Option (List (List Bool))):Option (List (List Bool)) := br (decide (s24.1<(lenI left))) (bnd (jS left.length s24.1) λj27=>bnd (left[j27]?) λx28=>bnd (sH w) λy29=>bnd (oh y29 x28 stage) λy30=>loopF (qE left stage s11 s24 k25 x28 y30) (0,s24.2)) (some s24.2)
def qG (w:GLayerWorld)(left:List Int)(stage:Int)(s2:Int×(List (List Bool)))(s11:Int×(List (Int×jV)))(k12:(Int×(List (Int×jV)))->Option (List (List Bool))):Option (List (List Bool)) := br (decide (s11.1<(lenI left))) (jn (λs14:(List (Int×jV))=>k12 ((addI s11.1 1),s14)) λk15=>bnd (jS left.length s11.1) λj17=>bnd (left[j17]?) λx18=>bnd (layer_world_depends_z0 w x18 stage) λy19=>br y19 (bnd (qW w x18 stage) λy20=>k15 (QK s11.2 x18 y20)) (k15 s11.2)) (jn (λs21:Bool=>br s21 (some s2.2) (loopF (qF w left stage s11) (0,s2.2))) λk22=>br (decide ((lenI s11.2)=0)) (k22 true) (k22 (decide ((lenI left)<2))))
def qH (w:GLayerWorld)(left:List Int)(stage:Int)(j1:Nat)(s2:Int×(List (List Bool)))(k3:(Int×(List (List Bool)))->Option (List (List Bool))):Option (List (List Bool)) := lt (decide (s2.1<(lenI (List.replicate j1 ([]:List Bool))))) λv5=>br v5 (bnd (jm (lenI w.forces) (lenI w.forces) 1) λj6=>lt false λx7=>bnd (jS s2.2.length s2.1) λj8=>bnd (s2.2[j8]?) λx10=>k3 ((addI s2.1 1),(s2.2.set j8 (List.replicate j6 x7)))) (loopF (qG w left stage s2) (0,[]))
def qw (w:GLayerWorld)(left:List Int)(stage:Int):Option (List (List Bool)) := bnd (jm (lenI w.forces) (lenI w.forces) 24) λj1=>loopF (qH w left stage j1) (0,(List.replicate j1 ([]:List Bool)))
def uY (stage:Int)(s13:GLayerWorld×(List Int)×(List Int)×(List Int))(k14:(GLayerWorld×(List Int)×(List Int)×(List Int))->Option ((List Int)×GLayerWorld)):Option ((List Int)×GLayerWorld) := br (decide (0<(lenI s13.2.1))) (bnd (qw s13.1 s13.2.1 stage) λy16=>bnd (I7 s13.2.1 s13.2.2.2 y16) λy17=>br (decide (y17<0)) (some (s13.2.2.1,s13.1)) (bnd (oh s13.1 y17 stage) λy18=>gY (s13.2.2.1.length+([y17]).length) 8 ( bnd (pU s13.2.1 (λa0=>uA a0 y17)) λy19=>k14 (y18,y19,(s13.2.2.1++[y17]),s13.2.2.2)))) (some (s13.2.2.1,s13.1))
def kW (stage:Int)(s1:GLayerWorld)(s5:Int×(List Int)×(List Int))(k6:(Int×(List Int)×(List Int))->Option ((List Int)×GLayerWorld)):Option ((List Int)×GLayerWorld) := br (decide (s5.1<(lenI s1.forces))) (jn (λs8:(List Int)×(List Int)=>k6 ((addI s5.1 1),s8.1,s8.2)) λk9=>bnd (gu s1.forces s5.1) λx11=>gY (s5.2.2.length+([x11.stamp]).length) 8 ( bnd (DY x11 stage) λy12=>br y12 (gY (s5.2.1.length+([s5.1]).length) 8 ( k9 ((s5.2.1++[s5.1]),(s5.2.2++[x11.stamp])))) (k9 (s5.2.1,(s5.2.2++[x11.stamp]))))) (loopF (uY stage) (s1,s5.2.1,[],s5.2.2))
def ji (w:GLayerWorld)(stage:Int):Option ((List Int)×GLayerWorld) := jn (λs1:GLayerWorld=>loopF (kW stage s1) (0,[],[])) λk2=>br (decide (stage=7)) (bnd (qm w) λy4=>k2 y4) (k2 w)
def ou (cards:List gq)(s:GState):Option (List eQ) := bnd (Ei cards s) λy1=>bnd (ji y1 1) λy3=>bnd (ji y3.2 2) λy4=>bnd (ji y4.2 3) λy5=>bnd (ji y5.2 4) λy6=>bnd (ji y6.2 5) λy7=>bnd (ji y7.2 6) λy8=>bnd (ji y8.2 7) λy9=>bnd (ji y9.2 8) λy10=>some y10.2.traits
def Hm (c:nO):Option Bool := br (decide (c.kind=1)) (some (decide ((lenI c.options)<=1))) (br (decide (c.kind=2)) (some (decide ((lenI c.options)<=1))) (br (decide (c.kind=9)) (some (decide ((lenI c.options)<=1))) (br (decide (c.kind=10)) (some (decide ((lenI c.options)<=1))) (br (decide (c.kind=11)) (some (decide ((lenI c.options)<=1))) (br (decide (c.kind=4)) (some (decide ((lenI c.options)<=1))) (br (decide (c.kind=8)) (some (decide ((lenI c.options)<=1))) (br (decide (c.kind=6)) (some (decide ((lenI c.options)=0))) (br (decide (c.kind=7)) (some (decide ((lenI c.options)=0))) (br (decide (c.kind=3)) (br (decide (c.least=c.most)) (br (decide (c.least=0)) (some true) (some (decide (c.least=(lenI c.options))))) (some false)) (br (decide (c.kind=5)) (some (decide (c.least=c.most))) (some true)))))))))))
def tK (c:nO):Option (List Int) := br (decide (c.kind=1)) (lt 0 λx1=>some ([x1])) (br (decide (c.kind=2)) (lt 0 λx2=>some ([x2])) (br (decide (c.kind=9)) (lt 0 λx3=>some ([x3])) (br (decide (c.kind=10)) (lt 0 λx4=>some ([x4])) (br (decide (c.kind=11)) (lt 0 λx5=>some ([x5])) (br (decide (c.kind=3)) (none) (br (decide (c.kind=4)) (none) (br (decide (c.kind=5)) (some ([c.least])) (br (decide (c.kind=8)) (br (decide (0<(lenI c.options))) (bnd (jm (lenI c.options) (lenI c.options) 8) λj6=>lt 0 λx7=>bnd (jS j6 0) λj8=>bnd ((List.replicate j6 x7)[j8]?) λx9=>some ((List.replicate j6 x7).set j8 c.n)) (some ([]))) (some ([]))))))))))
def I9 (l:List Int)(n:Int):Option Int := bnd (slices_Index_int l n) λy1=>some y1
def Ho (c:nO)(a:List Int)(s1:Int)(k2:Int->Option Bool):Option Bool := br (decide (s1<(lenI a))) (bnd (gu a s1) λx4=>jn (λs5:Bool=>br s5 (some false) (k2 (addI s1 1))) λk6=>br (decide (x4<0)) (k6 true) (br (decide ((lenI c.options)<=x4)) (k6 true) (bnd (I9 a x4) λy8=>k6 (!decide (y8=s1))))) (some true)
def pI (c:nO)(a:List Int):Option Bool := loopF (Ho c a) 0
def Tq (l:List Int)(n:Int):Option Bool := bnd (slices_Contains_int l n) λy1=>some y1
def EK (c:nO)(a:List Int)(s1:Int×(List Int))(k2:(Int×(List Int))->Option Bool):Option Bool := br (decide (s1.1<(lenI a))) (bnd (gu a s1.1) λx4=>bnd (gu c.options x4) λx5=>bnd (Tq s1.2 x5.a) λy6=>br y6 (some false) (bnd (gu c.options x4) λx7=>gY (s1.2.length+([x7.a]).length) 8 ( k2 ((addI s1.1 1),(s1.2++[x7.a]))))) (some true)
def Bq (c:nO)(a:List Int):Option Bool := loopF (EK c a) (0,[])
def Gn (c:nO)(a:List Int):Option Bool := br (decide (256<(lenI a))) (some false) (br (decide (c.kind=1)) (br (decide ((lenI a)=1)) (bnd (pI c a) λy1=>some y1) (some false)) (br (decide (c.kind=2)) (br (decide ((lenI a)=1)) (bnd (pI c a) λy2=>some y2) (some false)) (br (decide (c.kind=9)) (br (decide ((lenI a)=1)) (bnd (pI c a) λy3=>some y3) (some false)) (br (decide (c.kind=10)) (br (decide ((lenI a)=1)) (bnd (pI c a) λy4=>some y4) (some false)) (br (decide (c.kind=11)) (br (decide ((lenI a)=1)) (bnd (pI c a) λy5=>some y5) (some false)) (br (decide (c.kind=3)) (br (decide (c.least<=(lenI a))) (br (decide ((lenI a)<=c.most)) (bnd (pI c a) λy6=>some y6) (some false)) (some false)) (br (decide (c.kind=4)) (br (decide ((lenI a)=(lenI c.options))) (bnd (pI c a) λy7=>some y7) (some false)) (br (decide (c.kind=5)) (br (decide ((lenI a)=1)) (bnd (gu a 0) λx8=>br (decide (c.least<=x8)) (bnd (gu a 0) λx9=>some (decide (x9<=c.most))) (some false)) (some false)) (br (decide (c.kind=6)) (bnd (pI c a) λy10=>br y10 (bnd (Bq c a) λy11=>some y11) (some false)) (br (decide (c.kind=7)) (bnd (pI c a) λy12=>br y12 (bnd (Bq c a) λy13=>some y13) (some false)) (br (decide (c.kind=8)) (none) (some false))))))))))))
def Bv (l:List eX):Option (List eX) := gY l.length 24 ( some l)
def wY (k:fH)(c:nO):Option ((List Int)×fH) := jn (λs1:Bool=>br s1 (bnd (tK c) λy5=>some (y5,k)) (br (decide (k.used=((k.answers.length:Nat):Int))) (bnd (Bv c.options) λy6=>bnd (tK { c with options:=y6 }) λy7=>some (y7,{ k with pending:={ c with options:=y6 },waits:=true })) (bnd (jS k.answers.length k.used) λj8=>bnd (k.answers[j8]?) λx9=>bnd (Gn c x9) λy10=>br (y10==false) (bnd (tK c) λy11=>some (y11,{ k with used:=(addI k.used 1),bad:=true })) (bnd (oO x9) λy12=>some (y12,{ k with used:=(addI k.used 1) }))))) λk2=>br k.waits (k2 true) (br k.bad (k2 true) (bnd (Hm c) λy4=>k2 y4))
def LP (k:fH)(cards:List gq)(s:GState)(pe:jg)(add:Bool)(s1:Unit)(k2:Unit->Option (GState×jg×Bool)):Option (GState×jg×Bool) := bnd (ou cards s) λy4=>bnd (pR cards s y4 pe ([]) add) λy5=>br (decide ((lenI y5)=0)) (some (s,{ pe with extra:=(Nk.mk pe.extra.a0 pe.extra.a1 pe.extra.a2) },true)) (bnd (JG s y4 { pe with extra:=(Nk.mk pe.extra.a0 pe.extra.a1 pe.extra.a2) }) λy6=>bnd (wY k (nO.mk 10 y6 0 0 0 0 y5)) λy7=>bnd (jS y7.1.length 0) λj8=>bnd (y7.1[j8]?) λx9=>bnd (gu y5 x9) λx10=>gY (([x10]).length) 24 ( none))
def EU (k:fH)(cards:List gq)(s:GState)(pe:jg)(add:Bool):Option (GState×jg×Bool) := loopF (LP k cards s pe add) ()
def Bz (s:GState)(id:Int)(s1:Int)(k2:Int->Option (Option Nat)):Option (Option Nat) := br (decide (s1<(lenI s.objects))) (bnd (jS s.objects.length s1) λj4=>bnd (s.objects[j4]?) λx5=>br (decide (x5.id=id)) (bnd (jS s.objects.length s1) λj6=>some (some j6)) (k2 (addI s1 1))) (some none)
def tV (s:GState)(id:Int):Option (Option Nat) := loopF (Bz s id) 0
def xK (ol:List fC)(oj:Nat)(deadly:Bool)(pe:jg):Option (List fC) := br (decide (pe.kind=1)) (none) (br (decide (pe.kind=6)) (bnd (ol[oj]?) λx1=>some (ol.set oj { x1 with kN:=(decide (pe.kind=6)) })) (br (decide (pe.kind=7)) (none) (br (decide (pe.kind=8)) (none) (br (decide (pe.kind=9)) (none) (br (decide (pe.kind=12)) (bnd (ol[oj]?) λx2=>some (ol.set oj { x2 with nT:=pe.lF })) (br (decide (pe.kind=13)) (none) (some ol)))))))
def JH (s:GState)(all:List eQ)(id:Int)(s1:Int)(k2:Int->Option Bool):Option Bool := br (decide (s1<(lenI s.objects))) (bnd (gu s.objects s1) λx4=>jn (λs5:Bool=>br s5 (bnd (gu all s1) λx8=>bnd (nz x8.keys 128) λy9=>some y9) (k2 (addI s1 1))) λk6=>br (decide (x4.id=id)) (k6 (decide (s1<(lenI all)))) (k6 false)) (some false)
def Hq (s:GState)(all:List eQ)(id:Int):Option Bool := loopF (JH s all id) 0
def yH (s:List jB):Option (List jB) := pO (some ([])) (gY (0+s.length) 152 ( some s))
def zq (p:jB):Option jB := bnd (slices_Clone_int p.library) λy1=>bnd (slices_Clone_int p.hand) λy2=>bnd (slices_Clone_int p.zV) λy3=>some { p with library:=y1,hand:=y2,zV:=y3 }
def yI (s:List fC):Option (List fC) := pO (some ([])) (gY (0+s.length) 128 ( some s))
def BA (s:List oK):Option (List oK) := pO (some ([])) (gY (0+s.length) 824 ( some s))
def uD (a:fU)(y1:List GMod)(y2:List rW)(y3:List iy)(s4:Int×(List iy))(k5:(Int×(List iy))->Option fU):Option fU := br (decide (s4.1<(lenI y3))) (bnd (jS s4.2.length s4.1) λj7=>bnd (s4.2[j7]?) λx8=>bnd (jo x8.mods) λy9=>bnd (jS s4.2.length s4.1) λj10=>bnd (s4.2[j10]?) λx11=>k5 ((addI s4.1 1),(s4.2.set j10 { x11 with mods:=y9 }))) (some { a with mods:=y1,specs:=y2,jw:=s4.2 })
def rH (a:fU):Option fU := bnd (jo a.mods) λy1=>bnd (ng a.specs) λy2=>bnd (oW a.jw) λy3=>loopF (uD a y1 y2 y3) (0,y3)
def yJ (s:List qf):Option (List qf) := pO (some ([])) (gY (0+s.length) 16 ( some s))
def xM (s:List gm):Option (List gm) := pO (some ([])) (gY (0+s.length) 768 ( some s))
def BB (s:List qc):Option (List qc) := pO (some ([])) (gY (0+s.length) 80 ( some s))
def BC (s:GState)(s2:Int×(List jB))(y10:List fC)(y11:List Int)(y12:List Int)(s14:Int×(List oK))(s28:Int×(List gm))(y36:List qc)(s37:Int×(List qc))(k38:(Int×(List qc))->Option GState):Option GState := br (decide (s37.1<(lenI y36))) (bnd (jS s37.2.length s37.1) λj40=>bnd (s37.2[j40]?) λx41=>bnd (slices_Clone_int x41.objects) λy42=>bnd (jS s37.2.length s37.1) λj43=>bnd (s37.2[j43]?) λx44=>bnd (jS s37.2.length s37.1) λj45=>bnd ((s37.2.set j43 { x44 with objects:=y42 })[j45]?) λx46=>bnd (jo x46.mods) λy47=>bnd (jS s37.2.length s37.1) λj48=>bnd ((s37.2.set j43 { x44 with objects:=y42 })[j48]?) λx49=>k38 ((addI s37.1 1),((s37.2.set j43 { x44 with objects:=y42 }).set j48 { x49 with mods:=y47 }))) (bnd (slices_Clone_int s.extra) λy50=>some { s with fM:=s2.2,objects:=y10,iD:=y11,qV:=y12,stack:=s14.2,waiting:=s28.2,jT:=s37.2,extra:=y50 })
def BD (s:GState)(s2:Int×(List jB))(y10:List fC)(y11:List Int)(y12:List Int)(s14:Int×(List oK))(y27:List gm)(s28:Int×(List gm))(k29:(Int×(List gm))->Option GState):Option GState := br (decide (s28.1<(lenI y27))) (bnd (jS s28.2.length s28.1) λj31=>bnd (s28.2[j31]?) λx32=>bnd (rH x32.iZ) λy33=>bnd (jS s28.2.length s28.1) λj34=>bnd (s28.2[j34]?) λx35=>k29 ((addI s28.1 1),(s28.2.set j34 { x35 with iZ:=y33 }))) (bnd (BB s.jT) λy36=>loopF (BC s s2 y10 y11 y12 s14 s28 y36) (0,y36))
def BF (s:GState)(s2:Int×(List jB))(y10:List fC)(y11:List Int)(y12:List Int)(y13:List oK)(s14:Int×(List oK))(k15:(Int×(List oK))->Option GState):Option GState := br (decide (s14.1<(lenI y13))) (bnd (jS s14.2.length s14.1) λj17=>bnd (s14.2[j17]?) λx18=>bnd (rH x18.iZ) λy19=>bnd (jS s14.2.length s14.1) λj20=>bnd (s14.2[j20]?) λx21=>bnd (jS s14.2.length s14.1) λj22=>bnd ((s14.2.set j20 { x21 with iZ:=y19 })[j22]?) λx23=>bnd (yJ x23.targets) λy24=>bnd (jS s14.2.length s14.1) λj25=>bnd ((s14.2.set j20 { x21 with iZ:=y19 })[j25]?) λx26=>k15 ((addI s14.1 1),((s14.2.set j20 { x21 with iZ:=y19 }).set j25 { x26 with targets:=y24 }))) (bnd (xM s.waiting) λy27=>loopF (BD s s2 y10 y11 y12 s14 y27) (0,y27))
def BG (s:GState)(y1:List jB)(s2:Int×(List jB))(k3:(Int×(List jB))->Option GState):Option GState := br (decide (s2.1<(lenI y1))) (bnd (jS s2.2.length s2.1) λj5=>bnd (s2.2[j5]?) λx6=>bnd (zq x6) λy7=>bnd (jS s2.2.length s2.1) λj8=>bnd (s2.2[j8]?) λx9=>k3 ((addI s2.1 1),(s2.2.set j8 y7))) (bnd (yI s.objects) λy10=>bnd (slices_Clone_int s.iD) λy11=>bnd (slices_Clone_int s.qV) λy12=>bnd (BA s.stack) λy13=>loopF (BF s s2 y10 y11 y12 y13) (0,y13))
def sV (s:GState):Option GState := bnd (yH s.fM) λy1=>loopF (BG s y1) (0,y1)
def Tt (cards:List gq)(s:GState)(all:List eQ)(pe:jg):Option GState :=
 bnd (sV s) λy1=>
 bnd (Bh cards s pe) λy2=>
 br (y2==false) (some y1)
 (br (decide (pe.kind=2)) (none)
 (br (decide (pe.kind=10)) (none)
 (br (decide (pe.kind=3)) (none)
 (br (decide (pe.kind=4)) (none)
 (br (decide (pe.kind=5)) (none)
 (br (decide (pe.kind=16)) (none)
 (br (decide (pe.kind=17)) (none)
 (br (decide (pe.kind=1)) (none)
 (br (decide (pe.kind=6)) (jn (λs3:(List fC)=>
 bnd (tV { y1 with objects:=s3 } pe.source) λy10=>
 (match y10 with
 | none=>(br (decide (pe.kind=13)) (some { y1 with objects:=s3 })
 (some { y1 with objects:=s3 }))
 | some j11=>(br (decide (pe.kind=13)) (lt true λx12=>
 bnd (s3[j11]?) λx13=>
 some { y1 with objects:=(s3.set j11 { x13 with blocked:=x12 }) })
 (some { y1 with objects:=s3 })))) λk4=>
 bnd (tV y1 pe.object) λy6=>
 (match y6 with
 | none=>(k4 y1.objects)
 | some j7=>(bnd (Hq s all pe.source) λy8=>
 bnd (xK y1.objects j7 y8 pe) λy9=>
 k4 y9)))
 (br (decide (pe.kind=7)) (none)
 (br (decide (pe.kind=8)) (none)
 (br (decide (pe.kind=9)) (none)
 (br (decide (pe.kind=12)) (jn (λs14:(List fC)=>
 bnd (tV { y1 with objects:=s14 } pe.source) λy21=>
 (match y21 with
 | none=>(br (decide (pe.kind=13)) (some { y1 with objects:=s14 })
 (some { y1 with objects:=s14 }))
 | some j22=>(br (decide (pe.kind=13)) (lt true λx23=>
 bnd (s14[j22]?) λx24=>
 some { y1 with objects:=(s14.set j22 { x24 with blocked:=x23 }) })
 (some { y1 with objects:=s14 })))) λk15=>
 bnd (tV y1 pe.object) λy17=>
 (match y17 with
 | none=>(k15 y1.objects)
 | some j18=>(bnd (Hq s all pe.source) λy19=>
 bnd (xK y1.objects j18 y19 pe) λy20=>
 k15 y20)))
 (br (decide (pe.kind=13)) (none)
 (some y1)))))))))))))))
def zt (s:GState)(all:List eQ)(earlier:Bool):Option (GState×(List eQ)×Bool) := some (s,all,earlier)
def JI (vals:List Int)(s1:Int)(k2:Int->Option Int):Option Int := br (decide (s1<(lenI vals))) (bnd (gu vals s1) λx4=>br (!decide (x4=0)) (some x4) (k2 (addI s1 1))) (some 0)
def PX (vals:List Int):Option Int := loopF (JI vals) 0
def nJ (a:eP)(b:eP):Option Int := bnd (cmp_Compare_int a.id b.id) λy1=>bnd (cmp_Compare_int a.index b.index) λy2=>bnd (PX ([y1,y2])) λy3=>some y3
def mW (a:Int)(cmp:eP->eP->Option Int)(s1:Int×(List eP))(k2:(Int×(List eP))->Option (List eP))(s4:Int×(List eP))(k5:(Int×(List eP))->Option (List eP)):Option (List eP) := jn (λs7:Bool=>br s7 (bnd (jS s4.2.length (qL s4.1 1)) λj15=>bnd (s4.2[j15]?) λx16=>bnd (jS s4.2.length s4.1) λj17=>bnd (s4.2[j17]?) λx18=>bnd (jS s4.2.length s4.1) λj19=>bnd (s4.2[j19]?) λx20=>bnd (jS s4.2.length (qL s4.1 1)) λj21=>bnd ((s4.2.set j19 x16)[j21]?) λx22=>k5 ((qL s4.1 1),((s4.2.set j19 x16).set j21 x18))) (k2 ((addI s1.1 1),s4.2))) λk8=>br (decide (a<s4.1)) (bnd (jS s4.2.length s4.1) λj10=>bnd (s4.2[j10]?) λx11=>bnd (jS s4.2.length (qL s4.1 1)) λj12=>bnd (s4.2[j12]?) λx13=>bnd (cmp x11 x13) λy14=>k8 (decide (y14<0))) (k8 false)
def mX (a:Int)(b:Int)(cmp:eP->eP->Option Int)(s1:Int×(List eP))(k2:(Int×(List eP))->Option (List eP)):Option (List eP) := br (decide (s1.1<b)) (loopF (mW a cmp s1 k2) (s1.1,s1.2)) (some s1.2)
def iU (data:List eP)(a:Int)(b:Int)(cmp:eP->eP->Option Int):Option (List eP) := loopF (mX a b cmp) ((addI a 1),data)
def lH (a:Int)(b:Int)(n:Int)(s1:Int×(List eP))(k2:(Int×(List eP))->Option (List eP)):Option (List eP) := br (decide (s1.1<n)) (bnd (jS s1.2.length (addI b s1.1)) λj4=>bnd (s1.2[j4]?) λx5=>bnd (jS s1.2.length (addI a s1.1)) λj6=>bnd (s1.2[j6]?) λx7=>bnd (jS s1.2.length (addI a s1.1)) λj8=>bnd (s1.2[j8]?) λx9=>bnd (jS s1.2.length (addI b s1.1)) λj10=>bnd ((s1.2.set j8 x5)[j10]?) λx11=>k2 ((addI s1.1 1),((s1.2.set j8 x5).set j10 x7))) (some s1.2)
def iW (data:List eP)(a:Int)(b:Int)(n:Int)(cmp:eP->eP->Option Int):Option (List eP) := loopF (lH a b n) (0,data)
def mF (m:Int)(cmp:eP->eP->Option Int)(s1:Int×Int×(List eP))(k2:(Int×Int×(List eP))->Option (List eP)):Option (List eP) := br (!decide (s1.1=s1.2.1)) (br (decide (s1.2.1<s1.1)) (bnd (iW s1.2.2 (qL m s1.1) m s1.2.1 cmp) λy4=>k2 ((qL s1.1 s1.2.1),s1.2.1,y4)) (bnd (iW s1.2.2 (qL m s1.1) (qL (addI m s1.2.1) s1.1) s1.1 cmp) λy5=>k2 (s1.1,(qL s1.2.1 s1.1),y5))) (bnd (iW s1.2.2 (qL m s1.1) m s1.1 cmp) λy6=>some y6)
def jM (data:List eP)(a:Int)(m:Int)(b:Int)(cmp:eP->eP->Option Int):Option (List eP) := loopF (mF m cmp) ((qL m a),(qL b m),data)
def lL (s1:Int×Int)(s10:Int×(List eP))(k11:(Int×(List eP))->Option (List eP)):Option (List eP) := br (decide (s10.1<(qL s1.1 1))) (bnd (jS s10.2.length (addI s10.1 1)) λj13=>bnd (s10.2[j13]?) λx14=>bnd (jS s10.2.length s10.1) λj15=>bnd (s10.2[j15]?) λx16=>bnd (jS s10.2.length s10.1) λj17=>bnd (s10.2[j17]?) λx18=>bnd (jS s10.2.length (addI s10.1 1)) λj19=>bnd ((s10.2.set j17 x14)[j19]?) λx20=>k11 ((addI s10.1 1),((s10.2.set j17 x14).set j19 x16))) (some s10.2)
def lM (data:List eP)(a:Int)(cmp:eP->eP->Option Int)(s1:Int×Int)(k2:(Int×Int)->Option (List eP)):Option (List eP) := br (decide (s1.1<s1.2)) (bnd (jF .shr .u64 (IntKind.wrap .u64 (addI s1.1 s1.2)) 1) λx4=>bnd (jS data.length (IntKind.wrap .i64 x4)) λj5=>bnd (data[j5]?) λx6=>bnd (jS data.length a) λj7=>bnd (data[j7]?) λx8=>bnd (cmp x6 x8) λy9=>br (decide (y9<0)) (k2 ((addI (IntKind.wrap .i64 x4) 1),s1.2)) (k2 (s1.1,(IntKind.wrap .i64 x4)))) (loopF (lL s1) (a,data))
def lN (s21:Int×Int)(s30:Int×(List eP))(k31:(Int×(List eP))->Option (List eP)):Option (List eP) := br (decide (s21.1<s30.1)) (bnd (jS s30.2.length (qL s30.1 1)) λj33=>bnd (s30.2[j33]?) λx34=>bnd (jS s30.2.length s30.1) λj35=>bnd (s30.2[j35]?) λx36=>bnd (jS s30.2.length s30.1) λj37=>bnd (s30.2[j37]?) λx38=>bnd (jS s30.2.length (qL s30.1 1)) λj39=>bnd ((s30.2.set j37 x34)[j39]?) λx40=>k31 ((qL s30.1 1),((s30.2.set j37 x34).set j39 x36))) (some s30.2)
def lQ (data:List eP)(m:Int)(cmp:eP->eP->Option Int)(s21:Int×Int)(k22:(Int×Int)->Option (List eP)):Option (List eP) := br (decide (s21.1<s21.2)) (bnd (jF .shr .u64 (IntKind.wrap .u64 (addI s21.1 s21.2)) 1) λx24=>bnd (jS data.length m) λj25=>bnd (data[j25]?) λx26=>bnd (jS data.length (IntKind.wrap .i64 x24)) λj27=>bnd (data[j27]?) λx28=>bnd (cmp x26 x28) λy29=>br ((decide (y29<0))==false) (k22 ((addI (IntKind.wrap .i64 x24) 1),s21.2)) (k22 (s21.1,(IntKind.wrap .i64 x24)))) (loopF (lN s21) (m,data))
def lS (slices_symMergeCmpFunc_watcher_r:(List eP)->(Int)->(Int)->(Int)->(eP->eP->Option Int)->Option (List eP))(data:List eP)(a:Int)(m:Int)(b:Int)(cmp:eP->eP->Option Int)(x41:Int)(s45:Int×Int)(k46:(Int×Int)->Option (List eP)):Option (List eP) := br (decide (s45.1<s45.2)) (bnd (jF .shr .u64 (IntKind.wrap .u64 (addI s45.1 s45.2)) 1) λx48=>lt (qL (qL (addI (IntKind.wrap .i64 x41) m) 1) (IntKind.wrap .i64 x48)) λv49=>bnd (jS data.length v49) λj50=>bnd (data[j50]?) λx51=>bnd (jS data.length (IntKind.wrap .i64 x48)) λj52=>bnd (data[j52]?) λx53=>bnd (cmp x51 x53) λy54=>br ((decide (y54<0))==false) (k46 ((addI (IntKind.wrap .i64 x48) 1),s45.2)) (k46 (s45.1,(IntKind.wrap .i64 x48)))) (jn (λs55:(List eP)=>jn (λs62:(List eP)=>lt (decide ((IntKind.wrap .i64 x41)<(qL (addI (IntKind.wrap .i64 x41) m) s45.1))) λv69=>br v69 (br (decide ((qL (addI (IntKind.wrap .i64 x41) m) s45.1)<b)) (bnd (slices_symMergeCmpFunc_watcher_r s62 (IntKind.wrap .i64 x41) (qL (addI (IntKind.wrap .i64 x41) m) s45.1) b cmp) λy70=>some y70) (some s62)) (some s62)) λk63=>jn (λs65:Bool=>br s65 (bnd (slices_symMergeCmpFunc_watcher_r s55 a s45.1 (IntKind.wrap .i64 x41) cmp) λy68=>k63 y68) (k63 s55)) λk66=>br (decide (a<s45.1)) (k66 (decide (s45.1<(IntKind.wrap .i64 x41)))) (k66 false)) λk56=>jn (λs58:Bool=>br s58 (bnd (jM data s45.1 m (qL (addI (IntKind.wrap .i64 x41) m) s45.1) cmp) λy61=>k56 y61) (k56 data)) λk59=>br (decide (s45.1<m)) (k59 (decide (m<(qL (addI (IntKind.wrap .i64 x41) m) s45.1)))) (k59 false))
def lY (slices_symMergeCmpFunc_watcher_r:(List eP)->(Int)->(Int)->(Int)->(eP->eP->Option Int)->Option (List eP))(data:List eP)(a:Int)(m:Int)(b:Int)(cmp:eP->eP->Option Int):Option (List eP) := br (decide ((qL m a)=1)) (loopF (lM data a cmp) (m,b)) (br (decide ((qL b m)=1)) (loopF (lQ data m cmp) (a,m)) (bnd (jF .shr .u64 (IntKind.wrap .u64 (addI a b)) 1) λx41=>jn (λs42:Int×Int=>loopF (lS slices_symMergeCmpFunc_watcher_r data a m b cmp x41) (s42.1,s42.2)) λk43=>br (decide ((IntKind.wrap .i64 x41)<m)) (k43 ((qL (addI (IntKind.wrap .i64 x41) m) b),(IntKind.wrap .i64 x41))) (k43 (a,m))))
def iF:Nat->(List eP)->(Int)->(Int)->(Int)->(eP->eP->Option Int)->Option (List eP)
 | 0=>λ_ _ _ _ _=>none
 | n+1=>lY (iF n)
def kX:(List eP)->(Int)->(Int)->(Int)->(eP->eP->Option Int)->Option (List eP):=iF 70
def mG (n:Int)(cmp:eP->eP->Option Int)(s6:Int×(List eP))(k7:(Int×(List eP))->Option (List eP))(s9:Int×Int×(List eP))(k10:(Int×Int×(List eP))->Option (List eP)):Option (List eP) := br (decide (s9.2.1<=n)) (bnd (kX s9.2.2 s9.1 (addI s9.1 s6.1) s9.2.1 cmp) λy12=>k10 (s9.2.1,(addI s9.2.1 (QJ 2 s6.1)),y12)) (jn (λs13:(List eP)=>k7 ((QJ s6.1 2),s13)) λk14=>br (decide ((addI s9.1 s6.1)<n)) (bnd (kX s9.2.2 s9.1 (addI s9.1 s6.1) n cmp) λy16=>k14 y16) (k14 s9.2.2))
def mJ (n:Int)(cmp:eP->eP->Option Int)(s6:Int×(List eP))(k7:(Int×(List eP))->Option (List eP)):Option (List eP) := br (decide (s6.1<n)) (loopF (mG n cmp s6 k7) (0,(QJ 2 s6.1),s6.2)) (some s6.2)
def mM (n:Int)(cmp:eP->eP->Option Int)(s1:Int×Int×(List eP))(k2:(Int×Int×(List eP))->Option (List eP)):Option (List eP) := br (decide (s1.2.1<=n)) (bnd (iU s1.2.2 s1.1 s1.2.1 cmp) λy4=>k2 (s1.2.1,(addI s1.2.1 20),y4)) (bnd (iU s1.2.2 s1.1 n cmp) λy5=>loopF (mJ n cmp) (20,y5))
def jO (data:List eP)(n:Int)(cmp:eP->eP->Option Int):Option (List eP) := loopF (mM n cmp) (0,20,data)
def jH (x:List eP)(cmp:eP->eP->Option Int):Option (List eP) := bnd (jO x (lenI x) cmp) λy1=>some y1
def tX (a:fU)(y1:List GMod)(y2:List rW)(y3:List iy)(s4:Int×(List iy))(k5:(Int×(List iy))->Option fU):Option fU := br (decide (s4.1<(lenI y3))) (bnd (jS s4.2.length s4.1) λj7=>bnd (s4.2[j7]?) λx8=>bnd (jo x8.mods) λy9=>bnd (jS s4.2.length s4.1) λj10=>bnd (s4.2[j10]?) λx11=>k5 ((addI s4.1 1),(s4.2.set j10 { x11 with mods:=y9 }))) (some { a with mods:=y1,specs:=y2,jw:=s4.2 })
def qI (a:fU):Option fU := bnd (jo a.mods) λy1=>bnd (ng a.specs) λy2=>bnd (oW a.jw) λy3=>loopF (tX a y1 y2 y3) (0,y3)
def FO (when:Int):Option Int := br (decide (when=8)) (some 3) (br (decide (when=10)) (some 14) (br (decide (when=11)) (some 15) (br (decide (when=12)) (some 4) (br (decide (when=13)) (some 5) (br (decide (when=9)) (some 11) (some 0))))))
def FP (s:GState)(p:Int)(you:Int)(who:Int):Option Bool := jn (λs1:Bool=>br s1 (some false) (br (decide (who=0)) (some true) (br (decide (who=1)) (some (decide (p=you))) (br (decide (who=2)) (some (!decide (p=you))) (some false))))) λk2=>br (decide (p<0)) (k2 true) (br (decide ((lenI s.fM)<=p)) (k2 true) (bnd (gu s.fM p) λx4=>k2 x4.lost))
def BH (all:List eQ)(i:Int):Option eQ := br (decide (i<(lenI all))) (bnd (gu all i) λx1=>some x1) (some zGTraits)
def JJ (s:GState)(all:List eQ)(w:eP)(id:Int)(s1:Int)(k2:Int->Option Bool):Option Bool := br (decide (s1<(lenI s.objects))) (bnd (gu s.objects s1) λx4=>br (decide (x4.id=id)) (bnd (BH all s1) λy5=>bnd (lX x4 y5 w.you w.id w.iZ.fZ.filter) λy6=>some y6) (k2 (addI s1 1))) (some false)
def Hr (s:GState)(all:List eQ)(w:eP)(id:Int):Option Bool := loopF (JJ s all w id) 0
def lW (kind:Int)(id:Int)(s:GState)(all:List eQ)(c4:jP)(c5:eP):Option (List Int) := br (decide (c4.e.kind=kind)) (bnd (Hr s all c5 id) λy1=>br y1 (some ([id])) (some ([]))) (some ([]))
def BI (o:fC)(c1:jP):Option Bool := br (decide (o.id=c1.e.object)) (some (decide (o.iI=0))) (some false)
def kY (s:List fC)(f:fC->Option Bool):Option Bool := bnd (gQ s f) λy1=>some (decide (0<=y1))
def BJ (o:fC)(c1:jP):Option Bool := some (decide (o.id=c1.e.object))
def Hw (c:jP):Option Bool := bnd (kY c.before.objects (λa0=>BI a0 c)) λy1=>bnd (kY c.after.objects (λa0=>BJ a0 c)) λy2=>br (decide (c.e.kind=2)) (br y1 (some (y2==false)) (some false)) (some false)
def BK (c:jP)(w:eP):Option (List Int) := br (decide (w.iZ.fZ.when=1)) (jn (λs1:Bool=>br s1 (some ([])) (none)) λk2=>br (!decide (c.e.kind=2)) (k2 (!decide (c.e.kind=10))) (k2 false)) (br (decide (w.iZ.fZ.when=2)) (bnd (Hw c) λy4=>br y4 (bnd (lW 2 c.e.object c.before c.l9 c w) λy5=>some y5) (some ([]))) (br (decide (w.iZ.fZ.when=3)) (jn (λs6:Bool=>br s6 (bnd (lW 2 c.e.object c.before c.l9 c w) λy10=>some y10) (some ([]))) λk7=>bnd (Hw c) λy9=>br y9 (k7 (decide (c.e.to=3))) (k7 false)) (br (decide (w.iZ.fZ.when=4)) (bnd (lW 12 c.e.object c.after c.nY c w) λy11=>some y11) (br (decide (w.iZ.fZ.when=5)) (bnd (lW 13 c.e.object c.after c.nY c w) λy12=>some y12) (br (decide (w.iZ.fZ.when=14)) (bnd (lW 8 c.e.object c.after c.nY c w) λy13=>some y13) (br (decide (w.iZ.fZ.when=6)) (bnd (lW 1 c.e.source c.before c.l9 c w) λy14=>some y14) (br (decide (w.iZ.fZ.when=7)) (br (!decide (c.e.object=0)) (bnd (lW 1 c.e.object c.before c.l9 c w) λy15=>some y15) (some ([]))) (some ([])))))))))
def yu (c:jP)(w:eP)(y11:List Int)(s12:Int×(List gm))(k13:(Int×(List gm))->Option (List gm)):Option (List gm) := br (decide (s12.1<(lenI y11))) (jn (λs15:(List gm)=>k13 ((addI s12.1 1),s15)) λk16=>bnd (gu y11 s12.1) λx18=>bnd (qI w.iZ) λy19=>jn (λs20:Int=>gY (s12.2.length+([(gm.mk w.id w.you y19 { c.e with object:=s20 })]).length) 768 ( k16 (s12.2++[(gm.mk w.id w.you y19 { c.e with object:=s20 })]))) λk21=>jn (λs23:Bool=>br s23 (k21 x18) (k21 c.e.object)) λk24=>br (decide (w.iZ.fZ.when=1)) (k24 true) (k24 (decide (w.iZ.fZ.when=6)))) (some s12.2)
def yS (c:jP)(w:eP):Option (List gm) := bnd (qI w.iZ) λy1=>bnd (FO w.iZ.fZ.when) λy2=>br (!decide (y2=0)) (jn (λs3:Bool=>jn (λs7:Bool=>br s7 (some ([])) (some ([(gm.mk w.id w.you y1 c.e)]))) λk8=>br (s3==false) (k8 true) (br (decide (w.iZ.fZ.when=9)) (bnd (Hr c.after c.nY w c.e.object) λy10=>k8 (y10==false)) (k8 false))) λk4=>br (decide (c.e.kind=y2)) (bnd (FP c.after c.e.lF w.you w.iZ.fZ.who) λy6=>k4 y6) (k4 false)) (bnd (BK c w) λy11=>loopF (yu c w y11) (0,[]))
def zu (when:Int):Option Bool := br (decide (when=2)) (some true) (br (decide (when=3)) (some true) (br (decide (when=6)) (some true) (some (decide (when=7)))))
def uZ (a0:List eP)(a1:eP):Option (Bool×(List eP)) := gY (a0.length+([a1]).length) 672 ( some (true,(a0++[a1])))
def ve (c3:Bool)(k5:(List eP)->Option (List eP))(y8:eQ)(s9:fC×Int×(List eP))(k10:(fC×Int×(List eP))->Option (List eP)):Option (List eP) := br (decide (s9.2.1<(lenI y8.fB))) (jn (λs12:fC×(List eP)=>k10 (s12.1,(addI s9.2.1 1),s12.2)) λk13=>bnd (gu y8.fB s9.2.1) λx15=>jn (λs16:Bool=>br s16 (k13 (s9.1,s9.2.2)) (bnd (uZ s9.2.2 (eP.mk s9.1.id s9.2.1 y8.control x15 c3)) λy20=>br (y20.1==false) (some y20.2) (k13 (s9.1,y20.2)))) λk17=>br (!decide (x15.kind=4)) (k17 true) (bnd (zu x15.fZ.when) λy19=>k17 ((y19==c3)==false))) (k5 s9.2.2)
def qJ (c1:GState)(c2:List eQ)(c3:Bool)(s1:Int×(List eP))(k2:(Int×(List eP))->Option (List eP)):Option (List eP) := br (decide (s1.1<(lenI c1.objects))) (jn (λs4:(List eP)=>k2 ((addI s1.1 1),s4)) λk5=>bnd (gu c1.objects s1.1) λx7=>br (!decide (x7.iI=0)) (k5 s1.2) (bnd (BH c2 s1.1) λy8=>loopF (ve c3 k5 y8) (x7,0,s1.2))) (some s1.2)
def oz (yield:List eP)(c1:GState)(c2:List eQ)(c3:Bool):Option (List eP) := loopF (qJ c1 c2 c3) (0,yield)
def BL (before:GState)(l9:List eQ)(after:GState)(nY:List eQ)(pe:jg)(y5:List eP)(s6:Int×(List gm)×(List eP))(k7:(Int×(List gm)×(List eP))->Option (List gm)):Option (List gm) := br (decide (s6.1<(lenI y5))) (bnd (jS s6.2.2.length s6.1) λj9=>bnd (s6.2.2[j9]?) λx10=>bnd (yS (jP.mk before after l9 nY pe) x10) λy11=>gY (s6.2.1.length+y11.length) 768 ( k7 ((addI s6.1 1),(s6.2.1++y11),s6.2.2))) (some s6.2.1)
def xN (before:GState)(l9:List eQ)(after:GState)(nY:List eQ)(pe:jg):Option (List gm) := bnd (zt before l9 true) λy1=>bnd (oz ([]) y1.1 y1.2.1 y1.2.2) λy2=>bnd (zt after nY false) λy3=>bnd (oz y2 y3.1 y3.2.1 y3.2.2) λy4=>bnd (jH y4 nJ) λy5=>loopF (BL before l9 after nY pe y5) (0,[],y5)
def Em (pe:jg)(y2:GState)(y4:List gm)(s5:Int×(List gm))(k6:(Int×(List gm))->Option GState):Option GState := br (decide (s5.1<(lenI y4))) (jn (λs8:(List gm)=>k6 ((addI s5.1 1),s8)) λk9=>bnd (gu y4 s5.1) λx11=>br (decide ((lenI s5.2)<64)) (gY (s5.2.length+([x11]).length) 768 ( k9 (s5.2++[x11]))) (k9 s5.2)) (br (!decide (pe.kind=1)) (some { y2 with waiting:=s5.2 }) (none))
def BM (k:fH)(cards:List gq)(s:GState)(pe:jg):Option GState := bnd (ou cards s) λy1=>bnd (Tt cards s y1 pe) λy2=>bnd (ou cards y2) λy3=>bnd (xN s y1 y2 y3 pe) λy4=>loopF (Em pe y2 y4) (0,y2.waiting)
def Rl (y12:GState)(s13:Unit)(k14:Unit->Option GState):Option GState := br (decide (0<0)) (none) (some y12)
def NK (k:fH)(cards:List gq)(s:GState)(pe:jg)(add:Bool):Option GState := bnd (EU k cards s pe add) λy1=>jn (λs2:Bool=>br s2 (some y1.1) (jn (λs6:Unit=>bnd (BM k cards y1.1 y1.2.1) λy12=>loopF (Rl y12) ()) λk7=>jn (λs9:Bool=>br s9 (none) (k7 ())) λk10=>br (decide (y1.2.1.kind=3)) (k10 (decide (1<y1.2.1.amount))) (k10 false))) λk3=>br (y1.2.2==false) (k3 true) (bnd (Bh cards y1.1 y1.2.1) λy5=>k3 (y5==false))
def Hy (k:fH)(cards:List gq)(s:GState)(pe:jg):Option GState := bnd (NK k cards s pe true) λy1=>some y1
def EL (s:GState)(s1:Int×(List Int))(k2:(Int×(List Int))->Option (List Int)):Option (List Int) := br (decide (s1.1<(lenI s.fM))) (jn (λs4:(List Int)=>k2 ((addI s1.1 1),s4)) λk5=>bnd (gu s.fM s1.1) λx7=>br (x7.lost==false) (gY (s1.2.length+([s1.1]).length) 8 ( k5 (s1.2++[s1.1]))) (k5 s1.2)) (some s1.2)
def FQ (s:GState):Option (List Int) := loopF (EL s) (0,[])
def EM (s1:Int)(y7:List Int)(s8:Int×(List Int)×(List Int))(k9:(Int×(List Int)×(List Int))->Option (List Int)):Option (List Int) := br (decide (s8.1<(lenI y7))) (jn (λs11:(List Int)×(List Int)=>k9 ((addI s8.1 1),s11.1,s11.2)) λk12=>bnd (gu y7 s8.1) λx14=>bnd (cmp_Compare_int x14 s1) λy15=>br (decide (y15=(-1))) (gY (s8.2.1.length+([x14]).length) 8 ( k12 ((s8.2.1++[x14]),s8.2.2))) (br (decide (y15=1)) (gY (s8.2.2.length+([x14]).length) 8 ( k12 (s8.2.1,(s8.2.2++[x14])))) (k12 (s8.2.1,s8.2.2)))) (gY (s8.2.2.length+s8.2.1.length) 8 ( some (s8.2.2++s8.2.1)))
def vV (s:GState)(p:Int):Option (List Int) := jn (λs1:Int=>bnd (FQ s) λy7=>loopF (EM s1 y7) (0,[],[])) λk2=>jn (λs4:Bool=>br s4 (k2 (-1)) (k2 p)) λk5=>br (decide (p<0)) (k5 true) (k5 (decide ((lenI s.fM)<=p)))
def LQ (s:GState)(o:fC)(t:eQ):Option Bool := jn (λs1:Bool=>br s1 (some false) (jn (λs4:Bool=>br s4 (some false) (bnd (nz t.keys 1024) λy8=>br (y8==false) (bnd (nz t.keys 16384) λy9=>some (y9==false)) (some false))) λk5=>br o.SS (bnd (nz t.keys 4) λy7=>k5 (y7==false)) (k5 false))) λk2=>br (!decide (o.iI=0)) (k2 true) (br (decide ((iL .and .i64 t.line.types 1)=0)) (k2 true) (br (!decide (t.control=s.jZ)) (k2 true) (k2 o.kN)))
def Hz (y1:List Int)(k6:(List eX)->Option (List eX))(x8:fC)(s14:Int×(List eX))(k15:(Int×(List eX))->Option (List eX)):Option (List eX) := br (decide (s14.1<(lenI y1))) (bnd (gu y1 s14.1) λx17=>lt (eX.mk 7 x8.id x17) λx18=>gY (s14.2.length+([x18]).length) 24 ( k15 ((addI s14.1 1),(s14.2++[x18])))) (k6 s14.2)
def HY (s:GState)(all:List eQ)(y1:List Int)(s2:Int×(List eX))(k3:(Int×(List eX))->Option (List eX)):Option (List eX) := br (decide (s2.1<(lenI s.objects))) (jn (λs5:(List eX)=>k3 ((addI s2.1 1),s5)) λk6=>bnd (gu s.objects s2.1) λx8=>jn (λs9:Bool=>br s9 (k6 s2.2) (loopF (Hz y1 k6 x8) (0,s2.2))) λk10=>br (decide ((lenI all)<=s2.1)) (k10 true) (bnd (gu all s2.1) λx12=>bnd (LQ s x8 x12) λy13=>k10 (y13==false))) (some s2.2)
def oC (s:GState)(all:List eQ):Option (List eX) := bnd (vV s s.jZ) λy1=>loopF (HY s all y1) (0,[])
def BN (x:eX)(c1:eX):Option Bool := some (decide (x.a=c1.a))
def kZ (s:List eX)(f:eX->Option Bool):Option Bool := bnd (mg s f) λy1=>some (decide (0<=y1))
def BO (x:eX)(c1:Int):Option Bool := some (decide (x.a=c1))
def FT (o:fC)(c1:Int):Option Bool := some (decide (o.id=c1))
def uw (s:GState)(all:List eQ)(id:Int)(key:Int):Option Bool := bnd (gQ s.objects (λa0=>FT a0 id)) λy1=>br (decide (0<=y1)) (br (decide (y1<(lenI all))) (bnd (gu all y1) λx2=>bnd (nz x2.keys key) λy3=>some y3) (some false)) (some false)
def H9 (s:GState)(all:List eQ)(y1:List eX)(s2:Int×(List Int))(k3:(Int×(List Int))->Option (List Int)):Option (List Int) := br (decide (s2.1<(lenI y1))) (jn (λs5:(List Int)=>k3 ((addI s2.1 1),s5)) λk6=>bnd (gu y1 s2.1) λx8=>jn (λs9:Bool=>br s9 (gY (s2.2.length+([x8.a]).length) 8 ( k6 (s2.2++[x8.a]))) (k6 s2.2)) λk10=>bnd (uw s all x8.a 65536) λy12=>br y12 (bnd (slices_Contains_int s2.2 x8.a) λy13=>k10 (y13==false)) (k10 false)) (some s2.2)
def xO (s:GState)(all:List eQ):Option (List Int) := bnd (oC s all) λy1=>loopF (H9 s all y1) (0,[])
def EN (l:List eX)(y12:List Int)(s13:Int)(k14:Int->Option Int):Option Int := br (decide (s13<(lenI y12))) (bnd (gu y12 s13) λx16=>bnd (kZ l (λa0=>BO a0 x16)) λy17=>br (y17==false) (some 18) (k14 (addI s13 1))) (some 0)
def EO (s:GState)(all:List eQ)(l:List eX)(y1:List eX)(s2:Int)(k3:Int->Option Int):Option Int := br (decide (s2<(lenI l))) (bnd (gu l s2) λx5=>bnd (jE l.length 0 s2) λx6=>bnd (kZ (Az l x6.1 (x6.2-x6.1)) (λa0=>BN a0 x5)) λy7=>jn (λs8:Bool=>br s8 (some 18) (k3 (addI s2 1))) λk9=>br y7 (k9 true) (bnd (oP y1 x5) λy11=>k9 (y11==false))) (bnd (xO s all) λy12=>loopF (EN l y12) 0)
def tY (s:GState)(all:List eQ)(l:List eX):Option Int := bnd (oC s all) λy1=>loopF (EO s all l y1) 0
def slices_Sort_int (x:List Int):Option (List Int):=aeO x
def Dq (y1:List Int)(y2:List Int)(s3:Int×(List eX))(k4:(Int×(List eX))->Option (List eX)):Option (List eX) := br (decide (s3.1<(lenI y2))) (bnd (gu y2 s3.1) λx6=>bnd (gu y1 0) λx7=>lt (eX.mk 7 x6 x7) λx8=>gY (s3.2.length+([x8]).length) 24 ( k4 ((addI s3.1 1),(s3.2++[x8])))) (some s3.2)
def yT (s:GState)(all:List eQ):Option (List eX) := bnd (vV s s.jZ) λy1=>bnd (xO s all) λy2=>loopF (Dq y1 y2) (0,[])
def En (cards:List gq)(y3:(List Int)×fH)(s11:(List eX))(s27:GState×Int)(k28:(GState×Int)->Option (GState×Bool×fH)):Option (GState×Bool×fH) := br (decide (s27.2<(lenI s11))) (bnd (gu s11 s27.2) λx30=>bnd (Hy y3.2 cards s27.1 (jg.mk 12 0 x30.a x30.b 0 0 0 0 0 0 false false Jy)) λy31=>k28 (y31,(addI s27.2 1))) (some (s27.1,true,y3.2))
def Eo (cards:List gq)(s:GState)(y1:List eQ)(y3:(List Int)×fH)(s11:(List eX))(s18:GState×Int)(k19:(GState×Int)->Option (GState×Bool×fH)):Option (GState×Bool×fH) := br (decide (s18.2<(lenI s11))) (jn (λs21:GState=>k19 (s21,(addI s18.2 1))) λk22=>bnd (gu s11 s18.2) λx24=>bnd (uw s y1 x24.a 8) λy25=>br (y25==false) (bnd (Hy y3.2 cards s18.1 (jg.mk 6 0 x24.a 0 0 0 0 0 0 0 false false Jy)) λy26=>k22 y26) (k22 s18.1)) (loopF (En cards y3 s11) (s18.1,0))
def Ep (cards:List gq)(s:GState)(y1:List eQ)(y2:List eX)(y3:(List Int)×fH)(y4:List Int)(s5:Int×(List eX)×(List Int))(k6:(Int×(List eX)×(List Int))->Option (GState×Bool×fH)):Option (GState×Bool×fH) := br (decide (s5.1<(lenI y4))) (bnd (jS s5.2.2.length s5.1) λj8=>bnd (s5.2.2[j8]?) λx9=>bnd (gu y2 x9) λx10=>gY (s5.2.1.length+([x10]).length) 24 ( k6 ((addI s5.1 1),(s5.2.1++[x10]),s5.2.2))) (jn (λs11:(List eX)=>bnd (sV s) λy17=>loopF (Eo cards s y1 y3 s11) (y17,0)) λk12=>bnd (tY s y1 s5.2.1) λy14=>br (!decide (y14=0)) (br (decide (0<(lenI s5.2.1))) (bnd (sV s) λy15=>some (y15,false,y3.2)) (bnd (yT s y1) λy16=>k12 y16)) (k12 s5.2.1))
def xe (k:fH)(cards:List gq)(s:GState):Option (GState×Bool×fH) := bnd (ou cards s) λy1=>bnd (oC s y1) λy2=>bnd (wY k (nO.mk 6 s.jZ 0 0 0 0 y2)) λy3=>bnd (slices_Sort_int y3.1) λy4=>loopF (Ep cards s y1 y2 y3 y4) (0,[],y4)
def oU (k:fH)(c:nO):Option ((List Int)×fH) := jn (λs1:Bool=>br s1 (bnd (tK c) λy5=>some (y5,k)) (br (decide (k.used=(lenI k.answers))) (bnd (Bv c.options) λy6=>bnd (tK { c with options:=y6 }) λy7=>some (y7,{ k with pending:={ c with options:=y6 },waits:=true })) (bnd (gu k.answers k.used) λx8=>bnd (Gn c x8) λy9=>br (y9==false) (bnd (tK c) λy10=>some (y10,{ k with used:=(addI k.used 1),bad:=true })) (bnd (oO x8) λy11=>some (y11,{ k with used:=(addI k.used 1) }))))) λk2=>br k.waits (k2 true) (br k.bad (k2 true) (bnd (Hm c) λy4=>k2 y4))
def EW (k:fH)(cards:List gq)(s:GState)(pe:jg)(add:Bool)(s1:Unit)(k2:Unit->Option (GState×jg×Bool×fH)):Option (GState×jg×Bool×fH) := bnd (ou cards s) λy4=>bnd (pR cards s y4 pe ([]) add) λy5=>br (decide ((lenI y5)=0)) (some (s,{ pe with extra:=(Nk.mk pe.extra.a0 pe.extra.a1 pe.extra.a2) },true,k)) (bnd (JG s y4 { pe with extra:=(Nk.mk pe.extra.a0 pe.extra.a1 pe.extra.a2) }) λy6=>bnd (oU k (nO.mk 10 y6 0 0 0 0 y5)) λy7=>bnd (jS y7.1.length 0) λj8=>bnd (y7.1[j8]?) λx9=>bnd (gu y5 x9) λx10=>gY (([x10]).length) 24 ( none))
def yw (k:fH)(cards:List gq)(s:GState)(pe:jg)(add:Bool):Option (GState×jg×Bool×fH) := loopF (EW k cards s pe add) ()
def tZ (pe:jg)(y2:GState)(y4:List gm)(s5:Int×(List gm))(k6:(Int×(List gm))->Option GState):Option GState := br (decide (s5.1<(lenI y4))) (jn (λs8:(List gm)=>k6 ((addI s5.1 1),s8)) λk9=>bnd (gu y4 s5.1) λx11=>br (decide ((lenI s5.2)<64)) (gY (s5.2.length+([x11]).length) 768 ( k9 (s5.2++[x11]))) (k9 s5.2)) (br (!decide (pe.kind=1)) (some { y2 with waiting:=s5.2 }) (none))
def uf (k:fH)(cards:List gq)(s:GState)(pe:jg):Option GState := bnd (ou cards s) λy1=>bnd (Tt cards s y1 pe) λy2=>bnd (ou cards y2) λy3=>bnd (xN s y1 y2 y3 pe) λy4=>loopF (tZ pe y2 y4) (0,y2.waiting)
def Ja (y1:GState×jg×Bool×fH)(y12:GState)(s13:Unit)(k14:Unit->Option (GState×fH)):Option (GState×fH) := br (decide (0<0)) (none) (some (y12,y1.2.2.2))
def Ia (k:fH)(cards:List gq)(s:GState)(pe:jg)(add:Bool):Option (GState×fH) := bnd (yw k cards s pe add) λy1=>jn (λs2:Bool=>br s2 (some (y1.1,y1.2.2.2)) (jn (λs6:Unit=>bnd (uf y1.2.2.2 cards y1.1 y1.2.1) λy12=>loopF (Ja y1 y12) ()) λk7=>jn (λs9:Bool=>br s9 (none) (k7 ())) λk10=>br (decide (y1.2.1.kind=3)) (k10 (decide (1<y1.2.1.amount))) (k10 false))) λk3=>br (y1.2.2.1==false) (k3 true) (bnd (Bh cards y1.1 y1.2.1) λy5=>k3 (y5==false))
def xP (k:fH)(cards:List gq)(s:GState)(pe:jg):Option (GState×fH) := bnd (Ia k cards s pe true) λy1=>some (y1.1,y1.2)
def BP (cards:List gq)(s11:(List eX))(s27:fH×GState×Int)(k28:(fH×GState×Int)->Option (GState×Bool×fH)):Option (GState×Bool×fH) := br (decide (s27.2.2<(lenI s11))) (bnd (gu s11 s27.2.2) λx30=>bnd (xP s27.1 cards s27.2.1 (jg.mk 12 0 x30.a x30.b 0 0 0 0 0 0 false false Jy)) λy31=>k28 (y31.2,y31.1,(addI s27.2.2 1))) (some (s27.2.1,true,s27.1))
def ug (cards:List gq)(s:GState)(y1:List eQ)(s11:(List eX))(s18:fH×GState×Int)(k19:(fH×GState×Int)->Option (GState×Bool×fH)):Option (GState×Bool×fH) := br (decide (s18.2.2<(lenI s11))) (jn (λs21:fH×GState=>k19 (s21.1,s21.2,(addI s18.2.2 1))) λk22=>bnd (gu s11 s18.2.2) λx24=>bnd (uw s y1 x24.a 8) λy25=>br (y25==false) (bnd (xP s18.1 cards s18.2.1 (jg.mk 6 0 x24.a 0 0 0 0 0 0 0 false false Jy)) λy26=>k22 (y26.2,y26.1)) (k22 (s18.1,s18.2.1))) (loopF (BP cards s11) (s18.1,s18.2.1,0))
def oV (cards:List gq)(s:GState)(y1:List eQ)(y2:List eX)(y3:(List Int)×fH)(y4:List Int)(s5:Int×(List eX)×(List Int))(k6:(Int×(List eX)×(List Int))->Option (GState×Bool×fH)):Option (GState×Bool×fH) := br (decide (s5.1<(lenI y4))) (bnd (jS s5.2.2.length s5.1) λj8=>bnd (s5.2.2[j8]?) λx9=>bnd (gu y2 x9) λx10=>gY (s5.2.1.length+([x10]).length) 24 ( k6 ((addI s5.1 1),(s5.2.1++[x10]),s5.2.2))) (jn (λs11:(List eX)=>bnd (sV s) λy17=>loopF (ug cards s y1 s11) (y3.2,y17,0)) λk12=>bnd (tY s y1 s5.2.1) λy14=>br (!decide (y14=0)) (br (decide (0<(lenI s5.2.1))) (bnd (sV s) λy15=>some (y15,false,y3.2)) (bnd (yT s y1) λy16=>k12 y16)) (k12 s5.2.1))
def nK (k:fH)(cards:List gq)(s:GState):Option (GState×Bool×fH) := bnd (ou cards s) λy1=>bnd (oC s y1) λy2=>bnd (oU k (nO.mk 6 s.jZ 0 0 0 0 y2)) λy3=>bnd (slices_Sort_int y3.1) λy4=>loopF (oV cards s y1 y2 y3 y4) (0,[],y4)
def D9 (c:oJ)(s2:Int×Int×Int)(k3:(Int×Int×Int)->Option Int):Option Int := br (decide (s2.2.2<5)) (jn (λs5:Int=>k3 (s5,(QJ 2 s2.2.1),(addI s2.2.2 1))) λk6=>jn (λs8:Int=>k6 s8) λk9=>jn (λs11:Bool=>br s11 (k9 (addI s2.1 s2.2.1)) (k9 s2.1)) λk12=>oL s2.2.2 5 λj14=>(match j14 with|0=>(k12 (decide (0<c.color.a0)))  | 1=>(k12 (decide (0<c.color.a1)))  | 2=>(k12 (decide (0<c.color.a2)))  | 3=>(k12 (decide (0<c.color.a3)))  | _=>(k12 (decide (0<c.color.a4))) )) (some s2.1)
def zJ (c:oJ):Option Int := bnd (G7 c) λy1=>br (y1==false) (some 0) (loopF (D9 c) (0,1,0))
def Ib (a:fU)(s1:Int×(List iy))(k2:(Int×(List iy))->Option fU):Option fU := br (decide (s1.1<(lenI a.jw))) (bnd (gu a.jw s1.1) λx4=>gY (0+x4.mods.length) 176 ( gY (s1.2.length+([x4]).length) 560 ( k2 ((addI s1.1 1),(s1.2++[x4]))))) (some { a with jw:=s1.2 })
def Jb (a:fU):Option fU := gY (0+a.mods.length) 176 ( gY (0+a.specs.length) 144 ( loopF (Ib a) (0,[])))
def BQ (c:gq)(y1:Int)(s2:Int×(List fU))(k3:(Int×(List fU))->Option eQ):Option eQ := br (decide (s2.1<(lenI c.fB))) (bnd (gu c.fB s2.1) λx5=>bnd (Jb x5) λy6=>gY (s2.2.length+([y6]).length) 640 ( k3 ((addI s2.1 1),(s2.2++[y6])))) (some { c with gK:=(iL .or .i64 y1 c.color),fB:=s2.2,control:=0 })
def vG (c:gq):Option eQ := bnd (zJ c.cost) λy1=>gY (0+c.line.subs.length) 16 ( loopF (BQ c y1) (0,[]))
def Tu (cards:List gq)(o:fC):Option eQ := jn (λs1:Int=>jn (λs4:eQ=>br (decide (o.iI=0)) (some { s4 with control:=o.control }) (br (decide (o.iI=5)) (some { s4 with control:=o.control }) (some { s4 with control:=o.owner }))) λk5=>jn (λs7:Bool=>br s7 (bnd (gu cards s1) λx10=>bnd (vG x10) λy11=>k5 y11) (k5 zGTraits)) λk8=>br (decide (0<=s1)) (k8 (decide (s1<(lenI cards)))) (k8 false)) λk2=>br (decide (o.copy<0)) (k2 o.card) (k2 o.copy)
def JK (k5:(List ig)->Option (List ig))(x7:fC)(y8:eQ)(s9:Int×(List ig))(k10:(Int×(List ig))->Option (List ig)):Option (List ig) := br (decide (s9.1<(lenI y8.fB))) (jn (λs12:(List ig)=>k10 ((addI s9.1 1),s12)) λk13=>bnd (gu y8.fB s9.1) λx15=>br (decide (x15.kind=1)) (lt (ig.mk x7.id s9.1 x7.control x7.stamp false ([]) x15.filter x15.mods) λx16=>gY (s9.2.length+([x16]).length) 224 ( k13 (s9.2++[x16]))) (k13 s9.2)) (k5 s9.2)
def JL (s:GState)(s17:Int×(List ig))(k18:(Int×(List ig))->Option (List ig)):Option (List ig) := br (decide (s17.1<(lenI s.jT))) (bnd (gu s.jT s17.1) λx20=>lt { x20 with iZ:=(-1),fixed:=true,filter:=kP } λx21=>gY (s17.2.length+([x21]).length) 224 ( k18 ((addI s17.1 1),(s17.2++[x21])))) (some s17.2)
def JM (cards:List gq)(s:GState)(s1:Int×(List ig))(k2:(Int×(List ig))->Option (List ig)):Option (List ig) := br (decide (s1.1<(lenI s.objects))) (jn (λs4:(List ig)=>k2 ((addI s1.1 1),s4)) λk5=>bnd (gu s.objects s1.1) λx7=>br (!decide (x7.iI=0)) (k5 s1.2) (bnd (Tu cards x7) λy8=>loopF (JK k5 x7 y8) (0,s1.2))) (loopF (JL s) (0,s1.2))
def LU (cards:List gq)(s:GState):Option (List ig) := loopF (JM cards s) (0,[])
def FU (cards:List gq)(s:GState)(y1:List ig)(s2:Int×(List eQ))(k3:(Int×(List eQ))->Option ik):Option ik := br (decide (s2.1<(lenI s.objects))) (bnd (gu s.objects s2.1) λx5=>bnd (Tu cards x5) λy6=>gY (s2.2.length+([y6]).length) 176 ( k3 ((addI s2.1 1),(s2.2++[y6])))) (bnd (jm (lenI y1) (lenI y1) 1) λj7=>lt false λx8=>bnd (jm (lenI y1) (lenI y1) 24) λj9=>lt ([]) λx10=>bnd (jm (lenI s.objects) (lenI s.objects) 1) λj11=>lt false λx12=>some (ik.mk s s2.2 y1 (List.replicate j7 x8) (List.replicate j9 x10) (List.replicate j11 x12)))
def Kv (cards:List gq)(s:GState):Option ik := bnd (LU cards s) λy1=>loopF (FU cards s y1) (0,[])
def oD (n:Int):Option Int := br (decide (1000000<n)) (some 1000000) (br (decide (n<(-1000000))) (some (-1000000)) (some n))
def Vb (a:Int)(b:Int):Option Int := bnd (oD a) λy1=>bnd (oD b) λy2=>bnd (oD (qL y1 y2)) λy3=>some y3
def Gp (c:Nk Int):Option Int := bnd (Vb c.a0 c.a1) λy1=>some y1
def nR (a:Int)(b:Int):Option Int := bnd (oD a) λy1=>bnd (oD b) λy2=>bnd (oD (addI y1 y2)) λy3=>some y3
def BR (w:ik)(s1:Int×(List eQ))(k2:(Int×(List eQ))->Option ik):Option ik := br (decide (s1.1<(lenI w.all))) (jn (λs4:(List eQ)=>k2 ((addI s1.1 1),s4)) λk5=>bnd (gu w.all s1.1) λx7=>bnd (gu w.s.objects s1.1) λx8=>jn (λs9:Int×Int=>gY (s1.2.length+([{ x7 with power:=s9.1,gz:=s9.2 }]).length) 176 ( k5 (s1.2++[{ x7 with power:=s9.1,gz:=s9.2 }]))) λk10=>jn (λs12:Bool=>br s12 (bnd (Gp x8.counters) λy17=>bnd (nR x7.power y17) λy18=>bnd (nR x7.gz y17) λy19=>k10 (y18,y19)) (k10 (x7.power,x7.gz))) λk13=>br (decide (x8.iI=0)) (bnd (divO .quo .i64 x7.line.types 1) λx15=>bnd (divO .rem .i64 x15 2) λx16=>k13 (decide (x16=1))) (k13 false)) (some { w with all:=s1.2 })
def Aa (w:ik):Option ik := loopF (BR w) (0,[])
def wJ (kind:Int):Option Int := br (decide (kind=1)) (some 1) (br (decide (kind=2)) (some 2) (br (decide (kind=3)) (some 2) (br (decide (kind=4)) (some 2) (br (decide (kind=5)) (some 2) (br (decide (kind=6)) (some 3) (br (decide (kind=7)) (some 3) (br (decide (kind=8)) (some 4) (br (decide (kind=9)) (some 4) (br (decide (kind=10)) (some 4) (br (decide (kind=11)) (some 5) (br (decide (kind=12)) (some 6) (br (decide (kind=13)) (some 7) (br (decide (kind=14)) (some 8) (some 0))))))))))))))
def Ic (f:ig)(stage:Int)(s1:Int)(k2:Int->Option Bool):Option Bool := br (decide (s1<(lenI f.mods))) (bnd (gu f.mods s1) λx4=>bnd (wJ x4.kind) λy5=>br (decide (y5=stage)) (some true) (k2 (addI s1 1))) (some false)
def Jc (f:ig)(stage:Int):Option Bool := loopF (Ic f stage) 0
def LV (s:GState)(id:Int)(s1:Int)(k2:Int->Option Int):Option Int := br (decide (s1<(lenI s.objects))) (bnd (gu s.objects s1) λx4=>br (decide (x4.id=id)) (some s1) (k2 (addI s1 1))) (some (-1))
def Dt (s:GState)(id:Int):Option Int := loopF (LV s id) 0
def zK (w:ik)(i:Int):Option Bool := jn (λs1:Bool=>br s1 (some true) (bnd (gu w.l i) λx6=>bnd (Dt w.s x6.source) λy7=>br (decide (y7<0)) (some true) (bnd (gu w.blank y7) λx8=>some (x8==false)))) λk2=>bnd (gu w.l i) λx4=>br x4.fixed (k2 true) (bnd (gu w.begun i) λx5=>k2 x5)
def LW (w:ik)(i:Int):Option Int := bnd (gu w.l i) λx1=>bnd (Dt w.s x1.source) λy2=>jn (λs3:Bool=>br s3 (bnd (gu w.l i) λx7=>some x7.control) (bnd (gu w.all y2) λx8=>some x8.control)) λk4=>bnd (gu w.l i) λx6=>br x6.fixed (k4 true) (k4 (decide (y2<0)))
def BU (l:List Int)(n:Int)(s1:Int)(k2:Int->Option Int):Option Int := br (decide (s1<(lenI l))) (bnd (gu l s1) λx4=>br (decide (x4=n)) (some s1) (k2 (addI s1 1))) (some (-1))
def Ac (l:List Int)(n:Int):Option Int := loopF (BU l n) 0
def Rn (l:List Int)(n:Int):Option Bool := bnd (Ac l n) λy1=>some (decide (0<=y1))
def Ea (mask:Int)(key:Int):Option Bool := some (decide ((iL .and .i64 mask key)=key))
def Ro (control:Int)(you:Int)(w:Int):Option Bool := br (decide (w=1)) (some (decide (control=you))) (br (!decide (w=2)) (some true) (some (!decide (control=you))))
def WH (id:Int)(source:Int)(w:Int):Option Bool := br (decide (w=1)) (some (decide (id=source))) (br (!decide (w=2)) (some true) (some (!decide (id=source))))
def ZE (kN:Bool)(w:Int):Option Bool := br (decide (w=1)) (some kN) (br (!decide (w=2)) (some true) (some (kN==false)))
def kG (a:Int)(b:Int):Option Bool := some (!decide ((iL .and .i64 a b)=0))
def Du (l:rX)(sub:ByteArray):Option Bool := bnd (zY l.subs sub) λy1=>some (decide (0<=y1))
def Ad (b:rV)(n:Int):Option Bool := br (decide (b.kind=0)) (some true) (br (decide (b.kind=1)) (some (decide (b.n<=n))) (br (decide (b.kind=2)) (some (decide (n<=b.n))) (br (decide (b.kind=3)) (some (decide (n=b.n))) (some false))))
def FW (a:Int)(b:Int):Option Int := bnd (oD a) λy1=>bnd (oD b) λy2=>bnd (oD (QJ y1 y2)) λy3=>some y3
def Dv (c:oJ)(x:Int):Option Int := bnd (G7 c) λy1=>br (y1==false) (some 0) (bnd (nR c.generic c.color.a0) λy3=>bnd (nR y3 c.color.a1) λy4=>bnd (nR y4 c.color.a2) λy5=>bnd (nR y5 c.color.a3) λy6=>bnd (nR y6 c.color.a4) λy7=>br (decide (x<0)) (bnd (FW c.x 0) λy8=>bnd (nR y7 y8) λy9=>some y9) (bnd (FW c.x x) λy10=>bnd (nR y7 y10) λy11=>some y11))
def zL (t:eQ)(f:GFilter):Option Bool := bnd (kG t.line.types 1) λy1=>jn (λs2:Bool=>br s2 (some false) (jn (λs6:Bool=>br s6 (some false) (bnd (Dv t.cost 0) λy10=>bnd (Ad f.value y10) λy11=>some y11)) λk7=>br (!decide (f.gz.kind=0)) (br y1 (bnd (Ad f.gz t.gz) λy9=>k7 (y9==false)) (k7 true)) (k7 false))) λk3=>br (!decide (f.power.kind=0)) (br y1 (bnd (Ad f.power t.power) λy5=>k3 (y5==false)) (k3 true)) (k3 false)
def sD (o:fC)(t:eQ)(you:Int)(source:Int)(f:GFilter):Option Bool := jn (λs1:Bool=>br s1 (some false) (jn (λs8:Bool=>br s8 (some false) (jn (λs14:Bool=>br s14 (some false) (br (fQ .neq f.sub (bs [])) (bnd (Du t.line f.sub) λy20=>br (y20==false) (some false) (bnd (Ea t.keys f.keys) λy21=>br (y21==false) (some false) (bnd (zL t f) λy22=>some y22))) (bnd (Ea t.keys f.keys) λy23=>br (y23==false) (some false) (bnd (zL t f) λy24=>some y24)))) λk15=>br (!decide (f.gK=0)) (bnd (kG t.gK f.gK) λy17=>br (y17==false) (k15 true) (bnd (kG t.gK f.gI) λy18=>k15 y18)) (bnd (kG t.gK f.gI) λy19=>k15 y19))) λk9=>br (!decide (f.types=0)) (bnd (kG t.line.types f.types) λy11=>br (y11==false) (k9 true) (bnd (kG t.line.types f.iw) λy12=>k9 y12)) (bnd (kG t.line.types f.iw) λy13=>k9 y13))) λk2=>bnd (r13_Is f) λy4=>br (y4==false) (k2 true) (br (!decide (o.iI=f.iI)) (k2 true) (bnd (Ro t.control you f.who) λy5=>br (y5==false) (k2 true) (bnd (WH o.id source f.self) λy6=>br (y6==false) (k2 true) (bnd (ZE o.kN f.Ar) λy7=>k2 (y7==false)))))
def BV (w:ik)(i:Int)(x4:ig)(s5:Int×(List Int))(k6:(Int×(List Int))->Option (List Int)):Option (List Int) := br (decide (s5.1<(lenI w.s.objects))) (jn (λs8:(List Int)=>k6 ((addI s5.1 1),s8)) λk9=>bnd (gu w.s.objects s5.1) λx11=>br (!decide (x11.iI=0)) (k9 s5.2) (jn (λs12:Bool=>br s12 (gY (s5.2.length+([x11.id]).length) 8 ( k9 (s5.2++[x11.id]))) (k9 s5.2)) λk13=>br x4.fixed (bnd (Rn x4.objects x11.id) λy15=>br y15 (k13 true) (br (x4.fixed==false) (bnd (gu w.all s5.1) λx16=>bnd (LW w i) λy17=>bnd (sD x11 x16 y17 x4.source x4.filter) λy18=>k13 y18) (k13 false))) (br (x4.fixed==false) (bnd (gu w.all s5.1) λx19=>bnd (LW w i) λy20=>bnd (sD x11 x19 y20 x4.source x4.filter) λy21=>k13 y21) (k13 false)))) (some s5.2)
def Ae (w:ik)(i:Int):Option (List Int) := bnd (gu w.begun i) λx1=>br x1 (bnd (gu w.sets i) λx2=>some x2) (bnd (zK w i) λy3=>br (y3==false) (some ([])) (bnd (gu w.l i) λx4=>loopF (BV w i x4) (0,[])))
def ZF (all:List eQ)(i:Int):Option eQ := br (decide (i<0)) (some zGTraits) (br (decide ((lenI all)<=i)) (some zGTraits) (bnd (gu all i) λx1=>some x1))
def r29_List_l1 (s:GState)(all:List eQ)(you:Int)(source:Int)(f:GFilter)(s1:Int×(List Int))(k2:(Int×(List Int))->Option (List Int)):Option (List Int) := br (decide (s1.1<(lenI s.objects))) (jn (λs4:(List Int)=>k2 ((addI s1.1 1),s4)) λk5=>bnd (gu s.objects s1.1) λx7=>bnd (ZF all s1.1) λy8=>bnd (sD x7 y8 you source f) λy9=>br y9 (bnd (gu s.objects s1.1) λx10=>gY (s1.2.length+([x10.id]).length) 8 ( k5 (s1.2++[x10.id]))) (k5 s1.2)) (some s1.2)
def r29_List (s:GState)(all:List eQ)(you:Int)(source:Int)(f:GFilter):Option (List Int) := loopF (r29_List_l1 s all you source f) (0,[])
def BX (w:ik)(i:Int)(stage:Int)(x1:ig)(s2:Int×(List Int))(k3:(Int×(List Int))->Option (List Int)):Option (List Int) := br (decide (s2.1<(lenI x1.mods))) (jn (λs5:(List Int)=>k3 ((addI s2.1 1),s5)) λk6=>bnd (gu x1.mods s2.1) λx8=>bnd (wJ x8.kind) λy9=>br (!decide (y9=stage)) (k6 s2.2) (jn (λs10:Int=>gY (s2.2.length+([s10]).length) 8 ( k6 (s2.2++[s10]))) λk11=>bnd (gu x1.mods s2.1) λx13=>br (decide (x13.kind=11)) (bnd (LW w i) λy14=>bnd (gu x1.mods s2.1) λx15=>bnd (r29_List w.s w.all y14 x1.source x15.filter) λy16=>k11 (lenI y16)) (k11 0))) (some s2.2)
def Af (w:ik)(i:Int)(stage:Int):Option (List Int) := bnd (gu w.l i) λx1=>loopF (BX w i stage x1) (0,[])
def yU (l:rX)(sub:ByteArray)(s6:Int)(k7:Int->Option rX):Option rX := jn (λs9:Bool=>br s9 (k7 (addI s6 1)) (bnd (jE l.subs.length 0 s6) λx14=>gY (0+(Az l.subs (0+x14.1) (x14.2-x14.1)).length) 16 ( gY ((Az l.subs (0+x14.1) (x14.2-x14.1)).length+([sub]).length) 16 ( bnd (jE l.subs.length s6 ((l.subs.length:Nat):Int)) λx15=>gY (((Az l.subs (0+x14.1) (x14.2-x14.1))++[sub]).length+(Az l.subs (0+x15.1) (x15.2-x15.1)).length) 16 ( some { l with subs:=(((Az l.subs (0+x14.1) (x14.2-x14.1))++[sub])++(Az l.subs (0+x15.1) (x15.2-x15.1))) }))))) λk10=>br (decide (s6<(lenI l.subs))) (bnd (jS l.subs.length s6) λj12=>bnd (l.subs[j12]?) λx13=>k10 (fQ .lss x13 sub)) (k10 false)
def xQ (l:rX)(sub:ByteArray):Option rX := gY (0+l.subs.length) 16 ( jn (λs1:Bool=>br s1 (some l) (loopF (yU l sub) 0)) λk2=>bnd (pq sub) λy4=>br (y4==false) (k2 true) (bnd (Du l sub) λy5=>br y5 (k2 true) (k2 (decide (4<=(lenI l.subs))))))
def qK (t:eQ)(m:GMod)(you:Int)(count:Int):Option eQ := bnd (lG m) λy1=>br (y1==false) (some t) (br (decide (m.kind=1)) (some { t with control:=you }) (br (decide (m.kind=2)) (some { t with line:={ t.line with types:=m.n } }) (br (decide (m.kind=3)) (some { t with line:={ t.line with types:=(iL .or .i64 t.line.types m.n) } }) (br (decide (m.kind=4)) (some { t with line:={ t.line with subs:=[m.sub] } }) (br (decide (m.kind=5)) (bnd (xQ t.line m.sub) λy2=>some { t with line:=y2 }) (br (decide (m.kind=6)) (some { t with gK:=m.n }) (br (decide (m.kind=7)) (some { t with gK:=(iL .or .i64 t.gK m.n) }) (br (decide (m.kind=8)) (some { t with keys:=(iL .or .i64 t.keys m.n) }) (br (decide (m.kind=9)) (some { t with keys:=(iL .andNot .i64 t.keys m.n) }) (br (decide (m.kind=10)) (some { t with keys:=0,fB:=[] }) (br (decide (m.kind=11)) (bnd (oD count) λy3=>bnd (oD count) λy4=>some { t with power:=y3,gz:=y4 }) (br (decide (m.kind=12)) (some { t with power:=m.n,gz:=m.m }) (br (decide (m.kind=13)) (bnd (nR t.power m.n) λy5=>bnd (nR t.gz m.m) λy6=>some { t with power:=y5,gz:=y6 }) (br (decide (m.kind=14)) (some { t with power:=t.gz,gz:=t.power }) (some t)))))))))))))))
def MH (f:ig)(stage:Int)(lF:Int)(nums:List Int)(s1:eQ×Int×Int)(k2:(eQ×Int×Int)->Option eQ):Option eQ := br (decide (s1.2.2<(lenI f.mods))) (jn (λs4:eQ×Int=>k2 (s4.1,s4.2,(addI s1.2.2 1))) λk5=>bnd (gu f.mods s1.2.2) λx7=>bnd (wJ x7.kind) λy8=>br (decide (y8=stage)) (bnd (gu f.mods s1.2.2) λx9=>bnd (gu nums s1.2.1) λx10=>bnd (qK s1.1 x9 lF x10) λy11=>k5 (y11,(addI s1.2.1 1))) (k5 (s1.1,s1.2.1))) (some s1.1)
def FX (t:eQ)(f:ig)(stage:Int)(lF:Int)(nums:List Int):Option eQ := loopF (MH f stage lF nums) (t,0,0)
def LX (f:ig)(stage:Int)(s1:Int)(k2:Int->Option Bool):Option Bool := br (decide (s1<(lenI f.mods))) (jn (λs4:Bool=>br s4 (some true) (k2 (addI s1 1))) λk5=>bnd (gu f.mods s1) λx7=>br (decide (x7.kind=10)) (bnd (gu f.mods s1) λx8=>bnd (wJ x8.kind) λy9=>k5 (decide (y9=stage))) (k5 false)) (some false)
def OE (f:ig)(stage:Int):Option Bool := loopF (LX f stage) 0
def BZ (w:ik)(i:Int)(stage:Int)(y2:List Int)(y3:List Int)(y4:Int)(j5:Nat)(x6:Bool)(j8:Nat)(s10:Int×(List eQ)×(List Bool))(k11:(Int×(List eQ)×(List Bool))->Option ik):Option ik := br (decide (s10.1<(lenI w.s.objects))) (jn (λs13:(List eQ)×(List Bool)=>k11 ((addI s10.1 1),s13.1,s13.2)) λk14=>bnd (gu w.s.objects s10.1) λx16=>bnd (Rn y2 x16.id) λy17=>br (y17==false) (k14 (s10.2.1,s10.2.2)) (bnd (gu w.all s10.1) λx18=>bnd (gu w.l i) λx19=>bnd (FX x18 x19 stage y4 y3) λy20=>bnd (jS s10.2.1.length s10.1) λj21=>bnd (s10.2.1[j21]?) λx22=>bnd (gu w.l i) λx23=>bnd (OE x23 stage) λy24=>br y24 (bnd (jS s10.2.2.length s10.1) λj25=>lt true λx26=>bnd (s10.2.2[j25]?) λx27=>k14 ((s10.2.1.set j21 y20),(s10.2.2.set j25 x26))) (k14 ((s10.2.1.set j21 y20),s10.2.2)))) (some (ik.mk w.s s10.2.1 w.l (w.begun.set j5 x6) (w.sets.set j8 y2) s10.2.2))
def xR (w:ik)(i:Int)(stage:Int):Option ik := bnd (zK w i) λy1=>br (y1==false) (some w) (bnd (Ae w i) λy2=>bnd (Af w i stage) λy3=>bnd (LW w i) λy4=>gY w.all.length 176 ( gY w.begun.length 1 ( gY w.sets.length 24 ( gY w.blank.length 1 ( bnd (jS w.begun.length i) λj5=>lt true λx6=>bnd (w.begun[j5]?) λx7=>bnd (jS w.sets.length i) λj8=>bnd (w.sets[j8]?) λx9=>loopF (BZ w i stage y2 y3 y4 j5 x6 j8) (0,w.all,w.blank))))))
def UF (a:List Int)(b:List Int)(s1:Int)(k2:Int->Option Bool):Option Bool := br (decide (s1<(lenI a))) (bnd (gu a s1) λx4=>bnd (gu b s1) λx5=>br (!decide (x4=x5)) (some false) (k2 (addI s1 1))) (some true)
def NL (a:List Int)(b:List Int):Option Bool := br (!decide ((lenI a)=(lenI b))) (some false) (loopF (UF a b) 0)
def OG (w:ik)(i:Int)(j:Int)(stage:Int):Option Bool := br (decide (i=j)) (some false) (bnd (xR w j stage) λy1=>bnd (zK w i) λy2=>bnd (zK y1 i) λy3=>br ((y2==y3)==false) (some true) (bnd (Ae w i) λy4=>bnd (Ae y1 i) λy5=>bnd (NL y4 y5) λy6=>br (y6==false) (some true) (bnd (Af w i stage) λy7=>bnd (Af y1 i stage) λy8=>bnd (NL y7 y8) λy9=>some (y9==false))))
def PY (l:List Int)(i:Int)(s1:Int)(k2:Int->Option Bool):Option Bool := br (decide (s1<(lenI l))) (bnd (gu l s1) λx4=>br (decide (x4=i)) (some true) (k2 (addI s1 1))) (some false)
def OH (l:List Int)(i:Int):Option Bool := loopF (PY l i) 0
def EP (left:List Int)(s1:Int×(List Int))(k2:(Int×(List Int))->Option (List Int)):Option (List Int) := br (decide (s1.1<(lenI left))) (jn (λs4:(List Int)=>k2 ((addI s1.1 1),s4)) λk5=>jn (λs7:Bool=>br s7 (bnd (gu left s1.1) λx13=>gY (s1.2.length+([x13]).length) 8 ( k5 (s1.2++[x13]))) (k5 s1.2)) λk8=>bnd (gu left s1.1) λx10=>br (decide (0<=x10)) (bnd (gu left s1.1) λx11=>bnd (OH s1.2 x11) λy12=>k8 (y12==false)) (k8 false)) (some s1.2)
def FY (left:List Int):Option (List Int) := loopF (EP left) (0,[])
def Kw (needs:List (List Bool))(i:Int)(j:Int):Option Bool := br (decide (i<(lenI needs))) (bnd (gu needs i) λx1=>br (decide (j<(lenI x1))) (bnd (gu needs i) λx2=>bnd (gu x2 j) λx3=>some x3) (some false)) (some false)
def Ie (l:List Int)(needs:List (List Bool))(s10:Int×(List Int))(k11:(Int×(List Int))->Option (List Int))(s13:Int×(List Int))(k14:(Int×(List Int))->Option (List Int)):Option (List Int) := br (decide (s13.1<(lenI l))) (jn (λs16:(List Int)=>k14 ((addI s13.1 1),s16)) λk17=>jn (λs19:Bool=>br s19 (bnd (gu l s13.1) λx28=>gY (s13.2.length+([x28]).length) 8 ( k17 (s13.2++[x28]))) (k17 s13.2)) λk20=>bnd (jS s13.2.length s10.1) λj22=>bnd (s13.2[j22]?) λx23=>bnd (gu l s13.1) λx24=>bnd (Kw needs x23 x24) λy25=>br y25 (bnd (gu l s13.1) λx26=>bnd (OH s13.2 x26) λy27=>k20 (y27==false)) (k20 false)) (k11 ((addI s10.1 1),s13.2))
def NM (l:List Int)(needs:List (List Bool))(s10:Int×(List Int))(k11:(Int×(List Int))->Option (List Int)):Option (List Int) := br (decide (s10.1<(lenI s10.2))) (loopF (Ie l needs s10 k11) (0,s10.2)) (some s10.2)
def Ig (l:List Int)(needs:List (List Bool))(i:Int)(s1:Int×(List Int))(k2:(Int×(List Int))->Option (List Int)):Option (List Int) := br (decide (s1.1<(lenI l))) (jn (λs4:(List Int)=>k2 ((addI s1.1 1),s4)) λk5=>bnd (gu l s1.1) λx7=>bnd (Kw needs i x7) λy8=>br y8 (bnd (gu l s1.1) λx9=>gY (s1.2.length+([x9]).length) 8 ( k5 (s1.2++[x9]))) (k5 s1.2)) (loopF (NM l needs) (0,s1.2))
def Jd (l:List Int)(needs:List (List Bool))(i:Int):Option (List Int) := loopF (Ig l needs i) (0,[])
def LY (needs:List (List Bool))(y1:List Int)(s2:Int×(List Int))(k6:(List Int)->Option (List Int))(s8:Bool×Int)(k9:(Bool×Int)->Option (List Int)):Option (List Int) := br (decide (s8.2<(lenI y1))) (jn (λs11:Bool=>k9 (s11,(addI s8.2 1))) λk12=>jn (λs14:Bool=>br s14 (k12 false) (k12 s8.1)) λk15=>br (!decide (s8.2=s2.1)) (bnd (gu y1 s2.1) λx17=>bnd (gu y1 s8.2) λx18=>bnd (Kw needs x17 x18) λy19=>br y19 (bnd (gu y1 s8.2) λx20=>bnd (Jd y1 needs x20) λy21=>bnd (gu y1 s2.1) λx22=>bnd (OH y21 x22) λy23=>k15 (y23==false)) (k15 false)) (k15 false)) (br s8.1 (bnd (gu y1 s2.1) λx24=>gY (s2.2.length+([x24]).length) 8 ( k6 (s2.2++[x24]))) (k6 s2.2))
def LZ (needs:List (List Bool))(y1:List Int)(s2:Int×(List Int))(k3:(Int×(List Int))->Option (List Int)):Option (List Int) := br (decide (s2.1<(lenI y1))) (jn (λs5:(List Int)=>k3 ((addI s2.1 1),s5)) λk6=>loopF (LY needs y1 s2 k6) (true,0)) (some s2.2)
def OI (left:List Int)(needs:List (List Bool)):Option (List Int) := bnd (FY left) λy1=>loopF (LZ needs y1) (0,[])
def Gq (stamps:List Int)(i:Int):Option Int := br (decide (i<(lenI stamps))) (bnd (gu stamps i) λx1=>some x1) (some 0)
def NP (stamps:List Int)(y1:List Int)(s2:Int×Int)(k3:(Int×Int)->Option Int):Option Int := br (decide (s2.2<(lenI y1))) (jn (λs5:Int=>k3 (s5,(addI s2.2 1))) λk6=>bnd (gu y1 s2.2) λx8=>bnd (Gq stamps x8) λy9=>jn (λs10:Bool=>br s10 (bnd (gu y1 s2.2) λx16=>k6 x16) (k6 s2.1)) λk11=>br (decide (s2.1<0)) (k11 true) (bnd (Gq stamps s2.1) λy13=>br (decide (y9<y13)) (k11 true) (bnd (Gq stamps s2.1) λy14=>br (decide (y9=y14)) (bnd (gu y1 s2.2) λx15=>k11 (decide (x15<s2.1))) (k11 false)))) (some s2.1)
def Rq (left:List Int)(stamps:List Int)(needs:List (List Bool)):Option Int := bnd (OI left needs) λy1=>loopF (NP stamps y1) ((-1),0)
def Je (w:ik)(left:List Int)(stage:Int)(s8:Int×(List (List Bool)))(k9:(Int×(List (List Bool)))->Option Int)(s11:Int×(List (List Bool)))(k12:(Int×(List (List Bool)))->Option Int):Option Int := br (decide (s11.1<(lenI left))) (bnd (gu left s8.1) λx14=>bnd (jS s11.2.length x14) λj15=>bnd (s11.2[j15]?) λx16=>bnd (gu left s11.1) λx17=>bnd (gu left s8.1) λx18=>bnd (gu left s11.1) λx19=>bnd (OG w x18 x19 stage) λy20=>bnd (jS x16.length x17) λj21=>bnd (s11.2[j15]?) λx22=>bnd (x22[j21]?) λx23=>k12 ((addI s11.1 1),(s11.2.set j15 (x22.set j21 y20)))) (k9 ((addI s8.1 1),s11.2))
def Jf (w:ik)(left:List Int)(stage:Int)(s1:Int×(List Int)×(List (List Bool)))(s8:Int×(List (List Bool)))(k9:(Int×(List (List Bool)))->Option Int):Option Int := br (decide (s8.1<(lenI left))) (loopF (Je w left stage s8 k9) (0,s8.2)) (bnd (Rq left s1.2.1 s8.2) λy24=>some y24)
def Jg (w:ik)(left:List Int)(stage:Int)(s1:Int×(List Int)×(List (List Bool)))(k2:(Int×(List Int)×(List (List Bool)))->Option Int):Option Int := br (decide (s1.1<(lenI w.l))) (bnd (gu w.l s1.1) λx4=>gY (s1.2.1.length+([x4.stamp]).length) 8 ( bnd (jm (lenI w.l) (lenI w.l) 1) λj5=>lt false λx6=>gY (s1.2.2.length+1) 24 ( k2 ((addI s1.1 1),(s1.2.1++[x4.stamp]),(s1.2.2++[(List.replicate j5 x6)]))))) (loopF (Jf w left stage s1) (0,s1.2.2))
def NQ (w:ik)(left:List Int)(stage:Int):Option Int := loopF (Jg w left stage) (0,[],[])
def Ih (l:List Int)(n:Int)(s1:Int×(List Int))(k2:(Int×(List Int))->Option (List Int)):Option (List Int) := br (decide (s1.1<(lenI l))) (jn (λs4:(List Int)=>k2 ((addI s1.1 1),s4)) λk5=>bnd (gu l s1.1) λx7=>br (!decide (x7=n)) (bnd (gu l s1.1) λx8=>gY (s1.2.length+([x8]).length) 8 ( k5 (s1.2++[x8]))) (k5 s1.2)) (some s1.2)
def Jh (l:List Int)(n:Int):Option (List Int) := loopF (Ih l n) (0,[])
def O3 (stage:Int)(s5:Int×(List Int))(s13:ik×(List Int)×Int×(List Int))(k14:(ik×(List Int)×Int×(List Int))->Option (ik×(List Int))):Option (ik×(List Int)) := br (decide (s13.2.2.1<(lenI s5.2))) (bnd (NQ s13.1 s13.2.1 stage) λy16=>gY (s13.2.2.2.length+([y16]).length) 8 ( bnd (xR s13.1 y16 stage) λy17=>bnd (Jh s13.2.1 y16) λy18=>k14 (y17,y18,(addI s13.2.2.1 1),(s13.2.2.2++[y16])))) (some (s13.1,s13.2.2.2))
def wK (stage:Int)(s1:ik)(s5:Int×(List Int))(k6:(Int×(List Int))->Option (ik×(List Int))):Option (ik×(List Int)) := br (decide (s5.1<(lenI s1.l))) (jn (λs8:(List Int)=>k6 ((addI s5.1 1),s8)) λk9=>bnd (gu s1.l s5.1) λx11=>bnd (Jc x11 stage) λy12=>br y12 (gY (s5.2.length+([s5.1]).length) 8 ( k9 (s5.2++[s5.1]))) (k9 s5.2)) (loopF (O3 stage s5) (s1,s5.2,0,[]))
def qP (w:ik)(stage:Int):Option (ik×(List Int)) := jn (λs1:ik=>loopF (wK stage s1) (0,[])) λk2=>br (decide (stage=7)) (bnd (Aa w) λy4=>k2 y4) (k2 w)
def FZ (cards:List gq)(s:GState):Option (List eQ) := bnd (Kv cards s) λy1=>bnd (qP y1 1) λy3=>bnd (qP y3.1 2) λy4=>bnd (qP y4.1 3) λy5=>bnd (qP y5.1 4) λy6=>bnd (qP y6.1 5) λy7=>bnd (qP y7.1 6) λy8=>bnd (qP y8.1 7) λy9=>bnd (qP y9.1 8) λy10=>some y10.1.all
def Ji (SS:Bool):Option GState := lt (fC.mk 1 0 0 0 0 false false SS false 0 Jy 0 (-1) (-1) false 0 0) λx1=>lt 1 λx2=>some (GState.mk ([(jB.mk 20 0 0 Wi false false ([]) ([]) ([])),(jB.mk 20 0 0 Wi false false ([]) ([]) ([]))]) ([x1]) ([x2]) ([]) ([]) ([]) ([]) 1 0 4 false 0 0 2 1 0 ([]) 0 (-1))
def F5  : Option (List gq) := lt (gq.mk (bs [114,97,105,100,101,114]) false Wx 0 (rX.mk 0 1 ([])) 2 2 65536 ([])) λx1=>some ([x1])
def uh  : Option Bool := bnd (Ji false) λy1=>bnd (F5) λy2=>bnd (FZ y2 y1) λy3=>bnd (Ll ([[]])) λy4=>bnd (F5) λy5=>bnd (nK y4 y5 y1) λy6=>bnd (Ll ([[]])) λy7=>bnd (F5) λy8=>bnd (Ji true) λy9=>bnd (xe y7 y8 y9) λy10=>bnd (oC y1 y3) λy11=>br (decide ((lenI y11)=1)) (bnd (gu y11 0) λx12=>lt (decide (x12.kind=7)&&(decide (x12.a=1)&&(decide (x12.b=1)&&true))) λv13=>br v13 (bnd (tY y1 y3 y11) λy14=>br (decide (y14=0)) (bnd (tY y1 y3 ([])) λy15=>br (decide (y15=18)) (br (decide ((lenI y6.1.objects)=1)) (bnd (gu y6.1.objects 0) λx16=>br (decide (x16.nT=1)) (bnd (gu y6.1.objects 0) λx17=>br x17.kN (br y6.2.1 (br (decide ((lenI y10.1.objects)=1)) (bnd (gu y10.1.objects 0) λx18=>br (decide (x18.nT=(-1))) (some y10.2.1) (some false)) (some false)) (some false)) (some false)) (some false)) (some false)) (some false)) (some false)) (some false)) (some false)
def yK (s:GState)(y6:List eQ)(s8:Int×(List eX))(y27:GState×Bool×fH)(s28:Int)(k29:Int->Option Bool)(s35:Int×Int)(k36:(Int×Int)->Option Bool):Option Bool := br (decide (s35.2<(lenI s8.2))) (jn (λs38:Int=>k36 (s38,(addI s35.2 1))) λk39=>bnd (jS s8.2.length s35.2) λj41=>bnd (s8.2[j41]?) λx42=>bnd (gu s.objects s28) λx43=>br (decide (x42.a=x43.id)) (bnd (jS s8.2.length s35.2) λj44=>bnd (s8.2[j44]?) λx45=>k39 x45.b) (k39 s35.1)) (bnd (gu s.objects s28) λx46=>bnd (Ef y27.1 x46.id) λy47=>jn (λs48:Bool=>br s48 (some false) (jn (λs51:Bool=>br s51 (some false) (k29 (addI s28 1))) λk52=>br (decide (0<=s35.1)) (bnd (gu s.objects s28) λx54=>br (!decide (s35.1=x54.nT)) (br (y47.1.kN==false) (bnd (gu y6 s28) λx55=>bnd (Ea x55.keys 8) λy56=>k52 (y56==false)) (k52 false)) (k52 false)) (k52 false))) λk49=>br (y47.2==false) (k49 true) (k49 (!decide (y47.1.nT=s35.1))))
def uF (s:GState)(y6:List eQ)(s8:Int×(List eX))(y27:GState×Bool×fH)(s28:Int)(k29:Int->Option Bool):Option Bool := jn (λs31:Bool=>br s31 (bnd (gu s.objects s28) λx34=>loopF (yK s y6 s8 y27 s28 k29) (x34.nT,0)) (bnd (uh) λy57=>some y57)) λk32=>br (decide (s28<(lenI s.objects))) (k32 (decide (s28<(lenI y6)))) (k32 false)
def uG (cards:List gq)(s:GState)(answer:List Int)(y6:List eQ)(y7:List eX)(s8:Int×(List eX))(k9:(Int×(List eX))->Option Bool):Option Bool := br (decide (s8.1<(lenI answer))) (jn (λs11:Bool=>br s11 (bnd (uh) λy18=>some y18) (bnd (gu answer s8.1) λx19=>bnd (gu y7 x19) λx20=>gY (s8.2.length+([x20]).length) 24 ( k9 ((addI s8.1 1),(s8.2++[x20]))))) λk12=>bnd (gu answer s8.1) λx14=>br (decide (x14<0)) (k12 true) (bnd (gu answer s8.1) λx15=>br (decide ((lenI y7)<=x15)) (k12 true) (bnd (gu answer s8.1) λx16=>bnd (Ac answer x16) λy17=>k12 (!decide (y17=s8.1))))) (jn (λs21:Bool=>br s21 (bnd (uh) λy25=>some y25) (bnd (Ll ([answer])) λy26=>bnd (nK y26 cards s) λy27=>br (y27.2.1==false) (some false) (loopF (uF s y6 s8 y27) 0))) λk22=>br (decide ((lenI y7)=0)) (k22 true) (bnd (tY s y6 s8.2) λy24=>k22 (!decide (y24=0))))
def uH (cards:List gq)(s:GState)(answer:List Int):Option Bool := jn (λs1:Bool=>br s1 (bnd (uh) λy5=>some y5) (bnd (FZ cards s) λy6=>bnd (oC s y6) λy7=>loopF (uG cards s answer y6 y7) (0,[]))) λk2=>bnd (vF cards s) λy4=>br (y4==false) (k2 true) (k2 (decide (60<(lenI answer))))
def wS (s:GState)(y8:List eQ)(y9:List eX)(s12:Int)(k13:Int->Option Bool)(y19:fC×Bool)(s20:Bool×Int)(k21:(Bool×Int)->Option Bool):Option Bool := br (decide (s20.2<(lenI y9))) (br s20.1 (k21 (true,(addI s20.2 1))) (bnd (gu y9 s20.2) λx23=>bnd (gu s.objects s12) λx24=>br (decide (x23.a=x24.id)) (bnd (gu y8 s12) λx25=>bnd (Ea x25.keys 65536) λy26=>k21 (y26,(addI s20.2 1))) (k21 (false,(addI s20.2 1))))) (jn (λs27:Bool=>br s27 (some false) (k13 (addI s12 1))) λk28=>br (y19.2==false) (k28 true) (br s20.1 (br (!decide (y19.1.nT=(qL 1 s.jZ))) (k28 true) (br (s20.1==false) (bnd (gu s.objects s12) λx30=>k28 (!decide (y19.1.nT=x30.nT))) (k28 false))) (br (s20.1==false) (bnd (gu s.objects s12) λx31=>k28 (!decide (y19.1.nT=x31.nT))) (k28 false))))
def sJ (s:GState)(y8:List eQ)(y9:List eX)(y11:GState×Bool×fH)(s12:Int)(k13:Int->Option Bool):Option Bool := jn (λs15:Bool=>br s15 (bnd (gu s.objects s12) λx18=>bnd (Ef y11.1 x18.id) λy19=>loopF (wS s y8 y9 s12 k13 y19) (false,0)) (bnd (uh) λy32=>some y32)) λk16=>br (decide (s12<(lenI s.objects))) (k16 (decide (s12<(lenI y8)))) (k16 false)
def rO (cards:List gq)(s:GState):Option Bool := jn (λs1:Bool=>br s1 (bnd (uh) λy7=>some y7) (bnd (FZ cards s) λy8=>bnd (oC s y8) λy9=>bnd (Ll ([[]])) λy10=>bnd (nK y10 cards s) λy11=>br (y11.2.1==false) (some false) (loopF (sJ s y8 y9 y11) 0))) λk2=>bnd (vF cards s) λy4=>br (y4==false) (k2 true) (br (!decide ((lenI s.fM)=2)) (k2 true) (bnd (gu s.fM 0) λx5=>br x5.lost (k2 true) (bnd (gu s.fM 1) λx6=>k2 x6.lost)))
abbrev qX (M:fP) (l:List fU):List (List PV):=M.m fU (jv M) l
abbrev agz (M:fP) (l:List gq):List (List PV):=M.m gq (zD M) l
abbrev Ag (M:fP) (l:List qc):List (List PV):=M.m qc (Df M) l
abbrev xg (M:fP) (l:List iy):List (List PV):=M.m iy (xA M) l
abbrev uy (M:fP) (l:List oK):List (List PV):=M.m oK (AZ M) l
abbrev rF (M:fP) (l:List GLayerForce):List (List PV):=M.m GLayerForce (oN M) l
abbrev Tv (M:fP) (l:List GMod):List (List PV):=M.m GMod (yz M) l
abbrev jW (M:fP) (l:List fC):List (List PV):=M.m fC (ja M) l
abbrev jq (M:fP) (l:List eX):List (List PV):=M.m eX (rU M) l
abbrev lu (M:fP) (l:List jB):List (List PV):=M.m jB (xx M) l
abbrev Ah (M:fP) (l:List ig):List (List PV):=M.m ig (vO M) l
abbrev mSpec (M:fP) (l:List rW):List (List PV):=M.m rW (Le M) l
abbrev ZG (M:fP) (l:List qf):List (List PV):=M.m qf (Ee M) l
abbrev fJ (M:fP) (l:List eQ):List (List PV):=M.m eQ (jh M) l
abbrev iP (M:fP) (l:List gm):List (List PV):=M.m gm (zW M) l
abbrev eY (M:fP) (l:List eP):List (List PV):=M.m eP (jy M) l
abbrev Cb (M:fP) (l:List fU):PV:=.sl 72 (M.m fU (jv M) l) false
abbrev kH (M:fP) (l:List gq):PV:=.sl 17 (M.m gq (zD M) l) false
abbrev MI (M:fP) (l:List qc):PV:=.sl 6 (M.m qc (Df M) l) false
abbrev Jj (M:fP) (l:List iy):PV:=.sl 64 (M.m iy (xA M) l) false
abbrev UG (M:fP) (l:List oK):PV:=.sl 94 (M.m oK (AZ M) l) false
abbrev fK (M:fP) (l:List GLayerForce):PV:=.sl 23 (M.m GLayerForce (oN M) l) false
abbrev PZ (M:fP) (l:List GMod):PV:=.sl 20 (M.m GMod (yz M) l) false
abbrev nS (M:fP) (l:List fC):PV:=.sl 19 (M.m fC (ja M) l) false
abbrev jI (M:fP) (l:List eX):PV:=.sl 3 (M.m eX (rU M) l) false
abbrev OJ (M:fP) (l:List jB):PV:=.sl 14 (M.m jB (xx M) l) false
abbrev vg (M:fP) (l:List ig):PV:=.sl 23 (M.m ig (vO M) l) false
abbrev UH (M:fP) (l:List rW):PV:=.sl 18 (M.m rW (Le M) l) false
abbrev Rt (M:fP) (l:List qf):PV:=.sl 2 (M.m qf (Ee M) l) false
abbrev iE (M:fP) (l:List eQ):PV:=.sl 17 (M.m eQ (jh M) l) false
abbrev sF (M:fP) (l:List gm):PV:=.sl 89 (M.m gm (zW M) l) false
theorem gX {p:Prop}(h:p:=by(try simp only[rU,jD,jL,xx,ja,DR,jb,yz,qN,AY,pg,Le,Yk,GY,xA,qy,jv,Ee,jC,AZ,zW,Df,fD,GZ,zD,jh,oN,Lh,ny,jy,Lj,vO,jr,QO,AX,acF,agw,qi,QP,kP,alD,Wx,adV,SV,akc,aje,abh,agx,SX,Dc,agy,Va,akd,aeQ,ake,QQ,WA,SY,zGTraits,QR,Zr,Np,WB,Zt,acI,acJ,ajS,Jy,agc,Wi,qX,agz,Ag,xg,uy,rF,Tv,jW,jq,lu,Ah,mSpec,ZG,fJ,iP,eY,Cb,kH,MI,Jj,UG,fK,PZ,nS,jI,OJ,vg,UH,Rt,iE,sF,List.cons_append,List.nil_append,q]);repeat' constructor):p:=h
theorem JB {u v:List PV}(e:u=v:=by simp only[q];try first|rfl|(simp only[rU,jD,jL,xx,ja,DR,jb,yz,qN,AY,pg,Le,Yk,GY,xA,qy,jv,Ee,jC,AZ,zW,Df,fD,GZ,zD,jh,oN,Lh,ny,jy,Lj,vO,jr,qX,agz,Ag,xg,uy,rF,Tv,jW,jq,lu,Ah,mSpec,ZG,fJ,iP,eY,Cb,kH,MI,Jj,UG,fK,PZ,nS,jI,OJ,vg,UH,Rt,iE,sF,List.cons_append,List.nil_append,q];done)|simp[zA,eI,eB,eL,eS,qX,agz,Ag,xg,uy,rF,Tv,jW,jq,lu,Ah,mSpec,ZG,fJ,iP,eY,Cb,kH,MI,Jj,UG,fK,PZ,nS,jI,OJ,vg,UH,Rt,iE,sF,List.cons_append,List.nil_append,q]):Iu u v:=le_eq e
instance {M:fP}:EC M eX (rU M):=⟨⟩
instance {M:fP}:EC M nO (jD M):=⟨⟩
instance {M:fP}:EC M fH (jL M):=⟨⟩
instance {M:fP}:EC M jB (xx M):=⟨⟩
instance {M:fP}:EC M fC (ja M):=⟨⟩
instance {M:fP}:EC M rV (DR M):=⟨⟩
instance {M:fP}:EC M GFilter (jb M):=⟨⟩
instance {M:fP}:EC M GMod (yz M):=⟨⟩
instance {M:fP}:EC M oJ (qN M):=⟨⟩
instance {M:fP}:EC M Ld (AY M):=⟨⟩
instance {M:fP}:EC M xy (pg M):=⟨⟩
instance {M:fP}:EC M rW (Le M):=⟨⟩
instance {M:fP}:EC M Wy (Yk M):=⟨⟩
instance {M:fP}:EC M yY (GY M):=⟨⟩
instance {M:fP}:EC M iy (xA M):=⟨⟩
instance {M:fP}:EC M qj (qy M):=⟨⟩
instance {M:fP}:EC M fU (jv M):=⟨⟩
instance {M:fP}:EC M qf (Ee M):=⟨⟩
instance {M:fP}:EC M jg (jC M):=⟨⟩
instance {M:fP}:EC M oK (AZ M):=⟨⟩
instance {M:fP}:EC M gm (zW M):=⟨⟩
instance {M:fP}:EC M qc (Df M):=⟨⟩
instance {M:fP}:EC M GState (fD M):=⟨⟩
instance {M:fP}:EC M rX (GZ M):=⟨⟩
instance {M:fP}:EC M gq (zD M):=⟨⟩
instance {M:fP}:EC M eQ (jh M):=⟨⟩
instance {M:fP}:EC M GLayerForce (oN M):=⟨⟩
instance {M:fP}:EC M GLayerWorld (Lh M):=⟨⟩
instance {M:fP}:EC M jV (ny M):=⟨⟩
instance {M:fP}:EC M eP (jy M):=⟨⟩
instance {M:fP}:EC M jP (Lj M):=⟨⟩
instance {M:fP}:EC M ig (vO M):=⟨⟩
instance {M:fP}:EC M ik (jr M):=⟨⟩
end Go.Proofs.YtchmoabpofnbaaaGreat
