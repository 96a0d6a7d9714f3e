import Derived.Test.YtlacmdnhabblcaaGreatX09
import Derived.Test.YtlacmdnhabblcaaGreatX10
set_option linter.all false
namespace Go.Proofs.YtlacmdnhabblcaaGreat
open Go Go.Pv
set_option maxRecDepth 100000
set_option maxHeartbeats 2000000
structure GCost where
 generic:Int
 x:Int
 color:Arr5 Int
def eGCost (M:EncM) (x:GCost):List PV:=[.si .i64 x.generic,.si .i64 x.x,.si .i64 x.color.a0,.si .i64 x.color.a1,.si .i64 x.color.a2,.si .i64 x.color.a3,.si .i64 x.color.a4]
def zGCost:GCost:=GCost.mk 0 0 zArr5I
structure GLine where
 super:Int
 types:Int
 subs:List ByteArray
def eGLine (M:EncM) (x:GLine):List PV:=[.si .i64 x.super,.si .i64 x.types,.sl 1 (M.m ByteArray eS x.subs) false]
def zGLine:GLine:=GLine.mk 0 0 ([])
structure GBound where
 kind:Int
 n:Int
def eGBound (M:EncM) (x:GBound):List PV:=[.si .i64 x.kind,.si .i64 x.n]
def zGBound:GBound:=GBound.mk 0 0
structure GFilter where
 zone:Int
 who:Int
 self:Int
 types:Int
 notTypes:Int
 colors:Int
 notColors:Int
 sub:ByteArray
 keys:Int
 tap:Int
 power:GBound
 tough:GBound
 value:GBound
def eGFilter (M:EncM) (x:GFilter):List PV:=[.si .i64 x.zone,.si .i64 x.who,.si .i64 x.self,.si .i64 x.types,.si .i64 x.notTypes,.si .i64 x.colors,.si .i64 x.notColors,.str x.sub,.si .i64 x.keys,.si .i64 x.tap,.si .i64 x.power.kind,.si .i64 x.power.n,.si .i64 x.tough.kind,.si .i64 x.tough.n,.si .i64 x.value.kind,.si .i64 x.value.n]
def zGFilter:GFilter:=GFilter.mk 0 0 0 0 0 0 0 (bs []) 0 0 zGBound zGBound zGBound
structure GMod where
 kind:Int
 n:Int
 m:Int
 sub:ByteArray
 filter:GFilter
def eGMod (M:EncM) (x:GMod):List PV:=[.si .i64 x.kind,.si .i64 x.n,.si .i64 x.m,.str x.sub,.si .i64 x.filter.zone,.si .i64 x.filter.who,.si .i64 x.filter.self,.si .i64 x.filter.types,.si .i64 x.filter.notTypes,.si .i64 x.filter.colors,.si .i64 x.filter.notColors,.str x.filter.sub,.si .i64 x.filter.keys,.si .i64 x.filter.tap,.si .i64 x.filter.power.kind,.si .i64 x.filter.power.n,.si .i64 x.filter.tough.kind,.si .i64 x.filter.tough.n,.si .i64 x.filter.value.kind,.si .i64 x.filter.value.n]
def zGMod:GMod:=GMod.mk 0 0 0 (bs []) zGFilter
structure GPrice where
 mana:GCost
 tap:Bool
 sacrifice:Bool
 life:Int
def eGPrice (M:EncM) (x:GPrice):List PV:=[.si .i64 x.mana.generic,.si .i64 x.mana.x,.si .i64 x.mana.color.a0,.si .i64 x.mana.color.a1,.si .i64 x.mana.color.a2,.si .i64 x.mana.color.a3,.si .i64 x.mana.color.a4,.sb x.tap,.sb x.sacrifice,.si .i64 x.life]
def zGPrice:GPrice:=GPrice.mk zGCost false false 0
structure GTrigger where
 when:Int
 who:Int
 filter:GFilter
def eGTrigger (M:EncM) (x:GTrigger):List PV:=[.si .i64 x.when,.si .i64 x.who,.si .i64 x.filter.zone,.si .i64 x.filter.who,.si .i64 x.filter.self,.si .i64 x.filter.types,.si .i64 x.filter.notTypes,.si .i64 x.filter.colors,.si .i64 x.filter.notColors,.str x.filter.sub,.si .i64 x.filter.keys,.si .i64 x.filter.tap,.si .i64 x.filter.power.kind,.si .i64 x.filter.power.n,.si .i64 x.filter.tough.kind,.si .i64 x.filter.tough.n,.si .i64 x.filter.value.kind,.si .i64 x.filter.value.n]
def zGTrigger:GTrigger:=GTrigger.mk 0 0 zGFilter
structure GSpec where
 player:Bool
 object:Bool
 filter:GFilter
def eGSpec (M:EncM) (x:GSpec):List PV:=[.sb x.player,.sb x.object,.si .i64 x.filter.zone,.si .i64 x.filter.who,.si .i64 x.filter.self,.si .i64 x.filter.types,.si .i64 x.filter.notTypes,.si .i64 x.filter.colors,.si .i64 x.filter.notColors,.str x.filter.sub,.si .i64 x.filter.keys,.si .i64 x.filter.tap,.si .i64 x.filter.power.kind,.si .i64 x.filter.power.n,.si .i64 x.filter.tough.kind,.si .i64 x.filter.tough.n,.si .i64 x.filter.value.kind,.si .i64 x.filter.value.n]
def zGSpec:GSpec:=GSpec.mk false false zGFilter
structure GRef where
 kind:Int
 n:Int
 filter:GFilter
def eGRef (M:EncM) (x:GRef):List PV:=[.si .i64 x.kind,.si .i64 x.n,.si .i64 x.filter.zone,.si .i64 x.filter.who,.si .i64 x.filter.self,.si .i64 x.filter.types,.si .i64 x.filter.notTypes,.si .i64 x.filter.colors,.si .i64 x.filter.notColors,.str x.filter.sub,.si .i64 x.filter.keys,.si .i64 x.filter.tap,.si .i64 x.filter.power.kind,.si .i64 x.filter.power.n,.si .i64 x.filter.tough.kind,.si .i64 x.filter.tough.n,.si .i64 x.filter.value.kind,.si .i64 x.filter.value.n]
def zGRef:GRef:=GRef.mk 0 0 zGFilter
structure GAmount where
 kind:Int
 n:Int
 counter:Int
 filter:GFilter
def eGAmount (M:EncM) (x:GAmount):List PV:=[.si .i64 x.kind,.si .i64 x.n,.si .i64 x.counter,.si .i64 x.filter.zone,.si .i64 x.filter.who,.si .i64 x.filter.self,.si .i64 x.filter.types,.si .i64 x.filter.notTypes,.si .i64 x.filter.colors,.si .i64 x.filter.notColors,.str x.filter.sub,.si .i64 x.filter.keys,.si .i64 x.filter.tap,.si .i64 x.filter.power.kind,.si .i64 x.filter.power.n,.si .i64 x.filter.tough.kind,.si .i64 x.filter.tough.n,.si .i64 x.filter.value.kind,.si .i64 x.filter.value.n]
def zGAmount:GAmount:=GAmount.mk 0 0 0 zGFilter
structure GEffect where
 op:Int
 ref:GRef
 amount:GAmount
 counter:Int
 zone:Int
 card:ByteArray
 filter:GFilter
 pool:Arr6 Int
 mods:List GMod
def eGEffect (M:EncM) (x:GEffect):List PV:=[.si .i64 x.op,.si .i64 x.ref.kind,.si .i64 x.ref.n,.si .i64 x.ref.filter.zone,.si .i64 x.ref.filter.who,.si .i64 x.ref.filter.self,.si .i64 x.ref.filter.types,.si .i64 x.ref.filter.notTypes,.si .i64 x.ref.filter.colors,.si .i64 x.ref.filter.notColors,.str x.ref.filter.sub,.si .i64 x.ref.filter.keys,.si .i64 x.ref.filter.tap,.si .i64 x.ref.filter.power.kind,.si .i64 x.ref.filter.power.n,.si .i64 x.ref.filter.tough.kind,.si .i64 x.ref.filter.tough.n,.si .i64 x.ref.filter.value.kind,.si .i64 x.ref.filter.value.n,.si .i64 x.amount.kind,.si .i64 x.amount.n,.si .i64 x.amount.counter,.si .i64 x.amount.filter.zone,.si .i64 x.amount.filter.who,.si .i64 x.amount.filter.self,.si .i64 x.amount.filter.types,.si .i64 x.amount.filter.notTypes,.si .i64 x.amount.filter.colors,.si .i64 x.amount.filter.notColors,.str x.amount.filter.sub,.si .i64 x.amount.filter.keys,.si .i64 x.amount.filter.tap,.si .i64 x.amount.filter.power.kind,.si .i64 x.amount.filter.power.n,.si .i64 x.amount.filter.tough.kind,.si .i64 x.amount.filter.tough.n,.si .i64 x.amount.filter.value.kind,.si .i64 x.amount.filter.value.n,.si .i64 x.counter,.si .i64 x.zone,.str x.card,.si .i64 x.filter.zone,.si .i64 x.filter.who,.si .i64 x.filter.self,.si .i64 x.filter.types,.si .i64 x.filter.notTypes,.si .i64 x.filter.colors,.si .i64 x.filter.notColors,.str x.filter.sub,.si .i64 x.filter.keys,.si .i64 x.filter.tap,.si .i64 x.filter.power.kind,.si .i64 x.filter.power.n,.si .i64 x.filter.tough.kind,.si .i64 x.filter.tough.n,.si .i64 x.filter.value.kind,.si .i64 x.filter.value.n,.si .i64 x.pool.a0,.si .i64 x.pool.a1,.si .i64 x.pool.a2,.si .i64 x.pool.a3,.si .i64 x.pool.a4,.si .i64 x.pool.a5,.sl 20 (M.m GMod (eGMod M) x.mods) false]
def zGEffect:GEffect:=GEffect.mk 0 zGRef zGAmount 0 0 (bs []) zGFilter zArr6I ([])
structure GReplace where
 on:Int
 who:Int
 filter:GFilter
 doF:Int
 n:Int
 zone:Int
 counter:Int
def eGReplace (M:EncM) (x:GReplace):List PV:=[.si .i64 x.on,.si .i64 x.who,.si .i64 x.filter.zone,.si .i64 x.filter.who,.si .i64 x.filter.self,.si .i64 x.filter.types,.si .i64 x.filter.notTypes,.si .i64 x.filter.colors,.si .i64 x.filter.notColors,.str x.filter.sub,.si .i64 x.filter.keys,.si .i64 x.filter.tap,.si .i64 x.filter.power.kind,.si .i64 x.filter.power.n,.si .i64 x.filter.tough.kind,.si .i64 x.filter.tough.n,.si .i64 x.filter.value.kind,.si .i64 x.filter.value.n,.si .i64 x.doF,.si .i64 x.n,.si .i64 x.zone,.si .i64 x.counter]
def zGReplace:GReplace:=GReplace.mk 0 0 zGFilter 0 0 0 0
structure GAbility where
 kind:Int
 filter:GFilter
 mods:List GMod
 price:GPrice
 slow:Bool
 trigger:GTrigger
 may:Bool
 specs:List GSpec
 effects:List GEffect
 replace:GReplace
def eGAbility (M:EncM) (x:GAbility):List PV:=[.si .i64 x.kind,.si .i64 x.filter.zone,.si .i64 x.filter.who,.si .i64 x.filter.self,.si .i64 x.filter.types,.si .i64 x.filter.notTypes,.si .i64 x.filter.colors,.si .i64 x.filter.notColors,.str x.filter.sub,.si .i64 x.filter.keys,.si .i64 x.filter.tap,.si .i64 x.filter.power.kind,.si .i64 x.filter.power.n,.si .i64 x.filter.tough.kind,.si .i64 x.filter.tough.n,.si .i64 x.filter.value.kind,.si .i64 x.filter.value.n,.sl 20 (M.m GMod (eGMod M) x.mods) false,.si .i64 x.price.mana.generic,.si .i64 x.price.mana.x,.si .i64 x.price.mana.color.a0,.si .i64 x.price.mana.color.a1,.si .i64 x.price.mana.color.a2,.si .i64 x.price.mana.color.a3,.si .i64 x.price.mana.color.a4,.sb x.price.tap,.sb x.price.sacrifice,.si .i64 x.price.life,.sb x.slow,.si .i64 x.trigger.when,.si .i64 x.trigger.who,.si .i64 x.trigger.filter.zone,.si .i64 x.trigger.filter.who,.si .i64 x.trigger.filter.self,.si .i64 x.trigger.filter.types,.si .i64 x.trigger.filter.notTypes,.si .i64 x.trigger.filter.colors,.si .i64 x.trigger.filter.notColors,.str x.trigger.filter.sub,.si .i64 x.trigger.filter.keys,.si .i64 x.trigger.filter.tap,.si .i64 x.trigger.filter.power.kind,.si .i64 x.trigger.filter.power.n,.si .i64 x.trigger.filter.tough.kind,.si .i64 x.trigger.filter.tough.n,.si .i64 x.trigger.filter.value.kind,.si .i64 x.trigger.filter.value.n,.sb x.may,.sl 18 (M.m GSpec (eGSpec M) x.specs) false,.sl 64 (M.m GEffect (eGEffect M) x.effects) false,.si .i64 x.replace.on,.si .i64 x.replace.who,.si .i64 x.replace.filter.zone,.si .i64 x.replace.filter.who,.si .i64 x.replace.filter.self,.si .i64 x.replace.filter.types,.si .i64 x.replace.filter.notTypes,.si .i64 x.replace.filter.colors,.si .i64 x.replace.filter.notColors,.str x.replace.filter.sub,.si .i64 x.replace.filter.keys,.si .i64 x.replace.filter.tap,.si .i64 x.replace.filter.power.kind,.si .i64 x.replace.filter.power.n,.si .i64 x.replace.filter.tough.kind,.si .i64 x.replace.filter.tough.n,.si .i64 x.replace.filter.value.kind,.si .i64 x.replace.filter.value.n,.si .i64 x.replace.doF,.si .i64 x.replace.n,.si .i64 x.replace.zone,.si .i64 x.replace.counter]
def zGAbility:GAbility:=GAbility.mk 0 zGFilter ([]) zGPrice false zGTrigger false ([]) ([]) zGReplace
structure GTraits where
 name:ByteArray
 cost:GCost
 colors:Int
 line:GLine
 power:Int
 tough:Int
 keys:Int
 abilities:List GAbility
 control:Int
def eGTraits (M:EncM) (x:GTraits):List PV:=[.str x.name,.si .i64 x.cost.generic,.si .i64 x.cost.x,.si .i64 x.cost.color.a0,.si .i64 x.cost.color.a1,.si .i64 x.cost.color.a2,.si .i64 x.cost.color.a3,.si .i64 x.cost.color.a4,.si .i64 x.colors,.si .i64 x.line.super,.si .i64 x.line.types,.sl 1 (M.m ByteArray eS x.line.subs) false,.si .i64 x.power,.si .i64 x.tough,.si .i64 x.keys,.sl 72 (M.m GAbility (eGAbility M) x.abilities) false,.si .i64 x.control]
def zGTraits:GTraits:=GTraits.mk (bs []) zGCost 0 zGLine 0 0 0 ([]) 0
structure GObject where
 id:Int
 card:Int
 owner:Int
 control:Int
 zone:Int
 token:Bool
 tapped:Bool
 sick:Bool
 deadly:Bool
 damage:Int
 counters:Arr3 Int
 stamp:Int
 copy:Int
 attack:Int
 blocked:Bool
 blocks:Int
 shield:Int
def eGObject (M:EncM) (x:GObject):List PV:=[.si .i64 x.id,.si .i64 x.card,.si .i64 x.owner,.si .i64 x.control,.si .i64 x.zone,.sb x.token,.sb x.tapped,.sb x.sick,.sb x.deadly,.si .i64 x.damage,.si .i64 x.counters.a0,.si .i64 x.counters.a1,.si .i64 x.counters.a2,.si .i64 x.stamp,.si .i64 x.copy,.si .i64 x.attack,.sb x.blocked,.si .i64 x.blocks,.si .i64 x.shield]
def zGObject:GObject:=GObject.mk 0 0 0 0 0 false false false false 0 zArr3I 0 0 0 false 0 0
structure GLaw46Pair where
 b:GObject
 tB:GTraits
 a:GObject
 tA:GTraits
def eGLaw46Pair (M:EncM) (x:GLaw46Pair):List PV:=[.si .i64 x.b.id,.si .i64 x.b.card,.si .i64 x.b.owner,.si .i64 x.b.control,.si .i64 x.b.zone,.sb x.b.token,.sb x.b.tapped,.sb x.b.sick,.sb x.b.deadly,.si .i64 x.b.damage,.si .i64 x.b.counters.a0,.si .i64 x.b.counters.a1,.si .i64 x.b.counters.a2,.si .i64 x.b.stamp,.si .i64 x.b.copy,.si .i64 x.b.attack,.sb x.b.blocked,.si .i64 x.b.blocks,.si .i64 x.b.shield,.str x.tB.name,.si .i64 x.tB.cost.generic,.si .i64 x.tB.cost.x,.si .i64 x.tB.cost.color.a0,.si .i64 x.tB.cost.color.a1,.si .i64 x.tB.cost.color.a2,.si .i64 x.tB.cost.color.a3,.si .i64 x.tB.cost.color.a4,.si .i64 x.tB.colors,.si .i64 x.tB.line.super,.si .i64 x.tB.line.types,.sl 1 (M.m ByteArray eS x.tB.line.subs) false,.si .i64 x.tB.power,.si .i64 x.tB.tough,.si .i64 x.tB.keys,.sl 72 (M.m GAbility (eGAbility M) x.tB.abilities) false,.si .i64 x.tB.control,.si .i64 x.a.id,.si .i64 x.a.card,.si .i64 x.a.owner,.si .i64 x.a.control,.si .i64 x.a.zone,.sb x.a.token,.sb x.a.tapped,.sb x.a.sick,.sb x.a.deadly,.si .i64 x.a.damage,.si .i64 x.a.counters.a0,.si .i64 x.a.counters.a1,.si .i64 x.a.counters.a2,.si .i64 x.a.stamp,.si .i64 x.a.copy,.si .i64 x.a.attack,.sb x.a.blocked,.si .i64 x.a.blocks,.si .i64 x.a.shield,.str x.tA.name,.si .i64 x.tA.cost.generic,.si .i64 x.tA.cost.x,.si .i64 x.tA.cost.color.a0,.si .i64 x.tA.cost.color.a1,.si .i64 x.tA.cost.color.a2,.si .i64 x.tA.cost.color.a3,.si .i64 x.tA.cost.color.a4,.si .i64 x.tA.colors,.si .i64 x.tA.line.super,.si .i64 x.tA.line.types,.sl 1 (M.m ByteArray eS x.tA.line.subs) false,.si .i64 x.tA.power,.si .i64 x.tA.tough,.si .i64 x.tA.keys,.sl 72 (M.m GAbility (eGAbility M) x.tA.abilities) false,.si .i64 x.tA.control]
def zGLaw46Pair:GLaw46Pair:=GLaw46Pair.mk zGObject zGTraits zGObject zGTraits
structure GPlayer where
 life:Int
 venom:Int
 lands:Int
 pool:Arr6 Int
 failed:Bool
 lost:Bool
 library:List Int
 hand:List Int
 graveyard:List Int
def eGPlayer (M:EncM) (x:GPlayer):List PV:=[.si .i64 x.life,.si .i64 x.venom,.si .i64 x.lands,.si .i64 x.pool.a0,.si .i64 x.pool.a1,.si .i64 x.pool.a2,.si .i64 x.pool.a3,.si .i64 x.pool.a4,.si .i64 x.pool.a5,.sb x.failed,.sb x.lost,.sl 1 (M.m Int (eI .i64) x.library) false,.sl 1 (M.m Int (eI .i64) x.hand) false,.sl 1 (M.m Int (eI .i64) x.graveyard) false]
def zGPlayer:GPlayer:=GPlayer.mk 0 0 0 zArr6I false false ([]) ([]) ([])
structure GTarget where
 object:Int
 player:Int
def eGTarget (M:EncM) (x:GTarget):List PV:=[.si .i64 x.object,.si .i64 x.player]
def zGTarget:GTarget:=GTarget.mk 0 0
structure GEvent where
 kind:Int
 source:Int
 object:Int
 player:Int
 amount:Int
 fromF:Int
 to:Int
 cause:Int
 counter:Int
 card:Int
 combat:Bool
 tapped:Bool
 extra:Arr3 Int
def eGEvent (M:EncM) (x:GEvent):List PV:=[.si .i64 x.kind,.si .i64 x.source,.si .i64 x.object,.si .i64 x.player,.si .i64 x.amount,.si .i64 x.fromF,.si .i64 x.to,.si .i64 x.cause,.si .i64 x.counter,.si .i64 x.card,.sb x.combat,.sb x.tapped,.si .i64 x.extra.a0,.si .i64 x.extra.a1,.si .i64 x.extra.a2]
def zGEvent:GEvent:=GEvent.mk 0 0 0 0 0 0 0 0 0 0 false false zArr3I
structure GItem where
 id:Int
 kind:Int
 source:Int
 control:Int
 x:Int
 copy:Bool
 ability:GAbility
 targets:List GTarget
 event:GEvent
def eGItem (M:EncM) (x:GItem):List PV:=[.si .i64 x.id,.si .i64 x.kind,.si .i64 x.source,.si .i64 x.control,.si .i64 x.x,.sb x.copy,.si .i64 x.ability.kind,.si .i64 x.ability.filter.zone,.si .i64 x.ability.filter.who,.si .i64 x.ability.filter.self,.si .i64 x.ability.filter.types,.si .i64 x.ability.filter.notTypes,.si .i64 x.ability.filter.colors,.si .i64 x.ability.filter.notColors,.str x.ability.filter.sub,.si .i64 x.ability.filter.keys,.si .i64 x.ability.filter.tap,.si .i64 x.ability.filter.power.kind,.si .i64 x.ability.filter.power.n,.si .i64 x.ability.filter.tough.kind,.si .i64 x.ability.filter.tough.n,.si .i64 x.ability.filter.value.kind,.si .i64 x.ability.filter.value.n,.sl 20 (M.m GMod (eGMod M) x.ability.mods) false,.si .i64 x.ability.price.mana.generic,.si .i64 x.ability.price.mana.x,.si .i64 x.ability.price.mana.color.a0,.si .i64 x.ability.price.mana.color.a1,.si .i64 x.ability.price.mana.color.a2,.si .i64 x.ability.price.mana.color.a3,.si .i64 x.ability.price.mana.color.a4,.sb x.ability.price.tap,.sb x.ability.price.sacrifice,.si .i64 x.ability.price.life,.sb x.ability.slow,.si .i64 x.ability.trigger.when,.si .i64 x.ability.trigger.who,.si .i64 x.ability.trigger.filter.zone,.si .i64 x.ability.trigger.filter.who,.si .i64 x.ability.trigger.filter.self,.si .i64 x.ability.trigger.filter.types,.si .i64 x.ability.trigger.filter.notTypes,.si .i64 x.ability.trigger.filter.colors,.si .i64 x.ability.trigger.filter.notColors,.str x.ability.trigger.filter.sub,.si .i64 x.ability.trigger.filter.keys,.si .i64 x.ability.trigger.filter.tap,.si .i64 x.ability.trigger.filter.power.kind,.si .i64 x.ability.trigger.filter.power.n,.si .i64 x.ability.trigger.filter.tough.kind,.si .i64 x.ability.trigger.filter.tough.n,.si .i64 x.ability.trigger.filter.value.kind,.si .i64 x.ability.trigger.filter.value.n,.sb x.ability.may,.sl 18 (M.m GSpec (eGSpec M) x.ability.specs) false,.sl 64 (M.m GEffect (eGEffect M) x.ability.effects) false,.si .i64 x.ability.replace.on,.si .i64 x.ability.replace.who,.si .i64 x.ability.replace.filter.zone,.si .i64 x.ability.replace.filter.who,.si .i64 x.ability.replace.filter.self,.si .i64 x.ability.replace.filter.types,.si .i64 x.ability.replace.filter.notTypes,.si .i64 x.ability.replace.filter.colors,.si .i64 x.ability.replace.filter.notColors,.str x.ability.replace.filter.sub,.si .i64 x.ability.replace.filter.keys,.si .i64 x.ability.replace.filter.tap,.si .i64 x.ability.replace.filter.power.kind,.si .i64 x.ability.replace.filter.power.n,.si .i64 x.ability.replace.filter.tough.kind,.si .i64 x.ability.replace.filter.tough.n,.si .i64 x.ability.replace.filter.value.kind,.si .i64 x.ability.replace.filter.value.n,.si .i64 x.ability.replace.doF,.si .i64 x.ability.replace.n,.si .i64 x.ability.replace.zone,.si .i64 x.ability.replace.counter,.sl 2 (M.m GTarget (eGTarget M) x.targets) false,.si .i64 x.event.kind,.si .i64 x.event.source,.si .i64 x.event.object,.si .i64 x.event.player,.si .i64 x.event.amount,.si .i64 x.event.fromF,.si .i64 x.event.to,.si .i64 x.event.cause,.si .i64 x.event.counter,.si .i64 x.event.card,.sb x.event.combat,.sb x.event.tapped,.si .i64 x.event.extra.a0,.si .i64 x.event.extra.a1,.si .i64 x.event.extra.a2]
def zGItem:GItem:=GItem.mk 0 0 0 0 0 false zGAbility ([]) zGEvent
structure GWaiting where
 source:Int
 control:Int
 ability:GAbility
 event:GEvent
def eGWaiting (M:EncM) (x:GWaiting):List PV:=[.si .i64 x.source,.si .i64 x.control,.si .i64 x.ability.kind,.si .i64 x.ability.filter.zone,.si .i64 x.ability.filter.who,.si .i64 x.ability.filter.self,.si .i64 x.ability.filter.types,.si .i64 x.ability.filter.notTypes,.si .i64 x.ability.filter.colors,.si .i64 x.ability.filter.notColors,.str x.ability.filter.sub,.si .i64 x.ability.filter.keys,.si .i64 x.ability.filter.tap,.si .i64 x.ability.filter.power.kind,.si .i64 x.ability.filter.power.n,.si .i64 x.ability.filter.tough.kind,.si .i64 x.ability.filter.tough.n,.si .i64 x.ability.filter.value.kind,.si .i64 x.ability.filter.value.n,.sl 20 (M.m GMod (eGMod M) x.ability.mods) false,.si .i64 x.ability.price.mana.generic,.si .i64 x.ability.price.mana.x,.si .i64 x.ability.price.mana.color.a0,.si .i64 x.ability.price.mana.color.a1,.si .i64 x.ability.price.mana.color.a2,.si .i64 x.ability.price.mana.color.a3,.si .i64 x.ability.price.mana.color.a4,.sb x.ability.price.tap,.sb x.ability.price.sacrifice,.si .i64 x.ability.price.life,.sb x.ability.slow,.si .i64 x.ability.trigger.when,.si .i64 x.ability.trigger.who,.si .i64 x.ability.trigger.filter.zone,.si .i64 x.ability.trigger.filter.who,.si .i64 x.ability.trigger.filter.self,.si .i64 x.ability.trigger.filter.types,.si .i64 x.ability.trigger.filter.notTypes,.si .i64 x.ability.trigger.filter.colors,.si .i64 x.ability.trigger.filter.notColors,.str x.ability.trigger.filter.sub,.si .i64 x.ability.trigger.filter.keys,.si .i64 x.ability.trigger.filter.tap,.si .i64 x.ability.trigger.filter.power.kind,.si .i64 x.ability.trigger.filter.power.n,.si .i64 x.ability.trigger.filter.tough.kind,.si .i64 x.ability.trigger.filter.tough.n,.si .i64 x.ability.trigger.filter.value.kind,.si .i64 x.ability.trigger.filter.value.n,.sb x.ability.may,.sl 18 (M.m GSpec (eGSpec M) x.ability.specs) false,.sl 64 (M.m GEffect (eGEffect M) x.ability.effects) false,.si .i64 x.ability.replace.on,.si .i64 x.ability.replace.who,.si .i64 x.ability.replace.filter.zone,.si .i64 x.ability.replace.filter.who,.si .i64 x.ability.replace.filter.self,.si .i64 x.ability.replace.filter.types,.si .i64 x.ability.replace.filter.notTypes,.si .i64 x.ability.replace.filter.colors,.si .i64 x.ability.replace.filter.notColors,.str x.ability.replace.filter.sub,.si .i64 x.ability.replace.filter.keys,.si .i64 x.ability.replace.filter.tap,.si .i64 x.ability.replace.filter.power.kind,.si .i64 x.ability.replace.filter.power.n,.si .i64 x.ability.replace.filter.tough.kind,.si .i64 x.ability.replace.filter.tough.n,.si .i64 x.ability.replace.filter.value.kind,.si .i64 x.ability.replace.filter.value.n,.si .i64 x.ability.replace.doF,.si .i64 x.ability.replace.n,.si .i64 x.ability.replace.zone,.si .i64 x.ability.replace.counter,.si .i64 x.event.kind,.si .i64 x.event.source,.si .i64 x.event.object,.si .i64 x.event.player,.si .i64 x.event.amount,.si .i64 x.event.fromF,.si .i64 x.event.to,.si .i64 x.event.cause,.si .i64 x.event.counter,.si .i64 x.event.card,.sb x.event.combat,.sb x.event.tapped,.si .i64 x.event.extra.a0,.si .i64 x.event.extra.a1,.si .i64 x.event.extra.a2]
def zGWaiting:GWaiting:=GWaiting.mk 0 0 zGAbility zGEvent
structure GCont where
 stamp:Int
 control:Int
 source:Int
 untilF:Int
 objects:List Int
 mods:List GMod
def eGCont (M:EncM) (x:GCont):List PV:=[.si .i64 x.stamp,.si .i64 x.control,.si .i64 x.source,.si .i64 x.untilF,.sl 1 (M.m Int (eI .i64) x.objects) false,.sl 20 (M.m GMod (eGMod M) x.mods) false]
def zGCont:GCont:=GCont.mk 0 0 0 0 ([]) ([])
structure GState where
 players:List GPlayer
 objects:List GObject
 battlefield:List Int
 exile:List Int
 stack:List GItem
 waiting:List GWaiting
 conts:List GCont
 turn:Int
 active:Int
 step:Int
 begun:Bool
 priority:Int
 passes:Int
 nextId:Int
 nextStamp:Int
 seed:Int
 extra:List Int
 over:Int
 winner:Int
def eGState (M:EncM) (x:GState):List PV:=[.sl 14 (M.m GPlayer (eGPlayer M) x.players) false,.sl 19 (M.m GObject (eGObject M) x.objects) false,.sl 1 (M.m Int (eI .i64) x.battlefield) false,.sl 1 (M.m Int (eI .i64) x.exile) false,.sl 94 (M.m GItem (eGItem M) x.stack) false,.sl 89 (M.m GWaiting (eGWaiting M) x.waiting) false,.sl 6 (M.m GCont (eGCont M) x.conts) false,.si .i64 x.turn,.si .i64 x.active,.si .i64 x.step,.sb x.begun,.si .i64 x.priority,.si .i64 x.passes,.si .i64 x.nextId,.si .i64 x.nextStamp,.si .u64 x.seed,.sl 1 (M.m Int (eI .i64) x.extra) false,.si .i64 x.over,.si .i64 x.winner]
def zGState:GState:=GState.mk ([]) ([]) ([]) ([]) ([]) ([]) ([]) 0 0 0 false 0 0 0 0 0 ([]) 0 0
def law46_alive:Option Bool:=some true
def keyword_Has (mask:Int) (key:Int):Option Bool :=
 some (decide ((stdBin .and .i64 mask key)=key))
def block_Can_1 (t:GTraits) (key:Int):Option Bool :=
 bnd (keyword_Has t.keys key) fun y1 =>
 some y1
def block_Can (b:GObject) (tb:GTraits) (a:GObject) (ta:GTraits):Option Bool :=
 jn (fun s1:Bool =>
 br s1 (some false)
 (bnd (block_Can_1 ta 1) fun y6 =>
 br (y6 == false) (some true)
 (bnd (block_Can_1 tb 1) fun y7 =>
 br y7 (some true)
 (bnd (block_Can_1 tb 2) fun y8 =>
 some y8)))) fun k2 =>
 br (decide ((stdBin .and .i64 tb.line.types 1)=0)) (k2 true)
 (br b.tapped (k2 true)
 (bnd (block_Can_1 tb 32768) fun y4 =>
 br y4 (k2 true)
 (bnd (block_Can_1 ta 8192) fun y5 =>
 k2 y5)))
def r46_has (mask:Int) (bit:Int):Option Bool :=
 bnd (divO .quo .i64 mask bit) fun x1 =>
 bnd (divO .rem .i64 x1 2) fun x2 =>
 some (decide (x2=1))
def r46_Can (b:GObject) (tb:GTraits) (a:GObject) (ta:GTraits):Option Bool :=
 jn (fun s1:Bool =>
 br s1 (some false)
 (bnd (r46_has ta.keys 1) fun y7 =>
 br (y7 == false) (some true)
 (bnd (r46_has tb.keys 1) fun y8 =>
 br y8 (some true)
 (bnd (r46_has tb.keys 2) fun y9 =>
 some y9)))) fun k2 =>
 bnd (r46_has tb.line.types 1) fun y4 =>
 br (y4 == false) (k2 true)
 (br b.tapped (k2 true)
 (bnd (r46_has tb.keys 32768) fun y5 =>
 br y5 (k2 true)
 (bnd (r46_has ta.keys 8192) fun y6 =>
 k2 y6)))
def law46_BlockCan (p:GLaw46Pair):Option Bool :=
 jn (fun s1:Bool =>
 br s1 (bnd (law46_alive) fun y4 =>
 some y4)
 (bnd (law46_alive) fun y5 =>
 br y5 (bnd (block_Can p.b p.tB p.a p.tA) fun y6 =>
 bnd (r46_Can p.b p.tB p.a p.tA) fun y7 =>
 some (y6 == y7))
 (some false))) fun k2 =>
 br (decide (p.tB.line.types<0)) (k2 true)
 (br (decide (p.tB.keys<0)) (k2 true)
 (k2 (decide (p.tA.keys<0))))
def law47_alive:Option Bool:=some true
def combat_Legal_1_z0 (x:Int) (c1:Int):Option (Bool × Int) :=
 br (decide (x<0)) (some (false,c1))
 (br (decide (c1<x)) (some (false,c1))
 (some (true,(subI c1 x))))
def combat_Legal_l1 (need:List Int) (l:List Int) (s4:Bool × Int × Int) (k5:(Bool × Int × Int)→Option Bool):Option Bool :=
 br (decide (s4.2.1<(lenI l))) (jn (fun s7:Bool × Int =>
 k5 (s7.1,(addI s4.2.1 1),s7.2)) fun k8 =>
 bnd (ixL l s4.2.1) fun x10 =>
 jn (fun s11:Bool × Int =>
 br s11.1 (some false)
 (jn (fun s15:Bool =>
 br s15 (k8 (false,s11.2))
 (k8 (s4.1,s11.2))) fun k16 =>
 br (decide (s4.2.1<(lenI need))) (bnd (ixL need s4.2.1) fun x18 =>
 k16 (decide (x10<x18)))
 (k16 false))) fun k12 =>
 bnd (combat_Legal_1_z0 x10 s4.2.2) fun y14 =>
 br (y14.1 == false) (k12 (true,y14.2))
 (br (decide (0<x10)) (k12 ((s4.1 == false),y14.2))
 (k12 (false,y14.2))))
 (some (decide (s4.2.2=0)))
def combat_Legal (need:List Int) (l:List Int) (sum:Int) (trample:Bool):Option Bool :=
 jn (fun s1:Int =>
 br (!decide ((lenI l)=s1)) (some false)
 (loopF (combat_Legal_l1 need l) (true,0,sum))) fun k2 =>
 br trample (k2 (addI (lenI need) 1))
 (k2 (lenI need))
def r47_Legal_l1 (need:List Int) (l:List Int) (s4:Int × Bool × Int) (k5:(Int × Bool × Int)→Option Bool):Option Bool :=
 br (decide (s4.2.2<(lenI l))) (jn (fun s7:Int × Bool =>
 k5 (s7.1,s7.2,(addI s4.2.2 1))) fun k8 =>
 jn (fun s10:Bool =>
 br s10 (some false)
 (bnd (ixL l s4.2.2) fun x16 =>
 jn (fun s17:Bool =>
 br s17 (k8 ((subI s4.1 x16),false))
 (k8 ((subI s4.1 x16),s4.2.1))) fun k18 =>
 br (decide (s4.2.2<(lenI need))) (bnd (ixL l s4.2.2) fun x20 =>
 bnd (ixL need s4.2.2) fun x21 =>
 k18 (decide (x20<x21)))
 (k18 false))) fun k11 =>
 bnd (ixL l s4.2.2) fun x13 =>
 br (decide (x13<0)) (k11 true)
 (bnd (ixL l s4.2.2) fun x14 =>
 br (decide (s4.1<x14)) (k11 true)
 (bnd (ixL l s4.2.2) fun x15 =>
 br (decide (0<x15)) (k11 (s4.2.1 == false))
 (k11 false))))
 (some (decide (s4.1=0)))
def r47_Legal (need:List Int) (l:List Int) (sum:Int) (trample:Bool):Option Bool :=
 jn (fun s1:Int =>
 br (!decide ((lenI l)=s1)) (some false)
 (loopF (r47_Legal_l1 need l) (sum,true,0))) fun k2 =>
 br trample (k2 (addI (lenI need) 1))
 (k2 (lenI need))
def law47_CombatLegal (need:List Int) (l:List Int) (sum:Int):Option Bool :=
 jn (fun s1:Bool =>
 br s1 (bnd (law47_alive) fun y4 =>
 some y4)
 (bnd (combat_Legal need l sum true) fun y5 =>
 bnd (r47_Legal need l sum true) fun y6 =>
 br (y5 == y6) (bnd (combat_Legal need l sum false) fun y7 =>
 bnd (r47_Legal need l sum false) fun y8 =>
 br (y7 == y8) (bnd (law47_alive) fun y9 =>
 some y9)
 (some false))
 (some false))) fun k2 =>
 br (decide (300<(lenI need))) (k2 true)
 (k2 (decide (300<(lenI l))))
def r17_Light_l1 (pe:GEffect) (s4:Int) (k5:Int→Option Bool):Option Bool :=
 br (decide (s4<(lenI pe.mods))) (jn (fun s7:Bool =>
 br s7 (some false)
 (k5 (addI s4 1))) fun k8 =>
 bnd (ixL pe.mods s4) fun x10 =>
 br (decide (100<(x10.sub.size:Int))) (k8 true)
 (bnd (ixL pe.mods s4) fun x11 =>
 k8 (decide (100<(x11.filter.sub.size:Int)))))
 (some true)
def r17_Light (pe:GEffect):Option Bool :=
 jn (fun s1:Bool =>
 br s1 (some false)
 (loopF (r17_Light_l1 pe) 0)) fun k2 =>
 br (decide (100<(pe.card.size:Int))) (k2 true)
 (br (decide (100<(pe.ref.filter.sub.size:Int))) (k2 true)
 (br (decide (100<(pe.amount.filter.sub.size:Int))) (k2 true)
 (br (decide (100<(pe.filter.sub.size:Int))) (k2 true)
 (k2 (decide (20<(lenI pe.mods)))))))
def r17_LightList_l1 (l:List GEffect) (s1:Int) (k2:Int→Option Bool):Option Bool :=
 br (decide (s1<(lenI l))) (bnd (ixL l s1) fun x4 =>
 bnd (r17_Light x4) fun y5 =>
 br (y5 == false) (some false)
 (k2 (addI s1 1)))
 (some (decide ((lenI l)≤20)))
def r17_LightList (l:List GEffect):Option Bool :=
 loopF (r17_LightList_l1 l) 0
def r20_Light_l1 (a:GAbility) (s13:Int) (k14:Int→Option Bool):Option Bool :=
 br (decide (s13<(lenI a.specs))) (bnd (ixL a.specs s13) fun x16 =>
 br (decide (100<(x16.filter.sub.size:Int))) (some false)
 (k14 (addI s13 1)))
 (some true)
def r20_Light_l2 (a:GAbility) (s5:Int) (k6:Int→Option Bool):Option Bool :=
 br (decide (s5<(lenI a.mods))) (jn (fun s8:Bool =>
 br s8 (some false)
 (k6 (addI s5 1))) fun k9 =>
 bnd (ixL a.mods s5) fun x11 =>
 br (decide (100<(x11.sub.size:Int))) (k9 true)
 (bnd (ixL a.mods s5) fun x12 =>
 k9 (decide (100<(x12.filter.sub.size:Int)))))
 (loopF (r20_Light_l1 a) 0)
def r20_Light (a:GAbility):Option Bool :=
 jn (fun s1:Bool =>
 br s1 (some false)
 (loopF (r20_Light_l2 a) 0)) fun k2 =>
 br (decide (100<(a.filter.sub.size:Int))) (k2 true)
 (br (decide (20<(lenI a.mods))) (k2 true)
 (br (decide (100<(a.trigger.filter.sub.size:Int))) (k2 true)
 (br (decide (20<(lenI a.specs))) (k2 true)
 (br (decide (100<(a.replace.filter.sub.size:Int))) (k2 true)
 (bnd (r17_LightList a.effects) fun y4 =>
 k2 (y4 == false))))))
def r26_Small_l1 (s:GState) (s30:Int) (k31:Int→Option Bool):Option Bool :=
 br (decide (s30<(lenI s.conts))) (jn (fun s33:Bool =>
 br s33 (some false)
 (k31 (addI s30 1))) fun k34 =>
 bnd (ixL s.conts s30) fun x36 =>
 br (decide (300<(lenI x36.objects))) (k34 true)
 (bnd (ixL s.conts s30) fun x37 =>
 bnd (r20_Light (GAbility.mk 0 zGFilter x37.mods zGPrice false zGTrigger false ([]) ([]) zGReplace)) fun y38 =>
 k34 (y38 == false)))
 (some true)
def r26_Small_l2 (s:GState) (s25:Int) (k26:Int→Option Bool):Option Bool :=
 br (decide (s25<(lenI s.waiting))) (bnd (ixL s.waiting s25) fun x28 =>
 bnd (r20_Light x28.ability) fun y29 =>
 br (y29 == false) (some false)
 (k26 (addI s25 1)))
 (loopF (r26_Small_l1 s) 0)
def r26_Small_l3 (s:GState) (s16:Int) (k17:Int→Option Bool):Option Bool :=
 br (decide (s16<(lenI s.stack))) (jn (fun s19:Bool =>
 br s19 (some false)
 (k17 (addI s16 1))) fun k20 =>
 bnd (ixL s.stack s16) fun x22 =>
 br (decide (20<(lenI x22.targets))) (k20 true)
 (bnd (ixL s.stack s16) fun x23 =>
 bnd (r20_Light x23.ability) fun y24 =>
 k20 (y24 == false)))
 (loopF (r26_Small_l2 s) 0)
def r26_Small_l4 (s:GState) (s3:Int × Int) (k4:(Int × Int)→Option Bool):Option Bool :=
 jn (fun s6:Bool =>
 br s6 (bnd (ixL s.players s3.2) fun x9 =>
 bnd (ixL s.players s3.2) fun x10 =>
 bnd (ixL s.players s3.2) fun x11 =>
 lt (addI (addI (addI s3.1 (lenI x9.library)) (lenI x10.hand)) (lenI x11.graveyard)) fun v12 =>
 k4 (v12,(addI s3.2 1)))
 (jn (fun s13:Bool =>
 br s13 (some false)
 (loopF (r26_Small_l3 s) 0)) fun k14 =>
 br (decide (300<s3.1)) (k14 true)
 (k14 (decide (10<(lenI s.players)))))) fun k7 =>
 br (decide (s3.2<(lenI s.players))) (k7 (decide (s3.2<10)))
 (k7 false)
def r26_Small (s:GState):Option Bool :=
 lt (addI (addI (lenI s.objects) (lenI s.battlefield)) (lenI s.exile)) fun v1 =>
 lt (addI (addI (addI v1 (lenI s.extra)) (mulI 8 (lenI s.stack))) (mulI 8 (lenI s.waiting))) fun v2 =>
 loopF (r26_Small_l4 s) ((addI v2 (mulI 4 (lenI s.conts))),0)
def num_Clamp (n:Int):Option Int :=
 some (if 1000000<(if n<(-1000000) then (-1000000) else n) then 1000000 else (if n<(-1000000) then (-1000000) else n))
def num_Sub (a:Int) (b:Int):Option Int :=
 bnd (num_Clamp a) fun y1 =>
 bnd (num_Clamp b) fun y2 =>
 bnd (num_Clamp (subI y1 y2)) fun y3 =>
 some y3
def combat_Lethal (o:GObject) (t:GTraits) (deadly:Bool):Option Int :=
 br deadly (some 1)
 (bnd (num_Sub t.tough o.damage) fun y1 =>
 some (if 1<y1 then y1 else 1))
def r01_Clamp (n:Int):Option Int :=
 br (decide (1000000<n)) (some 1000000)
 (br (decide (n<(-1000000))) (some (-1000000))
 (some n))
def r01_Sub (a:Int) (b:Int):Option Int :=
 bnd (r01_Clamp a) fun y1 =>
 bnd (r01_Clamp b) fun y2 =>
 bnd (r01_Clamp (subI y1 y2)) fun y3 =>
 some y3
def r47_Lethal (o:GObject) (t:GTraits) (deadly:Bool):Option Int :=
 br deadly (some 1)
 (bnd (r01_Sub t.tough o.damage) fun y1 =>
 some (if 1<y1 then y1 else 1))
def r03_Same_l1 (a:List Int) (b:List Int) (s1:Int) (k2:Int→Option Bool):Option Bool :=
 br (decide (s1<(lenI a))) (bnd (ixL a s1) fun x4 =>
 bnd (ixL b s1) fun x5 =>
 br (!decide (x4=x5)) (some false)
 (k2 (addI s1 1)))
 (some true)
def r03_Same (a:List Int) (b:List Int):Option Bool :=
 br (!decide ((lenI a)=(lenI b))) (some false)
 (loopF (r03_Same_l1 a b) 0)
def combat_Blockers_l1 (s:GState) (a:Int) (s1:Int × (List Int)) (k2:(Int × (List Int))→Option (List Int)):Option (List Int) :=
 br (decide (s1.1<(lenI s.objects))) (jn (fun s4:(List Int) =>
 k2 ((addI s1.1 1),s4)) fun k5 =>
 bnd (ixL s.objects s1.1) fun x7 =>
 jn (fun s8:Bool =>
 br s8 (roomO (s1.2.length+([x7.id]).length) 8 (
 k5 (s1.2 ++ [x7.id])))
 (k5 s1.2)) fun k9 =>
 br (decide (x7.zone=0)) (k9 (decide (x7.blocks=a)))
 (k9 false))
 (some s1.2)
def combat_Blockers (s:GState) (a:Int):Option (List Int) :=
 loopF (combat_Blockers_l1 s a) (0,[])
def r47_Blockers_l1 (s:GState) (a:Int) (s1:Int × (List Int)) (k2:(Int × (List Int))→Option (List Int)):Option (List Int) :=
 br (decide (s1.1<(lenI s.objects))) (jn (fun s4:(List Int) =>
 k2 ((addI s1.1 1),s4)) fun k5 =>
 jn (fun s7:Bool =>
 br s7 (bnd (ixL s.objects s1.1) fun x12 =>
 roomO (s1.2.length+([x12.id]).length) 8 (
 k5 (s1.2 ++ [x12.id])))
 (k5 s1.2)) fun k8 =>
 bnd (ixL s.objects s1.1) fun x10 =>
 br (decide (x10.zone=0)) (bnd (ixL s.objects s1.1) fun x11 =>
 k8 (decide (x11.blocks=a)))
 (k8 false))
 (some s1.2)
def r47_Blockers (s:GState) (a:Int):Option (List Int) :=
 loopF (r47_Blockers_l1 s a) (0,[])
def law47_CombatLethal_l1 (s:GState) (t:GTraits) (n:Int) (s3:Int) (k4:Int→Option Bool):Option Bool :=
 br (decide (s3<(lenI s.objects))) (bnd (ixL s.objects s3) fun x6 =>
 jn (fun s7:Bool =>
 br s7 (some false)
 (bnd (combat_Blockers s x6.id) fun y13 =>
 bnd (r47_Blockers s x6.id) fun y14 =>
 bnd (r03_Same y13 y14) fun y15 =>
 br (y15 == false) (some false)
 (k4 (addI s3 1)))) fun k8 =>
 bnd (combat_Lethal x6 t true) fun y10 =>
 br (!decide (y10=1)) (k8 true)
 (bnd (combat_Lethal x6 t false) fun y11 =>
 bnd (r47_Lethal x6 t false) fun y12 =>
 k8 (!decide (y11=y12))))
 (bnd (combat_Blockers s n) fun y16 =>
 bnd (r47_Blockers s n) fun y17 =>
 bnd (r03_Same y16 y17) fun y18 =>
 br y18 (bnd (law47_alive) fun y19 =>
 some y19)
 (some false))
def law47_CombatLethal (s:GState) (t:GTraits) (n:Int):Option Bool :=
 bnd (r26_Small s) fun y1 =>
 br (y1 == false) (bnd (law47_alive) fun y2 =>
 some y2)
 (loopF (law47_CombatLethal_l1 s t n) 0)
theorem d_st {p:Prop} (h:p:=by (try simp only [eGCost,eGLine,eGBound,eGFilter,eGMod,eGPrice,eGTrigger,eGSpec,eGRef,eGAmount,eGEffect,eGReplace,eGAbility,eGTraits,eGObject,eGLaw46Pair,eGPlayer,eGTarget,eGEvent,eGItem,eGWaiting,eGCont,eGState,zGCost,zGLine,zGBound,zGFilter,zGMod,zGPrice,zGTrigger,zGSpec,zGRef,zGAmount,zGEffect,zGReplace,zGAbility,zGTraits,zGObject,zGLaw46Pair,zGPlayer,zGTarget,zGEvent,zGItem,zGWaiting,zGCont,zGState,zArr2I,zArr3I,zArr5I,zArr6I,q]); repeat' constructor):p:=h
theorem d_le {u v:List PV} (e:u=v:=by simp only [q]; try first | rfl | (simp only [eGCost,eGLine,eGBound,eGFilter,eGMod,eGPrice,eGTrigger,eGSpec,eGRef,eGAmount,eGEffect,eGReplace,eGAbility,eGTraits,eGObject,eGLaw46Pair,eGPlayer,eGTarget,eGEvent,eGItem,eGWaiting,eGCont,eGState,q]; done) | simp [stdCmp,eI,eB,eL,eS,q]):LeL u v:=le_eq e
end Go.Proofs.YtlacmdnhabblcaaGreat
