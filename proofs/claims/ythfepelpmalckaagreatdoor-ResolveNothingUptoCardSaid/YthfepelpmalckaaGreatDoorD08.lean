import Derived.Test.YthfepelpmalckaaGreatDoorD07
set_option linter.all false
namespace Go.Proofs.YthfepelpmalckaaGreatDoor
open Go Go.Pv
set_option maxRecDepth 100000
set_option maxHeartbeats 2000000
structure GBound where
 kind:Int
 n:Int
def eGBound (M:EncM) (x:GBound):List PV:=[.si .i64 x.kind,.si .i64 x.n]
def zGBound:GBound:=GBound.mk 0 0
structure GFilter where
 zone:Int
 who:Int
 self:Int
 types:Int
 notTypes:Int
 colors:Int
 notColors:Int
 sub:ByteArray
 keys:Int
 tap:Int
 power:GBound
 tough:GBound
 value:GBound
def eGFilter (M:EncM) (x:GFilter):List PV:=[.si .i64 x.zone,.si .i64 x.who,.si .i64 x.self,.si .i64 x.types,.si .i64 x.notTypes,.si .i64 x.colors,.si .i64 x.notColors,.str x.sub,.si .i64 x.keys,.si .i64 x.tap,.si .i64 x.power.kind,.si .i64 x.power.n,.si .i64 x.tough.kind,.si .i64 x.tough.n,.si .i64 x.value.kind,.si .i64 x.value.n]
def zGFilter:GFilter:=GFilter.mk 0 0 0 0 0 0 0 (bs []) 0 0 zGBound zGBound zGBound
structure GMod where
 kind:Int
 n:Int
 m:Int
 sub:ByteArray
 filter:GFilter
def eGMod (M:EncM) (x:GMod):List PV:=[.si .i64 x.kind,.si .i64 x.n,.si .i64 x.m,.str x.sub,.si .i64 x.filter.zone,.si .i64 x.filter.who,.si .i64 x.filter.self,.si .i64 x.filter.types,.si .i64 x.filter.notTypes,.si .i64 x.filter.colors,.si .i64 x.filter.notColors,.str x.filter.sub,.si .i64 x.filter.keys,.si .i64 x.filter.tap,.si .i64 x.filter.power.kind,.si .i64 x.filter.power.n,.si .i64 x.filter.tough.kind,.si .i64 x.filter.tough.n,.si .i64 x.filter.value.kind,.si .i64 x.filter.value.n]
def zGMod:GMod:=GMod.mk 0 0 0 (bs []) zGFilter
structure GRef where
 kind:Int
 n:Int
 filter:GFilter
def eGRef (M:EncM) (x:GRef):List PV:=[.si .i64 x.kind,.si .i64 x.n,.si .i64 x.filter.zone,.si .i64 x.filter.who,.si .i64 x.filter.self,.si .i64 x.filter.types,.si .i64 x.filter.notTypes,.si .i64 x.filter.colors,.si .i64 x.filter.notColors,.str x.filter.sub,.si .i64 x.filter.keys,.si .i64 x.filter.tap,.si .i64 x.filter.power.kind,.si .i64 x.filter.power.n,.si .i64 x.filter.tough.kind,.si .i64 x.filter.tough.n,.si .i64 x.filter.value.kind,.si .i64 x.filter.value.n]
def zGRef:GRef:=GRef.mk 0 0 zGFilter
structure GAmount where
 kind:Int
 n:Int
 counter:Int
 filter:GFilter
def eGAmount (M:EncM) (x:GAmount):List PV:=[.si .i64 x.kind,.si .i64 x.n,.si .i64 x.counter,.si .i64 x.filter.zone,.si .i64 x.filter.who,.si .i64 x.filter.self,.si .i64 x.filter.types,.si .i64 x.filter.notTypes,.si .i64 x.filter.colors,.si .i64 x.filter.notColors,.str x.filter.sub,.si .i64 x.filter.keys,.si .i64 x.filter.tap,.si .i64 x.filter.power.kind,.si .i64 x.filter.power.n,.si .i64 x.filter.tough.kind,.si .i64 x.filter.tough.n,.si .i64 x.filter.value.kind,.si .i64 x.filter.value.n]
def zGAmount:GAmount:=GAmount.mk 0 0 0 zGFilter
structure GEffect where
 op:Int
 ref:GRef
 amount:GAmount
 counter:Int
 zone:Int
 card:ByteArray
 filter:GFilter
 pool:Arr6 Int
 mods:List GMod
def eGEffect (M:EncM) (x:GEffect):List PV:=[.si .i64 x.op,.si .i64 x.ref.kind,.si .i64 x.ref.n,.si .i64 x.ref.filter.zone,.si .i64 x.ref.filter.who,.si .i64 x.ref.filter.self,.si .i64 x.ref.filter.types,.si .i64 x.ref.filter.notTypes,.si .i64 x.ref.filter.colors,.si .i64 x.ref.filter.notColors,.str x.ref.filter.sub,.si .i64 x.ref.filter.keys,.si .i64 x.ref.filter.tap,.si .i64 x.ref.filter.power.kind,.si .i64 x.ref.filter.power.n,.si .i64 x.ref.filter.tough.kind,.si .i64 x.ref.filter.tough.n,.si .i64 x.ref.filter.value.kind,.si .i64 x.ref.filter.value.n,.si .i64 x.amount.kind,.si .i64 x.amount.n,.si .i64 x.amount.counter,.si .i64 x.amount.filter.zone,.si .i64 x.amount.filter.who,.si .i64 x.amount.filter.self,.si .i64 x.amount.filter.types,.si .i64 x.amount.filter.notTypes,.si .i64 x.amount.filter.colors,.si .i64 x.amount.filter.notColors,.str x.amount.filter.sub,.si .i64 x.amount.filter.keys,.si .i64 x.amount.filter.tap,.si .i64 x.amount.filter.power.kind,.si .i64 x.amount.filter.power.n,.si .i64 x.amount.filter.tough.kind,.si .i64 x.amount.filter.tough.n,.si .i64 x.amount.filter.value.kind,.si .i64 x.amount.filter.value.n,.si .i64 x.counter,.si .i64 x.zone,.str x.card,.si .i64 x.filter.zone,.si .i64 x.filter.who,.si .i64 x.filter.self,.si .i64 x.filter.types,.si .i64 x.filter.notTypes,.si .i64 x.filter.colors,.si .i64 x.filter.notColors,.str x.filter.sub,.si .i64 x.filter.keys,.si .i64 x.filter.tap,.si .i64 x.filter.power.kind,.si .i64 x.filter.power.n,.si .i64 x.filter.tough.kind,.si .i64 x.filter.tough.n,.si .i64 x.filter.value.kind,.si .i64 x.filter.value.n,.si .i64 x.pool.a0,.si .i64 x.pool.a1,.si .i64 x.pool.a2,.si .i64 x.pool.a3,.si .i64 x.pool.a4,.si .i64 x.pool.a5,.sl 20 (M.m GMod (eGMod M) x.mods) false]
def zGEffect:GEffect:=GEffect.mk 0 zGRef zGAmount 0 0 (bs []) zGFilter zArr6I ([])
structure GCost where
 generic:Int
 x:Int
 color:Arr5 Int
def eGCost (M:EncM) (x:GCost):List PV:=[.si .i64 x.generic,.si .i64 x.x,.si .i64 x.color.a0,.si .i64 x.color.a1,.si .i64 x.color.a2,.si .i64 x.color.a3,.si .i64 x.color.a4]
def zGCost:GCost:=GCost.mk 0 0 zArr5I
structure GPrice where
 mana:GCost
 tap:Bool
 sacrifice:Bool
 life:Int
def eGPrice (M:EncM) (x:GPrice):List PV:=[.si .i64 x.mana.generic,.si .i64 x.mana.x,.si .i64 x.mana.color.a0,.si .i64 x.mana.color.a1,.si .i64 x.mana.color.a2,.si .i64 x.mana.color.a3,.si .i64 x.mana.color.a4,.sb x.tap,.sb x.sacrifice,.si .i64 x.life]
def zGPrice:GPrice:=GPrice.mk zGCost false false 0
structure GTrigger where
 when:Int
 who:Int
 filter:GFilter
def eGTrigger (M:EncM) (x:GTrigger):List PV:=[.si .i64 x.when,.si .i64 x.who,.si .i64 x.filter.zone,.si .i64 x.filter.who,.si .i64 x.filter.self,.si .i64 x.filter.types,.si .i64 x.filter.notTypes,.si .i64 x.filter.colors,.si .i64 x.filter.notColors,.str x.filter.sub,.si .i64 x.filter.keys,.si .i64 x.filter.tap,.si .i64 x.filter.power.kind,.si .i64 x.filter.power.n,.si .i64 x.filter.tough.kind,.si .i64 x.filter.tough.n,.si .i64 x.filter.value.kind,.si .i64 x.filter.value.n]
def zGTrigger:GTrigger:=GTrigger.mk 0 0 zGFilter
structure GSpec where
 player:Bool
 object:Bool
 filter:GFilter
def eGSpec (M:EncM) (x:GSpec):List PV:=[.sb x.player,.sb x.object,.si .i64 x.filter.zone,.si .i64 x.filter.who,.si .i64 x.filter.self,.si .i64 x.filter.types,.si .i64 x.filter.notTypes,.si .i64 x.filter.colors,.si .i64 x.filter.notColors,.str x.filter.sub,.si .i64 x.filter.keys,.si .i64 x.filter.tap,.si .i64 x.filter.power.kind,.si .i64 x.filter.power.n,.si .i64 x.filter.tough.kind,.si .i64 x.filter.tough.n,.si .i64 x.filter.value.kind,.si .i64 x.filter.value.n]
def zGSpec:GSpec:=GSpec.mk false false zGFilter
structure GReplace where
 on:Int
 who:Int
 filter:GFilter
 doF:Int
 n:Int
 zone:Int
 counter:Int
def eGReplace (M:EncM) (x:GReplace):List PV:=[.si .i64 x.on,.si .i64 x.who,.si .i64 x.filter.zone,.si .i64 x.filter.who,.si .i64 x.filter.self,.si .i64 x.filter.types,.si .i64 x.filter.notTypes,.si .i64 x.filter.colors,.si .i64 x.filter.notColors,.str x.filter.sub,.si .i64 x.filter.keys,.si .i64 x.filter.tap,.si .i64 x.filter.power.kind,.si .i64 x.filter.power.n,.si .i64 x.filter.tough.kind,.si .i64 x.filter.tough.n,.si .i64 x.filter.value.kind,.si .i64 x.filter.value.n,.si .i64 x.doF,.si .i64 x.n,.si .i64 x.zone,.si .i64 x.counter]
def zGReplace:GReplace:=GReplace.mk 0 0 zGFilter 0 0 0 0
structure GAbility where
 kind:Int
 filter:GFilter
 mods:List GMod
 price:GPrice
 slow:Bool
 trigger:GTrigger
 may:Bool
 specs:List GSpec
 effects:List GEffect
 replace:GReplace
def eGAbility (M:EncM) (x:GAbility):List PV:=[.si .i64 x.kind,.si .i64 x.filter.zone,.si .i64 x.filter.who,.si .i64 x.filter.self,.si .i64 x.filter.types,.si .i64 x.filter.notTypes,.si .i64 x.filter.colors,.si .i64 x.filter.notColors,.str x.filter.sub,.si .i64 x.filter.keys,.si .i64 x.filter.tap,.si .i64 x.filter.power.kind,.si .i64 x.filter.power.n,.si .i64 x.filter.tough.kind,.si .i64 x.filter.tough.n,.si .i64 x.filter.value.kind,.si .i64 x.filter.value.n,.sl 20 (M.m GMod (eGMod M) x.mods) false,.si .i64 x.price.mana.generic,.si .i64 x.price.mana.x,.si .i64 x.price.mana.color.a0,.si .i64 x.price.mana.color.a1,.si .i64 x.price.mana.color.a2,.si .i64 x.price.mana.color.a3,.si .i64 x.price.mana.color.a4,.sb x.price.tap,.sb x.price.sacrifice,.si .i64 x.price.life,.sb x.slow,.si .i64 x.trigger.when,.si .i64 x.trigger.who,.si .i64 x.trigger.filter.zone,.si .i64 x.trigger.filter.who,.si .i64 x.trigger.filter.self,.si .i64 x.trigger.filter.types,.si .i64 x.trigger.filter.notTypes,.si .i64 x.trigger.filter.colors,.si .i64 x.trigger.filter.notColors,.str x.trigger.filter.sub,.si .i64 x.trigger.filter.keys,.si .i64 x.trigger.filter.tap,.si .i64 x.trigger.filter.power.kind,.si .i64 x.trigger.filter.power.n,.si .i64 x.trigger.filter.tough.kind,.si .i64 x.trigger.filter.tough.n,.si .i64 x.trigger.filter.value.kind,.si .i64 x.trigger.filter.value.n,.sb x.may,.sl 18 (M.m GSpec (eGSpec M) x.specs) false,.sl 64 (M.m GEffect (eGEffect M) x.effects) false,.si .i64 x.replace.on,.si .i64 x.replace.who,.si .i64 x.replace.filter.zone,.si .i64 x.replace.filter.who,.si .i64 x.replace.filter.self,.si .i64 x.replace.filter.types,.si .i64 x.replace.filter.notTypes,.si .i64 x.replace.filter.colors,.si .i64 x.replace.filter.notColors,.str x.replace.filter.sub,.si .i64 x.replace.filter.keys,.si .i64 x.replace.filter.tap,.si .i64 x.replace.filter.power.kind,.si .i64 x.replace.filter.power.n,.si .i64 x.replace.filter.tough.kind,.si .i64 x.replace.filter.tough.n,.si .i64 x.replace.filter.value.kind,.si .i64 x.replace.filter.value.n,.si .i64 x.replace.doF,.si .i64 x.replace.n,.si .i64 x.replace.zone,.si .i64 x.replace.counter]
def zGAbility:GAbility:=GAbility.mk 0 zGFilter ([]) zGPrice false zGTrigger false ([]) ([]) zGReplace
structure GTarget where
 object:Int
 player:Int
def eGTarget (M:EncM) (x:GTarget):List PV:=[.si .i64 x.object,.si .i64 x.player]
def zGTarget:GTarget:=GTarget.mk 0 0
structure GEvent where
 kind:Int
 source:Int
 object:Int
 player:Int
 amount:Int
 fromF:Int
 to:Int
 cause:Int
 counter:Int
 card:Int
 combat:Bool
 tapped:Bool
 extra:Arr3 Int
def eGEvent (M:EncM) (x:GEvent):List PV:=[.si .i64 x.kind,.si .i64 x.source,.si .i64 x.object,.si .i64 x.player,.si .i64 x.amount,.si .i64 x.fromF,.si .i64 x.to,.si .i64 x.cause,.si .i64 x.counter,.si .i64 x.card,.sb x.combat,.sb x.tapped,.si .i64 x.extra.a0,.si .i64 x.extra.a1,.si .i64 x.extra.a2]
def zGEvent:GEvent:=GEvent.mk 0 0 0 0 0 0 0 0 0 0 false false zArr3I
structure GItem where
 id:Int
 kind:Int
 source:Int
 control:Int
 x:Int
 copy:Bool
 ability:GAbility
 targets:List GTarget
 event:GEvent
def eGItem (M:EncM) (x:GItem):List PV:=[.si .i64 x.id,.si .i64 x.kind,.si .i64 x.source,.si .i64 x.control,.si .i64 x.x,.sb x.copy,.si .i64 x.ability.kind,.si .i64 x.ability.filter.zone,.si .i64 x.ability.filter.who,.si .i64 x.ability.filter.self,.si .i64 x.ability.filter.types,.si .i64 x.ability.filter.notTypes,.si .i64 x.ability.filter.colors,.si .i64 x.ability.filter.notColors,.str x.ability.filter.sub,.si .i64 x.ability.filter.keys,.si .i64 x.ability.filter.tap,.si .i64 x.ability.filter.power.kind,.si .i64 x.ability.filter.power.n,.si .i64 x.ability.filter.tough.kind,.si .i64 x.ability.filter.tough.n,.si .i64 x.ability.filter.value.kind,.si .i64 x.ability.filter.value.n,.sl 20 (M.m GMod (eGMod M) x.ability.mods) false,.si .i64 x.ability.price.mana.generic,.si .i64 x.ability.price.mana.x,.si .i64 x.ability.price.mana.color.a0,.si .i64 x.ability.price.mana.color.a1,.si .i64 x.ability.price.mana.color.a2,.si .i64 x.ability.price.mana.color.a3,.si .i64 x.ability.price.mana.color.a4,.sb x.ability.price.tap,.sb x.ability.price.sacrifice,.si .i64 x.ability.price.life,.sb x.ability.slow,.si .i64 x.ability.trigger.when,.si .i64 x.ability.trigger.who,.si .i64 x.ability.trigger.filter.zone,.si .i64 x.ability.trigger.filter.who,.si .i64 x.ability.trigger.filter.self,.si .i64 x.ability.trigger.filter.types,.si .i64 x.ability.trigger.filter.notTypes,.si .i64 x.ability.trigger.filter.colors,.si .i64 x.ability.trigger.filter.notColors,.str x.ability.trigger.filter.sub,.si .i64 x.ability.trigger.filter.keys,.si .i64 x.ability.trigger.filter.tap,.si .i64 x.ability.trigger.filter.power.kind,.si .i64 x.ability.trigger.filter.power.n,.si .i64 x.ability.trigger.filter.tough.kind,.si .i64 x.ability.trigger.filter.tough.n,.si .i64 x.ability.trigger.filter.value.kind,.si .i64 x.ability.trigger.filter.value.n,.sb x.ability.may,.sl 18 (M.m GSpec (eGSpec M) x.ability.specs) false,.sl 64 (M.m GEffect (eGEffect M) x.ability.effects) false,.si .i64 x.ability.replace.on,.si .i64 x.ability.replace.who,.si .i64 x.ability.replace.filter.zone,.si .i64 x.ability.replace.filter.who,.si .i64 x.ability.replace.filter.self,.si .i64 x.ability.replace.filter.types,.si .i64 x.ability.replace.filter.notTypes,.si .i64 x.ability.replace.filter.colors,.si .i64 x.ability.replace.filter.notColors,.str x.ability.replace.filter.sub,.si .i64 x.ability.replace.filter.keys,.si .i64 x.ability.replace.filter.tap,.si .i64 x.ability.replace.filter.power.kind,.si .i64 x.ability.replace.filter.power.n,.si .i64 x.ability.replace.filter.tough.kind,.si .i64 x.ability.replace.filter.tough.n,.si .i64 x.ability.replace.filter.value.kind,.si .i64 x.ability.replace.filter.value.n,.si .i64 x.ability.replace.doF,.si .i64 x.ability.replace.n,.si .i64 x.ability.replace.zone,.si .i64 x.ability.replace.counter,.sl 2 (M.m GTarget (eGTarget M) x.targets) false,.si .i64 x.event.kind,.si .i64 x.event.source,.si .i64 x.event.object,.si .i64 x.event.player,.si .i64 x.event.amount,.si .i64 x.event.fromF,.si .i64 x.event.to,.si .i64 x.event.cause,.si .i64 x.event.counter,.si .i64 x.event.card,.sb x.event.combat,.sb x.event.tapped,.si .i64 x.event.extra.a0,.si .i64 x.event.extra.a1,.si .i64 x.event.extra.a2]
def zGItem:GItem:=GItem.mk 0 0 0 0 0 false zGAbility ([]) zGEvent
structure GWaiting where
 source:Int
 control:Int
 ability:GAbility
 event:GEvent
def eGWaiting (M:EncM) (x:GWaiting):List PV:=[.si .i64 x.source,.si .i64 x.control,.si .i64 x.ability.kind,.si .i64 x.ability.filter.zone,.si .i64 x.ability.filter.who,.si .i64 x.ability.filter.self,.si .i64 x.ability.filter.types,.si .i64 x.ability.filter.notTypes,.si .i64 x.ability.filter.colors,.si .i64 x.ability.filter.notColors,.str x.ability.filter.sub,.si .i64 x.ability.filter.keys,.si .i64 x.ability.filter.tap,.si .i64 x.ability.filter.power.kind,.si .i64 x.ability.filter.power.n,.si .i64 x.ability.filter.tough.kind,.si .i64 x.ability.filter.tough.n,.si .i64 x.ability.filter.value.kind,.si .i64 x.ability.filter.value.n,.sl 20 (M.m GMod (eGMod M) x.ability.mods) false,.si .i64 x.ability.price.mana.generic,.si .i64 x.ability.price.mana.x,.si .i64 x.ability.price.mana.color.a0,.si .i64 x.ability.price.mana.color.a1,.si .i64 x.ability.price.mana.color.a2,.si .i64 x.ability.price.mana.color.a3,.si .i64 x.ability.price.mana.color.a4,.sb x.ability.price.tap,.sb x.ability.price.sacrifice,.si .i64 x.ability.price.life,.sb x.ability.slow,.si .i64 x.ability.trigger.when,.si .i64 x.ability.trigger.who,.si .i64 x.ability.trigger.filter.zone,.si .i64 x.ability.trigger.filter.who,.si .i64 x.ability.trigger.filter.self,.si .i64 x.ability.trigger.filter.types,.si .i64 x.ability.trigger.filter.notTypes,.si .i64 x.ability.trigger.filter.colors,.si .i64 x.ability.trigger.filter.notColors,.str x.ability.trigger.filter.sub,.si .i64 x.ability.trigger.filter.keys,.si .i64 x.ability.trigger.filter.tap,.si .i64 x.ability.trigger.filter.power.kind,.si .i64 x.ability.trigger.filter.power.n,.si .i64 x.ability.trigger.filter.tough.kind,.si .i64 x.ability.trigger.filter.tough.n,.si .i64 x.ability.trigger.filter.value.kind,.si .i64 x.ability.trigger.filter.value.n,.sb x.ability.may,.sl 18 (M.m GSpec (eGSpec M) x.ability.specs) false,.sl 64 (M.m GEffect (eGEffect M) x.ability.effects) false,.si .i64 x.ability.replace.on,.si .i64 x.ability.replace.who,.si .i64 x.ability.replace.filter.zone,.si .i64 x.ability.replace.filter.who,.si .i64 x.ability.replace.filter.self,.si .i64 x.ability.replace.filter.types,.si .i64 x.ability.replace.filter.notTypes,.si .i64 x.ability.replace.filter.colors,.si .i64 x.ability.replace.filter.notColors,.str x.ability.replace.filter.sub,.si .i64 x.ability.replace.filter.keys,.si .i64 x.ability.replace.filter.tap,.si .i64 x.ability.replace.filter.power.kind,.si .i64 x.ability.replace.filter.power.n,.si .i64 x.ability.replace.filter.tough.kind,.si .i64 x.ability.replace.filter.tough.n,.si .i64 x.ability.replace.filter.value.kind,.si .i64 x.ability.replace.filter.value.n,.si .i64 x.ability.replace.doF,.si .i64 x.ability.replace.n,.si .i64 x.ability.replace.zone,.si .i64 x.ability.replace.counter,.si .i64 x.event.kind,.si .i64 x.event.source,.si .i64 x.event.object,.si .i64 x.event.player,.si .i64 x.event.amount,.si .i64 x.event.fromF,.si .i64 x.event.to,.si .i64 x.event.cause,.si .i64 x.event.counter,.si .i64 x.event.card,.sb x.event.combat,.sb x.event.tapped,.si .i64 x.event.extra.a0,.si .i64 x.event.extra.a1,.si .i64 x.event.extra.a2]
def zGWaiting:GWaiting:=GWaiting.mk 0 0 zGAbility zGEvent
structure GCont where
 stamp:Int
 control:Int
 source:Int
 untilF:Int
 objects:List Int
 mods:List GMod
def eGCont (M:EncM) (x:GCont):List PV:=[.si .i64 x.stamp,.si .i64 x.control,.si .i64 x.source,.si .i64 x.untilF,.sl 1 (M.m Int (eI .i64) x.objects) false,.sl 20 (M.m GMod (eGMod M) x.mods) false]
def zGCont:GCont:=GCont.mk 0 0 0 0 ([]) ([])
structure GPlayer where
 life:Int
 venom:Int
 lands:Int
 pool:Arr6 Int
 failed:Bool
 lost:Bool
 library:List Int
 hand:List Int
 graveyard:List Int
def eGPlayer (M:EncM) (x:GPlayer):List PV:=[.si .i64 x.life,.si .i64 x.venom,.si .i64 x.lands,.si .i64 x.pool.a0,.si .i64 x.pool.a1,.si .i64 x.pool.a2,.si .i64 x.pool.a3,.si .i64 x.pool.a4,.si .i64 x.pool.a5,.sb x.failed,.sb x.lost,.sl 1 (M.m Int (eI .i64) x.library) false,.sl 1 (M.m Int (eI .i64) x.hand) false,.sl 1 (M.m Int (eI .i64) x.graveyard) false]
def zGPlayer:GPlayer:=GPlayer.mk 0 0 0 zArr6I false false ([]) ([]) ([])
structure GObject where
 id:Int
 card:Int
 owner:Int
 control:Int
 zone:Int
 token:Bool
 tapped:Bool
 sick:Bool
 deadly:Bool
 damage:Int
 counters:Arr3 Int
 stamp:Int
 copy:Int
 attack:Int
 blocked:Bool
 blocks:Int
 shield:Int
def eGObject (M:EncM) (x:GObject):List PV:=[.si .i64 x.id,.si .i64 x.card,.si .i64 x.owner,.si .i64 x.control,.si .i64 x.zone,.sb x.token,.sb x.tapped,.sb x.sick,.sb x.deadly,.si .i64 x.damage,.si .i64 x.counters.a0,.si .i64 x.counters.a1,.si .i64 x.counters.a2,.si .i64 x.stamp,.si .i64 x.copy,.si .i64 x.attack,.sb x.blocked,.si .i64 x.blocks,.si .i64 x.shield]
def zGObject:GObject:=GObject.mk 0 0 0 0 0 false false false false 0 zArr3I 0 0 0 false 0 0
structure GState where
 players:List GPlayer
 objects:List GObject
 battlefield:List Int
 exile:List Int
 stack:List GItem
 waiting:List GWaiting
 conts:List GCont
 turn:Int
 active:Int
 step:Int
 begun:Bool
 priority:Int
 passes:Int
 nextId:Int
 nextStamp:Int
 seed:Int
 extra:List Int
 over:Int
 winner:Int
def eGState (M:EncM) (x:GState):List PV:=[.sl 14 (M.m GPlayer (eGPlayer M) x.players) false,.sl 19 (M.m GObject (eGObject M) x.objects) false,.sl 1 (M.m Int (eI .i64) x.battlefield) false,.sl 1 (M.m Int (eI .i64) x.exile) false,.sl 94 (M.m GItem (eGItem M) x.stack) false,.sl 89 (M.m GWaiting (eGWaiting M) x.waiting) false,.sl 6 (M.m GCont (eGCont M) x.conts) false,.si .i64 x.turn,.si .i64 x.active,.si .i64 x.step,.sb x.begun,.si .i64 x.priority,.si .i64 x.passes,.si .i64 x.nextId,.si .i64 x.nextStamp,.si .u64 x.seed,.sl 1 (M.m Int (eI .i64) x.extra) false,.si .i64 x.over,.si .i64 x.winner]
def zGState:GState:=GState.mk ([]) ([]) ([]) ([]) ([]) ([]) ([]) 0 0 0 false 0 0 0 0 0 ([]) 0 0
structure GLine where
 super:Int
 types:Int
 subs:List ByteArray
def eGLine (M:EncM) (x:GLine):List PV:=[.si .i64 x.super,.si .i64 x.types,.sl 1 (M.m ByteArray eS x.subs) false]
def zGLine:GLine:=GLine.mk 0 0 ([])
structure GCard where
 name:ByteArray
 token:Bool
 cost:GCost
 color:Int
 line:GLine
 power:Int
 tough:Int
 keys:Int
 abilities:List GAbility
def eGCard (M:EncM) (x:GCard):List PV:=[.str x.name,.sb x.token,.si .i64 x.cost.generic,.si .i64 x.cost.x,.si .i64 x.cost.color.a0,.si .i64 x.cost.color.a1,.si .i64 x.cost.color.a2,.si .i64 x.cost.color.a3,.si .i64 x.cost.color.a4,.si .i64 x.color,.si .i64 x.line.super,.si .i64 x.line.types,.sl 1 (M.m ByteArray eS x.line.subs) false,.si .i64 x.power,.si .i64 x.tough,.si .i64 x.keys,.sl 72 (M.m GAbility (eGAbility M) x.abilities) false]
def zGCard:GCard:=GCard.mk (bs []) false zGCost 0 zGLine 0 0 0 ([])
structure GOption where
 kind:Int
 a:Int
 b:Int
def eGOption (M:EncM) (x:GOption):List PV:=[.si .i64 x.kind,.si .i64 x.a,.si .i64 x.b]
def zGOption:GOption:=GOption.mk 0 0 0
structure GChoice where
 kind:Int
 player:Int
 source:Int
 least:Int
 most:Int
 n:Int
 options:List GOption
def eGChoice (M:EncM) (x:GChoice):List PV:=[.si .i64 x.kind,.si .i64 x.player,.si .i64 x.source,.si .i64 x.least,.si .i64 x.most,.si .i64 x.n,.sl 3 (M.m GOption (eGOption M) x.options) false]
def zGChoice:GChoice:=GChoice.mk 0 0 0 0 0 0 ([])
structure GAskAsker where
 answers:List (List Int)
 used:Int
 pending:GChoice
 waits:Bool
 bad:Bool
def eGAskAsker (M:EncM) (x:GAskAsker):List PV:=[.sl 1 (M.m (List Int) (eL M 1 (eI .i64)) x.answers) false,.si .i64 x.used,.si .i64 x.pending.kind,.si .i64 x.pending.player,.si .i64 x.pending.source,.si .i64 x.pending.least,.si .i64 x.pending.most,.si .i64 x.pending.n,.sl 3 (M.m GOption (eGOption M) x.pending.options) false,.sb x.waits,.sb x.bad]
def zGAskAsker:GAskAsker:=GAskAsker.mk ([]) 0 zGChoice false false
structure GContext where
 you:Int
 source:Int
 x:Int
 targets:List GTarget
 event:GEvent
def eGContext (M:EncM) (x:GContext):List PV:=[.si .i64 x.you,.si .i64 x.source,.si .i64 x.x,.sl 2 (M.m GTarget (eGTarget M) x.targets) false,.si .i64 x.event.kind,.si .i64 x.event.source,.si .i64 x.event.object,.si .i64 x.event.player,.si .i64 x.event.amount,.si .i64 x.event.fromF,.si .i64 x.event.to,.si .i64 x.event.cause,.si .i64 x.event.counter,.si .i64 x.event.card,.sb x.event.combat,.sb x.event.tapped,.si .i64 x.event.extra.a0,.si .i64 x.event.extra.a1,.si .i64 x.event.extra.a2]
def zGContext:GContext:=GContext.mk 0 0 0 ([]) zGEvent
def r17_SameMods_l1 (a:List GMod) (b:List GMod) (s1:Int) (k2:Int→Option Bool):Option Bool :=
 br (decide (s1<(lenI a))) (bnd (ixL a s1) fun x4 =>
 bnd (ixL b s1) fun x5 =>
 lt ((decide (x4.kind=x5.kind) && (decide (x4.n=x5.n) && (decide (x4.m=x5.m) && (stdScmp .eql x4.sub x5.sub && (decide (x4.filter.zone=x5.filter.zone) && (decide (x4.filter.who=x5.filter.who) && (decide (x4.filter.self=x5.filter.self) && (decide (x4.filter.types=x5.filter.types) && (decide (x4.filter.notTypes=x5.filter.notTypes) && (decide (x4.filter.colors=x5.filter.colors) && (decide (x4.filter.notColors=x5.filter.notColors) && (stdScmp .eql x4.filter.sub x5.filter.sub && (decide (x4.filter.keys=x5.filter.keys) && (decide (x4.filter.tap=x5.filter.tap) && (decide (x4.filter.power.kind=x5.filter.power.kind) && (decide (x4.filter.power.n=x5.filter.power.n) && (decide (x4.filter.tough.kind=x5.filter.tough.kind) && (decide (x4.filter.tough.n=x5.filter.tough.n) && (decide (x4.filter.value.kind=x5.filter.value.kind) && (decide (x4.filter.value.n=x5.filter.value.n) && true)))))))))))))))))))) == false) fun v6 =>
 br v6 (some false)
 (k2 (addI s1 1)))
 (some true)
def r17_SameMods (a:List GMod) (b:List GMod):Option Bool :=
 br (!decide ((lenI a)=(lenI b))) (some false)
 (loopF (r17_SameMods_l1 a b) 0)
def r17_Same (a:GEffect) (b:GEffect):Option Bool :=
 br (decide (a.op=b.op)) (lt (decide (a.ref.kind=b.ref.kind) && (decide (a.ref.n=b.ref.n) && (decide (a.ref.filter.zone=b.ref.filter.zone) && (decide (a.ref.filter.who=b.ref.filter.who) && (decide (a.ref.filter.self=b.ref.filter.self) && (decide (a.ref.filter.types=b.ref.filter.types) && (decide (a.ref.filter.notTypes=b.ref.filter.notTypes) && (decide (a.ref.filter.colors=b.ref.filter.colors) && (decide (a.ref.filter.notColors=b.ref.filter.notColors) && (stdScmp .eql a.ref.filter.sub b.ref.filter.sub && (decide (a.ref.filter.keys=b.ref.filter.keys) && (decide (a.ref.filter.tap=b.ref.filter.tap) && (decide (a.ref.filter.power.kind=b.ref.filter.power.kind) && (decide (a.ref.filter.power.n=b.ref.filter.power.n) && (decide (a.ref.filter.tough.kind=b.ref.filter.tough.kind) && (decide (a.ref.filter.tough.n=b.ref.filter.tough.n) && (decide (a.ref.filter.value.kind=b.ref.filter.value.kind) && (decide (a.ref.filter.value.n=b.ref.filter.value.n) && true)))))))))))))))))) fun v1 =>
 br v1 (lt (decide (a.amount.kind=b.amount.kind) && (decide (a.amount.n=b.amount.n) && (decide (a.amount.counter=b.amount.counter) && (decide (a.amount.filter.zone=b.amount.filter.zone) && (decide (a.amount.filter.who=b.amount.filter.who) && (decide (a.amount.filter.self=b.amount.filter.self) && (decide (a.amount.filter.types=b.amount.filter.types) && (decide (a.amount.filter.notTypes=b.amount.filter.notTypes) && (decide (a.amount.filter.colors=b.amount.filter.colors) && (decide (a.amount.filter.notColors=b.amount.filter.notColors) && (stdScmp .eql a.amount.filter.sub b.amount.filter.sub && (decide (a.amount.filter.keys=b.amount.filter.keys) && (decide (a.amount.filter.tap=b.amount.filter.tap) && (decide (a.amount.filter.power.kind=b.amount.filter.power.kind) && (decide (a.amount.filter.power.n=b.amount.filter.power.n) && (decide (a.amount.filter.tough.kind=b.amount.filter.tough.kind) && (decide (a.amount.filter.tough.n=b.amount.filter.tough.n) && (decide (a.amount.filter.value.kind=b.amount.filter.value.kind) && (decide (a.amount.filter.value.n=b.amount.filter.value.n) && true))))))))))))))))))) fun v2 =>
 br v2 (br (decide (a.counter=b.counter)) (br (decide (a.zone=b.zone)) (br (stdScmp .eql a.card b.card) (lt (decide (a.filter.zone=b.filter.zone) && (decide (a.filter.who=b.filter.who) && (decide (a.filter.self=b.filter.self) && (decide (a.filter.types=b.filter.types) && (decide (a.filter.notTypes=b.filter.notTypes) && (decide (a.filter.colors=b.filter.colors) && (decide (a.filter.notColors=b.filter.notColors) && (stdScmp .eql a.filter.sub b.filter.sub && (decide (a.filter.keys=b.filter.keys) && (decide (a.filter.tap=b.filter.tap) && (decide (a.filter.power.kind=b.filter.power.kind) && (decide (a.filter.power.n=b.filter.power.n) && (decide (a.filter.tough.kind=b.filter.tough.kind) && (decide (a.filter.tough.n=b.filter.tough.n) && (decide (a.filter.value.kind=b.filter.value.kind) && (decide (a.filter.value.n=b.filter.value.n) && true)))))))))))))))) fun v3 =>
 br v3 (lt (decide (a.pool.a0=b.pool.a0) && (decide (a.pool.a1=b.pool.a1) && (decide (a.pool.a2=b.pool.a2) && (decide (a.pool.a3=b.pool.a3) && (decide (a.pool.a4=b.pool.a4) && (decide (a.pool.a5=b.pool.a5) && true)))))) fun v4 =>
 br v4 (bnd (r17_SameMods a.mods b.mods) fun y5 =>
 some y5)
 (some false))
 (some false))
 (some false))
 (some false))
 (some false))
 (some false))
 (some false))
 (some false)
def r17_SameList_l1 (a:List GEffect) (b:List GEffect) (s1:Int) (k2:Int→Option Bool):Option Bool :=
 br (decide (s1<(lenI a))) (bnd (ixL a s1) fun x4 =>
 bnd (ixL b s1) fun x5 =>
 bnd (r17_Same x4 x5) fun y6 =>
 br (y6 == false) (some false)
 (k2 (addI s1 1)))
 (some true)
def r17_SameList (a:List GEffect) (b:List GEffect):Option Bool :=
 br (!decide ((lenI a)=(lenI b))) (some false)
 (loopF (r17_SameList_l1 a b) 0)
def r20_Same_l1 (a:GAbility) (b:GAbility) (s1:Int) (k2:Int→Option Bool):Option Bool :=
 br (decide (s1<(lenI a.specs))) (bnd (ixL a.specs s1) fun x4 =>
 bnd (ixL b.specs s1) fun x5 =>
 lt ((x4.player == x5.player && (x4.object == x5.object && (decide (x4.filter.zone=x5.filter.zone) && (decide (x4.filter.who=x5.filter.who) && (decide (x4.filter.self=x5.filter.self) && (decide (x4.filter.types=x5.filter.types) && (decide (x4.filter.notTypes=x5.filter.notTypes) && (decide (x4.filter.colors=x5.filter.colors) && (decide (x4.filter.notColors=x5.filter.notColors) && (stdScmp .eql x4.filter.sub x5.filter.sub && (decide (x4.filter.keys=x5.filter.keys) && (decide (x4.filter.tap=x5.filter.tap) && (decide (x4.filter.power.kind=x5.filter.power.kind) && (decide (x4.filter.power.n=x5.filter.power.n) && (decide (x4.filter.tough.kind=x5.filter.tough.kind) && (decide (x4.filter.tough.n=x5.filter.tough.n) && (decide (x4.filter.value.kind=x5.filter.value.kind) && (decide (x4.filter.value.n=x5.filter.value.n) && true)))))))))))))))))) == false) fun v6 =>
 br v6 (some false)
 (k2 (addI s1 1)))
 (br (decide (a.kind=b.kind)) (lt (decide (a.filter.zone=b.filter.zone) && (decide (a.filter.who=b.filter.who) && (decide (a.filter.self=b.filter.self) && (decide (a.filter.types=b.filter.types) && (decide (a.filter.notTypes=b.filter.notTypes) && (decide (a.filter.colors=b.filter.colors) && (decide (a.filter.notColors=b.filter.notColors) && (stdScmp .eql a.filter.sub b.filter.sub && (decide (a.filter.keys=b.filter.keys) && (decide (a.filter.tap=b.filter.tap) && (decide (a.filter.power.kind=b.filter.power.kind) && (decide (a.filter.power.n=b.filter.power.n) && (decide (a.filter.tough.kind=b.filter.tough.kind) && (decide (a.filter.tough.n=b.filter.tough.n) && (decide (a.filter.value.kind=b.filter.value.kind) && (decide (a.filter.value.n=b.filter.value.n) && true)))))))))))))))) fun v7 =>
 br v7 (bnd (r17_SameMods a.mods b.mods) fun y8 =>
 br y8 (lt (decide (a.price.mana.generic=b.price.mana.generic) && (decide (a.price.mana.x=b.price.mana.x) && (decide (a.price.mana.color.a0=b.price.mana.color.a0) && (decide (a.price.mana.color.a1=b.price.mana.color.a1) && (decide (a.price.mana.color.a2=b.price.mana.color.a2) && (decide (a.price.mana.color.a3=b.price.mana.color.a3) && (decide (a.price.mana.color.a4=b.price.mana.color.a4) && (a.price.tap == b.price.tap && (a.price.sacrifice == b.price.sacrifice && (decide (a.price.life=b.price.life) && true)))))))))) fun v9 =>
 br v9 (br (a.slow == b.slow) (lt (decide (a.trigger.when=b.trigger.when) && (decide (a.trigger.who=b.trigger.who) && (decide (a.trigger.filter.zone=b.trigger.filter.zone) && (decide (a.trigger.filter.who=b.trigger.filter.who) && (decide (a.trigger.filter.self=b.trigger.filter.self) && (decide (a.trigger.filter.types=b.trigger.filter.types) && (decide (a.trigger.filter.notTypes=b.trigger.filter.notTypes) && (decide (a.trigger.filter.colors=b.trigger.filter.colors) && (decide (a.trigger.filter.notColors=b.trigger.filter.notColors) && (stdScmp .eql a.trigger.filter.sub b.trigger.filter.sub && (decide (a.trigger.filter.keys=b.trigger.filter.keys) && (decide (a.trigger.filter.tap=b.trigger.filter.tap) && (decide (a.trigger.filter.power.kind=b.trigger.filter.power.kind) && (decide (a.trigger.filter.power.n=b.trigger.filter.power.n) && (decide (a.trigger.filter.tough.kind=b.trigger.filter.tough.kind) && (decide (a.trigger.filter.tough.n=b.trigger.filter.tough.n) && (decide (a.trigger.filter.value.kind=b.trigger.filter.value.kind) && (decide (a.trigger.filter.value.n=b.trigger.filter.value.n) && true)))))))))))))))))) fun v10 =>
 br v10 (br (a.may == b.may) (bnd (r17_SameList a.effects b.effects) fun y11 =>
 br y11 (lt (decide (a.replace.on=b.replace.on) && (decide (a.replace.who=b.replace.who) && (decide (a.replace.filter.zone=b.replace.filter.zone) && (decide (a.replace.filter.who=b.replace.filter.who) && (decide (a.replace.filter.self=b.replace.filter.self) && (decide (a.replace.filter.types=b.replace.filter.types) && (decide (a.replace.filter.notTypes=b.replace.filter.notTypes) && (decide (a.replace.filter.colors=b.replace.filter.colors) && (decide (a.replace.filter.notColors=b.replace.filter.notColors) && (stdScmp .eql a.replace.filter.sub b.replace.filter.sub && (decide (a.replace.filter.keys=b.replace.filter.keys) && (decide (a.replace.filter.tap=b.replace.filter.tap) && (decide (a.replace.filter.power.kind=b.replace.filter.power.kind) && (decide (a.replace.filter.power.n=b.replace.filter.power.n) && (decide (a.replace.filter.tough.kind=b.replace.filter.tough.kind) && (decide (a.replace.filter.tough.n=b.replace.filter.tough.n) && (decide (a.replace.filter.value.kind=b.replace.filter.value.kind) && (decide (a.replace.filter.value.n=b.replace.filter.value.n) && (decide (a.replace.doF=b.replace.doF) && (decide (a.replace.n=b.replace.n) && (decide (a.replace.zone=b.replace.zone) && (decide (a.replace.counter=b.replace.counter) && true)))))))))))))))))))))) fun v12 =>
 some v12)
 (some false))
 (some false))
 (some false))
 (some false))
 (some false))
 (some false))
 (some false))
 (some false))
def r20_Same (a:GAbility) (b:GAbility):Option Bool :=
 br (!decide ((lenI a.specs)=(lenI b.specs))) (some false)
 (loopF (r20_Same_l1 a b) 0)
def r26_SameItem_l1 (a:GItem) (b:GItem) (s1:Int) (k2:Int→Option Bool):Option Bool :=
 br (decide (s1<(lenI a.targets))) (bnd (ixL a.targets s1) fun x4 =>
 bnd (ixL b.targets s1) fun x5 =>
 lt ((decide (x4.object=x5.object) && (decide (x4.player=x5.player) && true)) == false) fun v6 =>
 br v6 (some false)
 (k2 (addI s1 1)))
 (br (decide (a.id=b.id)) (br (decide (a.kind=b.kind)) (br (decide (a.source=b.source)) (br (decide (a.control=b.control)) (br (decide (a.x=b.x)) (br (a.copy == b.copy) (bnd (r20_Same a.ability b.ability) fun y7 =>
 br y7 (lt (decide (a.event.kind=b.event.kind) && (decide (a.event.source=b.event.source) && (decide (a.event.object=b.event.object) && (decide (a.event.player=b.event.player) && (decide (a.event.amount=b.event.amount) && (decide (a.event.fromF=b.event.fromF) && (decide (a.event.to=b.event.to) && (decide (a.event.cause=b.event.cause) && (decide (a.event.counter=b.event.counter) && (decide (a.event.card=b.event.card) && (a.event.combat == b.event.combat && (a.event.tapped == b.event.tapped && (decide (a.event.extra.a0=b.event.extra.a0) && (decide (a.event.extra.a1=b.event.extra.a1) && (decide (a.event.extra.a2=b.event.extra.a2) && true))))))))))))))) fun v8 =>
 some v8)
 (some false))
 (some false))
 (some false))
 (some false))
 (some false))
 (some false))
 (some false))
def r26_SameItem (a:GItem) (b:GItem):Option Bool :=
 br (!decide ((lenI a.targets)=(lenI b.targets))) (some false)
 (loopF (r26_SameItem_l1 a b) 0)
def r26_SameWaiting (a:GWaiting) (b:GWaiting):Option Bool :=
 br (decide (a.source=b.source)) (br (decide (a.control=b.control)) (bnd (r20_Same a.ability b.ability) fun y1 =>
 br y1 (lt (decide (a.event.kind=b.event.kind) && (decide (a.event.source=b.event.source) && (decide (a.event.object=b.event.object) && (decide (a.event.player=b.event.player) && (decide (a.event.amount=b.event.amount) && (decide (a.event.fromF=b.event.fromF) && (decide (a.event.to=b.event.to) && (decide (a.event.cause=b.event.cause) && (decide (a.event.counter=b.event.counter) && (decide (a.event.card=b.event.card) && (a.event.combat == b.event.combat && (a.event.tapped == b.event.tapped && (decide (a.event.extra.a0=b.event.extra.a0) && (decide (a.event.extra.a1=b.event.extra.a1) && (decide (a.event.extra.a2=b.event.extra.a2) && true))))))))))))))) fun v2 =>
 some v2)
 (some false))
 (some false))
 (some false)
def r26_SameMods_l1 (a:List GMod) (b:List GMod) (s1:Int) (k2:Int→Option Bool):Option Bool :=
 br (decide (s1<(lenI a))) (bnd (ixL a s1) fun x4 =>
 bnd (ixL b s1) fun x5 =>
 lt ((decide (x4.kind=x5.kind) && (decide (x4.n=x5.n) && (decide (x4.m=x5.m) && (stdScmp .eql x4.sub x5.sub && (decide (x4.filter.zone=x5.filter.zone) && (decide (x4.filter.who=x5.filter.who) && (decide (x4.filter.self=x5.filter.self) && (decide (x4.filter.types=x5.filter.types) && (decide (x4.filter.notTypes=x5.filter.notTypes) && (decide (x4.filter.colors=x5.filter.colors) && (decide (x4.filter.notColors=x5.filter.notColors) && (stdScmp .eql x4.filter.sub x5.filter.sub && (decide (x4.filter.keys=x5.filter.keys) && (decide (x4.filter.tap=x5.filter.tap) && (decide (x4.filter.power.kind=x5.filter.power.kind) && (decide (x4.filter.power.n=x5.filter.power.n) && (decide (x4.filter.tough.kind=x5.filter.tough.kind) && (decide (x4.filter.tough.n=x5.filter.tough.n) && (decide (x4.filter.value.kind=x5.filter.value.kind) && (decide (x4.filter.value.n=x5.filter.value.n) && true)))))))))))))))))))) == false) fun v6 =>
 br v6 (some false)
 (k2 (addI s1 1)))
 (some true)
def r26_SameMods (a:List GMod) (b:List GMod):Option Bool :=
 br (!decide ((lenI a)=(lenI b))) (some false)
 (loopF (r26_SameMods_l1 a b) 0)
def r03_Same_l1 (a:List Int) (b:List Int) (s1:Int) (k2:Int→Option Bool):Option Bool :=
 br (decide (s1<(lenI a))) (bnd (ixL a s1) fun x4 =>
 bnd (ixL b s1) fun x5 =>
 br (!decide (x4=x5)) (some false)
 (k2 (addI s1 1)))
 (some true)
def r03_Same (a:List Int) (b:List Int):Option Bool :=
 br (!decide ((lenI a)=(lenI b))) (some false)
 (loopF (r03_Same_l1 a b) 0)
def r26_SameCont (a:GCont) (b:GCont):Option Bool :=
 br (decide (a.stamp=b.stamp)) (br (decide (a.control=b.control)) (br (decide (a.source=b.source)) (br (decide (a.untilF=b.untilF)) (bnd (r03_Same a.objects b.objects) fun y1 =>
 br y1 (bnd (r26_SameMods a.mods b.mods) fun y2 =>
 some y2)
 (some false))
 (some false))
 (some false))
 (some false))
 (some false)
def r26_SamePlayer (a:GPlayer) (b:GPlayer):Option Bool :=
 jn (fun s1:Bool =>
 br s1 (some false)
 (bnd (r03_Same a.library b.library) fun y5 =>
 br y5 (bnd (r03_Same a.hand b.hand) fun y6 =>
 br y6 (bnd (r03_Same a.graveyard b.graveyard) fun y7 =>
 some y7)
 (some false))
 (some false))) fun k2 =>
 br (!decide (a.life=b.life)) (k2 true)
 (br (!decide (a.venom=b.venom)) (k2 true)
 (br (!decide (a.lands=b.lands)) (k2 true)
 (lt ((decide (a.pool.a0=b.pool.a0) && (decide (a.pool.a1=b.pool.a1) && (decide (a.pool.a2=b.pool.a2) && (decide (a.pool.a3=b.pool.a3) && (decide (a.pool.a4=b.pool.a4) && (decide (a.pool.a5=b.pool.a5) && true)))))) == false) fun v4 =>
 br v4 (k2 true)
 (br ((a.failed == b.failed) == false) (k2 true)
 (k2 ((a.lost == b.lost) == false))))))
def r26_lists_l1 (a:GState) (b:GState) (s28:Int) (k29:Int→Option Bool):Option Bool :=
 br (decide (s28<(lenI a.conts))) (bnd (ixL a.conts s28) fun x31 =>
 bnd (ixL b.conts s28) fun x32 =>
 bnd (r26_SameCont x31 x32) fun y33 =>
 br (y33 == false) (some false)
 (k29 (addI s28 1)))
 (some true)
def r26_lists_l2 (a:GState) (b:GState) (s22:Int) (k23:Int→Option Bool):Option Bool :=
 br (decide (s22<(lenI a.waiting))) (bnd (ixL a.waiting s22) fun x25 =>
 bnd (ixL b.waiting s22) fun x26 =>
 bnd (r26_SameWaiting x25 x26) fun y27 =>
 br (y27 == false) (some false)
 (k23 (addI s22 1)))
 (loopF (r26_lists_l1 a b) 0)
def r26_lists_l3 (a:GState) (b:GState) (s16:Int) (k17:Int→Option Bool):Option Bool :=
 br (decide (s16<(lenI a.stack))) (bnd (ixL a.stack s16) fun x19 =>
 bnd (ixL b.stack s16) fun x20 =>
 bnd (r26_SameItem x19 x20) fun y21 =>
 br (y21 == false) (some false)
 (k17 (addI s16 1)))
 (loopF (r26_lists_l2 a b) 0)
def r26_lists_l4 (a:GState) (b:GState) (s10:Int) (k11:Int→Option Bool):Option Bool :=
 br (decide (s10<(lenI a.objects))) (bnd (ixL a.objects s10) fun x13 =>
 bnd (ixL b.objects s10) fun x14 =>
 lt ((decide (x13.id=x14.id) && (decide (x13.card=x14.card) && (decide (x13.owner=x14.owner) && (decide (x13.control=x14.control) && (decide (x13.zone=x14.zone) && (x13.token == x14.token && (x13.tapped == x14.tapped && (x13.sick == x14.sick && (x13.deadly == x14.deadly && (decide (x13.damage=x14.damage) && (decide (x13.counters.a0=x14.counters.a0) && (decide (x13.counters.a1=x14.counters.a1) && (decide (x13.counters.a2=x14.counters.a2) && (decide (x13.stamp=x14.stamp) && (decide (x13.copy=x14.copy) && (decide (x13.attack=x14.attack) && (x13.blocked == x14.blocked && (decide (x13.blocks=x14.blocks) && (decide (x13.shield=x14.shield) && true))))))))))))))))))) == false) fun v15 =>
 br v15 (some false)
 (k11 (addI s10 1)))
 (loopF (r26_lists_l3 a b) 0)
def r26_lists_l5 (a:GState) (b:GState) (s4:Int) (k5:Int→Option Bool):Option Bool :=
 br (decide (s4<(lenI a.players))) (bnd (ixL a.players s4) fun x7 =>
 bnd (ixL b.players s4) fun x8 =>
 bnd (r26_SamePlayer x7 x8) fun y9 =>
 br (y9 == false) (some false)
 (k5 (addI s4 1)))
 (loopF (r26_lists_l4 a b) 0)
def r26_lists (a:GState) (b:GState):Option Bool :=
 jn (fun s1:Bool =>
 br s1 (some false)
 (loopF (r26_lists_l5 a b) 0)) fun k2 =>
 br (!decide ((lenI a.players)=(lenI b.players))) (k2 true)
 (br (!decide ((lenI a.objects)=(lenI b.objects))) (k2 true)
 (br (!decide ((lenI a.stack)=(lenI b.stack))) (k2 true)
 (br (!decide ((lenI a.waiting)=(lenI b.waiting))) (k2 true)
 (k2 (!decide ((lenI a.conts)=(lenI b.conts)))))))
def r26_Same (a:GState) (b:GState):Option Bool :=
 jn (fun s1:Bool =>
 br s1 (some false)
 (bnd (r26_lists a b) fun y4 =>
 br y4 (bnd (r03_Same a.battlefield b.battlefield) fun y5 =>
 br y5 (bnd (r03_Same a.exile b.exile) fun y6 =>
 br y6 (bnd (r03_Same a.extra b.extra) fun y7 =>
 some y7)
 (some false))
 (some false))
 (some false))) fun k2 =>
 br (!decide (a.turn=b.turn)) (k2 true)
 (br (!decide (a.active=b.active)) (k2 true)
 (br (!decide (a.step=b.step)) (k2 true)
 (br ((a.begun == b.begun) == false) (k2 true)
 (br (!decide (a.priority=b.priority)) (k2 true)
 (br (!decide (a.passes=b.passes)) (k2 true)
 (br (!decide (a.nextId=b.nextId)) (k2 true)
 (br (!decide (a.nextStamp=b.nextStamp)) (k2 true)
 (br (!decide (a.seed=b.seed)) (k2 true)
 (br (!decide (a.over=b.over)) (k2 true)
 (k2 (!decide (a.winner=b.winner))))))))))))
def r02_low (c:Int):Option Bool :=
 br (decide (97≤c)) (some (decide (c≤122)))
 (some false)
def r02_Is_l1 (s:ByteArray) (s7:Int) (k8:Int→Option Bool):Option Bool :=
 br (decide (s7<(s.size:Int))) (jn (fun s10:Bool =>
 br s10 (some false)
 (jn (fun s19:Bool =>
 br s19 (some false)
 (k8 (addI s7 1))) fun k20 =>
 br (decide (0<s7)) (bnd (sixO s s7) fun x22 =>
 br (decide (x22=45)) (bnd (sixO s (subI s7 1)) fun x23 =>
 k20 (decide (x23=45)))
 (k20 false))
 (k20 false))) fun k11 =>
 bnd (sixO s s7) fun x13 =>
 bnd (r02_low x13) fun y14 =>
 br (y14 == false) (bnd (sixO s s7) fun x15 =>
 br (decide (x15<48)) (bnd (sixO s s7) fun x16 =>
 k11 (!decide (x16=45)))
 (bnd (sixO s s7) fun x17 =>
 br (decide (57<x17)) (bnd (sixO s s7) fun x18 =>
 k11 (!decide (x18=45)))
 (k11 false)))
 (k11 false))
 (some true)
def r02_Is (s:ByteArray):Option Bool :=
 jn (fun s1:Bool =>
 br s1 (some false)
 (loopF (r02_Is_l1 s) 0)) fun k2 =>
 br (decide ((s.size:Int)<1)) (k2 true)
 (br (decide (32<(s.size:Int))) (k2 true)
 (bnd (sixO s 0) fun x4 =>
 bnd (r02_low x4) fun y5 =>
 br (y5 == false) (k2 true)
 (bnd (sixO s (subI (s.size:Int) 1)) fun x6 =>
 k2 (decide (x6=45)))))
def r08_Is_l1 (c:GCost) (s4:Int) (k5:Int→Option Bool):Option Bool :=
 br (decide (s4<5)) (jn (fun s7:Bool =>
 br s7 (some false)
 (k5 (addI s4 1))) fun k8 =>
 sel s4 5 fun j10=>(match j10 with | 0=>(br (decide (c.color.a0<0)) (k8 true) (sel s4 5 fun j11=>(match j11 with | 0=>(k8 (decide (9<c.color.a0)))  | 1=>(k8 (decide (9<c.color.a1)))  | 2=>(k8 (decide (9<c.color.a2)))  | 3=>(k8 (decide (9<c.color.a3)))  | _=>(k8 (decide (9<c.color.a4))) )))  | 1=>(br (decide (c.color.a1<0)) (k8 true) (sel s4 5 fun j12=>(match j12 with | 0=>(k8 (decide (9<c.color.a0)))  | 1=>(k8 (decide (9<c.color.a1)))  | 2=>(k8 (decide (9<c.color.a2)))  | 3=>(k8 (decide (9<c.color.a3)))  | _=>(k8 (decide (9<c.color.a4))) )))  | 2=>(br (decide (c.color.a2<0)) (k8 true) (sel s4 5 fun j13=>(match j13 with | 0=>(k8 (decide (9<c.color.a0)))  | 1=>(k8 (decide (9<c.color.a1)))  | 2=>(k8 (decide (9<c.color.a2)))  | 3=>(k8 (decide (9<c.color.a3)))  | _=>(k8 (decide (9<c.color.a4))) )))  | 3=>(br (decide (c.color.a3<0)) (k8 true) (sel s4 5 fun j14=>(match j14 with | 0=>(k8 (decide (9<c.color.a0)))  | 1=>(k8 (decide (9<c.color.a1)))  | 2=>(k8 (decide (9<c.color.a2)))  | 3=>(k8 (decide (9<c.color.a3)))  | _=>(k8 (decide (9<c.color.a4))) )))  | _=>(br (decide (c.color.a4<0)) (k8 true) (sel s4 5 fun j15=>(match j15 with | 0=>(k8 (decide (9<c.color.a0)))  | 1=>(k8 (decide (9<c.color.a1)))  | 2=>(k8 (decide (9<c.color.a2)))  | 3=>(k8 (decide (9<c.color.a3)))  | _=>(k8 (decide (9<c.color.a4))) ))) ))
 (some true)
def r08_Is (c:GCost):Option Bool :=
 jn (fun s1:Bool =>
 br s1 (some false)
 (loopF (r08_Is_l1 c) 0)) fun k2 =>
 br (decide (c.generic<0)) (k2 true)
 (br (decide (99<c.generic)) (k2 true)
 (br (decide (c.x<0)) (k2 true)
 (k2 (decide (2<c.x)))))
def r10_index_l1 (l:List ByteArray) (s:ByteArray) (s1:Int) (k2:Int→Option Int):Option Int :=
 br (decide (s1<(lenI l))) (bnd (ixL l s1) fun x4 =>
 br (stdScmp .eql x4 s) (some s1)
 (k2 (addI s1 1)))
 (some (-1))
def r10_index (l:List ByteArray) (s:ByteArray):Option Int :=
 loopF (r10_index_l1 l s) 0
def r10_superWords  : Option (List ByteArray) :=
 some ([(bs [98,97,115,105,99]),(bs [117,110,105,113,117,101])])
def r10_typeWords  : Option (List ByteArray) :=
 some ([(bs [99,114,101,97,116,117,114,101]),(bs [105,110,115,116,97,110,116]),(bs [114,105,116,117,97,108]),(bs [114,101,108,105,99]),(bs [99,104,97,114,109]),(bs [108,97,110,100])])
def r10_IsSub (s:ByteArray):Option Bool :=
 bnd (r02_Is s) fun y1 =>
 br y1 (bnd (r10_superWords) fun y2 =>
 bnd (r10_index y2 s) fun y3 =>
 br (decide (y3<0)) (bnd (r10_typeWords) fun y4 =>
 bnd (r10_index y4 s) fun y5 =>
 some (decide (y5<0)))
 (some false))
 (some false)
def r10_bit_l1 (i:Int) (s1:Int × Int) (k2:(Int × Int)→Option Bool):Option Bool :=
 br (decide (s1.2<i)) (bnd (divO .quo .i64 s1.1 2) fun x4 =>
 k2 (x4,(addI s1.2 1)))
 (bnd (divO .rem .i64 s1.1 2) fun x5 =>
 some (decide (x5=1)))
def r10_bit (mask:Int) (i:Int):Option Bool :=
 loopF (r10_bit_l1 i) (mask,0)
def r10_Is_l1 (l:GLine) (s4:Int) (k5:Int→Option Bool):Option Bool :=
 br (decide (s4<(lenI l.subs))) (jn (fun s7:Bool =>
 br s7 (some false)
 (k5 (addI s4 1))) fun k8 =>
 bnd (ixL l.subs s4) fun x10 =>
 bnd (r10_IsSub x10) fun y11 =>
 br (y11 == false) (k8 true)
 (br (decide (0<s4)) (bnd (ixL l.subs (subI s4 1)) fun x12 =>
 bnd (ixL l.subs s4) fun x13 =>
 k8 (stdScmp .geq x12 x13))
 (k8 false)))
 (br (decide (l.types=2)) (some true)
 (br (decide (l.types=4)) (some true)
 (bnd (r10_bit l.types 1) fun y14 =>
 br (y14 == false) (bnd (r10_bit l.types 2) fun y15 =>
 some (y15 == false))
 (some false))))
def r10_Is (l:GLine):Option Bool :=
 jn (fun s1:Bool =>
 br s1 (some false)
 (loopF (r10_Is_l1 l) 0)) fun k2 =>
 br (decide (l.super<0)) (k2 true)
 (br (decide (3<l.super)) (k2 true)
 (br (decide (l.types<1)) (k2 true)
 (br (decide (63<l.types)) (k2 true)
 (k2 (decide (4<(lenI l.subs)))))))
def r11_Is (mask:Int):Option Bool :=
 br (decide (0≤mask)) (some (decide (mask≤131071)))
 (some false)
def r21_creature (c:GCard):Option Bool :=
 some (!decide ((stdBin .and .i64 c.line.types 1)=0))
def r13_apart_l1  (s4:Int × Int × Int) (k5:(Int × Int × Int)→Option Bool):Option Bool :=
 br (decide (s4.2.2<6)) (jn (fun s7:Bool =>
 br s7 (some false)
 (bnd (divO .quo .i64 s4.1 2) fun x12 =>
 bnd (divO .quo .i64 s4.2.1 2) fun x13 =>
 k5 (x12,x13,(addI s4.2.2 1)))) fun k8 =>
 bnd (divO .rem .i64 s4.1 2) fun x10 =>
 br (decide (x10=1)) (bnd (divO .rem .i64 s4.2.1 2) fun x11 =>
 k8 (decide (x11=1)))
 (k8 false))
 (some true)
def r13_apart (a:Int) (b:Int) (most:Int):Option Bool :=
 jn (fun s1:Bool =>
 br s1 (some false)
 (loopF (r13_apart_l1) (a,b,0))) fun k2 =>
 br (decide (a<0)) (k2 true)
 (br (decide (most<a)) (k2 true)
 (br (decide (b<0)) (k2 true)
 (k2 (decide (most<b)))))
def r13_bound (b:GBound):Option Bool :=
 jn (fun s1:Bool =>
 br s1 (some false)
 (br (!decide (b.kind=0)) (some true)
 (some (decide (b.n=0))))) fun k2 =>
 br (decide (b.kind<0)) (k2 true)
 (br (decide (3<b.kind)) (k2 true)
 (br (decide (b.n<0)) (k2 true)
 (k2 (decide (1000000<b.n)))))
def r13_Is (f:GFilter):Option Bool :=
 jn (fun s1:Bool =>
 br s1 (some false)
 (jn (fun s4:Bool =>
 br s4 (some false)
 (jn (fun s9:Bool =>
 br s9 (some false)
 (bnd (r13_bound f.power) fun y13 =>
 br y13 (bnd (r13_bound f.tough) fun y14 =>
 br y14 (bnd (r13_bound f.value) fun y15 =>
 some y15)
 (some false))
 (some false))) fun k10 =>
 br (stdScmp .neq f.sub (bs [])) (bnd (r10_IsSub f.sub) fun y12 =>
 br (y12 == false) (k10 true)
 (br (decide (f.keys<0)) (k10 true)
 (k10 (decide (131071<f.keys)))))
 (br (decide (f.keys<0)) (k10 true)
 (k10 (decide (131071<f.keys)))))) fun k5 =>
 bnd (r13_apart f.types f.notTypes 63) fun y7 =>
 br (y7 == false) (k5 true)
 (bnd (r13_apart f.colors f.notColors 31) fun y8 =>
 k5 (y8 == false)))) fun k2 =>
 br (decide (f.zone<0)) (k2 true)
 (br (decide (5<f.zone)) (k2 true)
 (br (decide (f.who<0)) (k2 true)
 (br (decide (2<f.who)) (k2 true)
 (br (decide (f.self<0)) (k2 true)
 (br (decide (2<f.self)) (k2 true)
 (br (decide (f.tap<0)) (k2 true)
 (k2 (decide (2<f.tap)))))))))
def r15_used (m:GMod):Option GMod :=
 br (decide (m.kind=2)) (some { m with kind:=0,n:=0 })
 (br (decide (m.kind=3)) (some { m with kind:=0,n:=0 })
 (br (decide (m.kind=6)) (some { m with kind:=0,n:=0 })
 (br (decide (m.kind=7)) (some { m with kind:=0,n:=0 })
 (br (decide (m.kind=8)) (some { m with kind:=0,n:=0 })
 (br (decide (m.kind=9)) (some { m with kind:=0,n:=0 })
 (br (decide (m.kind=4)) (some { m with kind:=0,sub:=(bs []) })
 (br (decide (m.kind=5)) (some { m with kind:=0,sub:=(bs []) })
 (br (decide (m.kind=11)) (some { m with kind:=0,filter:=zGFilter })
 (br (decide (m.kind=12)) (some (GMod.mk 0 0 0 m.sub m.filter))
 (br (decide (m.kind=13)) (some (GMod.mk 0 0 0 m.sub m.filter))
 (some { m with kind:=0 })))))))))))
def r15_types (mask:Int):Option Bool :=
 br (decide (1≤mask)) (br (decide (mask≤63)) (some (decide ((stdBin .and .i64 mask 6)=0)))
 (some false))
 (some false)
def r15_Is (m:GMod):Option Bool :=
 jn (fun s1:Bool =>
 br s1 (some false)
 (br (decide (m.kind=2)) (bnd (r15_types m.n) fun y6 =>
 some y6)
 (br (decide (m.kind=3)) (bnd (r15_types m.n) fun y7 =>
 some y7)
 (br (decide (m.kind=4)) (bnd (r10_IsSub m.sub) fun y8 =>
 some y8)
 (br (decide (m.kind=5)) (bnd (r10_IsSub m.sub) fun y9 =>
 some y9)
 (br (decide (m.kind=6)) (br (decide (0≤m.n)) (some (decide (m.n≤31)))
 (some false))
 (br (decide (m.kind=7)) (br (decide (1≤m.n)) (some (decide (m.n≤31)))
 (some false))
 (br (decide (m.kind=8)) (br (decide (1≤m.n)) (some (decide (m.n≤131071)))
 (some false))
 (br (decide (m.kind=9)) (br (decide (1≤m.n)) (some (decide (m.n≤131071)))
 (some false))
 (br (decide (m.kind=11)) (bnd (r13_Is m.filter) fun y10 =>
 some y10)
 (br (decide (m.kind=12)) (br (decide (0≤m.n)) (br (decide (m.n≤99)) (br (decide (0≤m.m)) (some (decide (m.m≤99)))
 (some false))
 (some false))
 (some false))
 (br (decide (m.kind=13)) (br (decide ((-99)≤m.n)) (br (decide (m.n≤99)) (br (decide ((-99)≤m.m)) (some (decide (m.m≤99)))
 (some false))
 (some false))
 (some false))
 (some true))))))))))))) fun k2 =>
 br (decide (m.kind<1)) (k2 true)
 (br (decide (14<m.kind)) (k2 true)
 (bnd (r15_used m) fun y4 =>
 lt ((decide (y4.kind=0) && (decide (y4.n=0) && (decide (y4.m=0) && (stdScmp .eql y4.sub (bs []) && (decide (y4.filter.zone=0) && (decide (y4.filter.who=0) && (decide (y4.filter.self=0) && (decide (y4.filter.types=0) && (decide (y4.filter.notTypes=0) && (decide (y4.filter.colors=0) && (decide (y4.filter.notColors=0) && (stdScmp .eql y4.filter.sub (bs []) && (decide (y4.filter.keys=0) && (decide (y4.filter.tap=0) && (decide (y4.filter.power.kind=0) && (decide (y4.filter.power.n=0) && (decide (y4.filter.tough.kind=0) && (decide (y4.filter.tough.n=0) && (decide (y4.filter.value.kind=0) && (decide (y4.filter.value.n=0) && true)))))))))))))))))))) == false) fun v5 =>
 k2 v5))
def r10_joined_l1 (l:List ByteArray) (mask:Int) (pby:ByteArray) (s1:ByteArray × Int) (k2:(ByteArray × Int)→Option ByteArray):Option ByteArray :=
 br (decide (s1.2<(lenI l))) (jn (fun s4:ByteArray =>
 k2 (s4,(addI s1.2 1))) fun k5 =>
 bnd (r10_bit mask s1.2) fun y7 =>
 br y7 (jn (fun s8:ByteArray =>
 bnd (ixL l s1.2) fun x12 =>
 bnd (catO s8 x12) fun x13 =>
 k5 x13) fun k9 =>
 br (stdScmp .neq s1.1 (bs [])) (bnd (catO s1.1 pby) fun x11 =>
 k9 x11)
 (k9 s1.1))
 (k5 s1.1))
 (some s1.1)
def r10_joined (l:List ByteArray) (mask:Int) (pby:ByteArray):Option ByteArray :=
 loopF (r10_joined_l1 l mask pby) ((bs []),0)
def r10_TypesText (mask:Int):Option ByteArray :=
 br (decide (mask<1)) (some (bs []))
 (br (decide (63<mask)) (some (bs []))
 (bnd (r10_typeWords) fun y1 =>
 bnd (r10_joined y1 mask (bs [43])) fun y2 =>
 some y2))
def r09_Is (mask:Int):Option Bool :=
 br (decide (0≤mask)) (some (decide (mask≤31)))
 (some false)
def r09_Name (i:Int):Option ByteArray :=
 br (decide (i=0)) (some (bs [97,109,98,101,114]))
 (br (decide (i=1)) (some (bs [99,111,98,97,108,116]))
 (br (decide (i=2)) (some (bs [106,101,116]))
 (br (decide (i=3)) (some (bs [114,117,98,121]))
 (br (decide (i=4)) (some (bs [101,109,101,114,97,108,100]))
 (some (bs []))))))
def r09_Text_l1 (mask:Int) (s2:ByteArray × Int) (k3:(ByteArray × Int)→Option ByteArray):Option ByteArray :=
 br (decide (s2.2<5)) (jn (fun s5:ByteArray =>
 k3 (s5,(addI s2.2 1))) fun k6 =>
 bnd (shfO .shl .i64 1 s2.2) fun x8 =>
 bnd (divO .quo .i64 mask x8) fun x9 =>
 bnd (divO .rem .i64 x9 2) fun x10 =>
 br (decide (x10=1)) (jn (fun s11:ByteArray =>
 bnd (r09_Name s2.2) fun y15 =>
 bnd (catO s11 y15) fun x16 =>
 k6 x16) fun k12 =>
 br (stdScmp .neq s2.1 (bs [])) (bnd (catO s2.1 (bs [43])) fun x14 =>
 k12 x14)
 (k12 s2.1))
 (k6 s2.1))
 (some s2.1)
def r09_Text (mask:Int):Option ByteArray :=
 bnd (r09_Is mask) fun y1 =>
 br (y1 == false) (some (bs []))
 (br (decide (mask=0)) (some (bs [110,111,110,101]))
 (loopF (r09_Text_l1 mask) ((bs []),0)))
def r11_names  : Option (List ByteArray) :=
 some ([(bs [102,108,121,105,110,103]),(bs [114,101,97,99,104]),(bs [104,97,115,116,101]),(bs [118,105,103,105,108,97,110,116]),(bs [116,114,97,109,112,108,101]),(bs [102,105,114,115,116,45,115,116,114,105,107,101]),(bs [100,111,117,98,108,101,45,115,116,114,105,107,101]),(bs [100,101,97,100,108,121]),(bs [108,105,102,101,108,105,110,107]),(bs [109,101,110,97,99,101]),(bs [100,101,102,101,110,100,101,114]),(bs [119,97,114,100,101,100]),(bs [115,116,117,114,100,121]),(bs [101,108,117,115,105,118,101]),(bs [110,111,45,97,116,116,97,99,107]),(bs [110,111,45,98,108,111,99,107]),(bs [109,117,115,116,45,97,116,116,97,99,107])])
def r11_Name (i:Int):Option ByteArray :=
 br (decide (i<0)) (some (bs []))
 (br (decide (16<i)) (some (bs []))
 (bnd (r11_names) fun y1 =>
 bnd (ixL y1 i) fun x2 =>
 some x2))
def r11_Text_l1  (s2:Int × ByteArray × Int) (k3:(Int × ByteArray × Int)→Option ByteArray):Option ByteArray :=
 br (decide (s2.2.2<17)) (jn (fun s5:Int × ByteArray =>
 k3 (s5.1,s5.2,(addI s2.2.2 1))) fun k6 =>
 jn (fun s8:ByteArray =>
 bnd (divO .quo .i64 s2.1 2) fun x18 =>
 k6 (x18,s8)) fun k9 =>
 bnd (divO .rem .i64 s2.1 2) fun x11 =>
 br (decide (x11=1)) (jn (fun s12:ByteArray =>
 bnd (r11_Name s2.2.2) fun y16 =>
 bnd (catO s12 y16) fun x17 =>
 k9 x17) fun k13 =>
 br (stdScmp .neq s2.2.1 (bs [])) (bnd (catO s2.2.1 (bs [43])) fun x15 =>
 k13 x15)
 (k13 s2.2.1))
 (k9 s2.2.1))
 (br (stdScmp .eql s2.2.1 (bs [])) (some (bs [110,111,110,101]))
 (some s2.2.1))
def r11_Text (mask:Int):Option ByteArray :=
 bnd (r11_Is mask) fun y1 =>
 br (y1 == false) (some (bs []))
 (loopF (r11_Text_l1) (mask,(bs []),0))
def r13_zoneWords  : Option (List ByteArray) :=
 some ([(bs []),(bs [105,110,45,104,97,110,100]),(bs [105,110,45,108,105,98,114,97,114,121]),(bs [105,110,45,103,114,97,118,101,121,97,114,100]),(bs [105,110,45,101,120,105,108,101]),(bs [111,110,45,115,116,97,99,107])])
def r13_whoWords  : Option (List ByteArray) :=
 some ([(bs []),(bs [121,111,117,114,115]),(bs [116,104,101,105,114,115])])
def r13_selfWords  : Option (List ByteArray) :=
 some ([(bs []),(bs [115,101,108,102]),(bs [111,116,104,101,114])])
def r13_tapWords  : Option (List ByteArray) :=
 some ([(bs []),(bs [116,97,112,112,101,100]),(bs [117,110,116,97,112,112,101,100])])
def r13_add (l:List ByteArray) (s:ByteArray):Option (List ByteArray) :=
 br (stdScmp .eql s (bs [])) (some l)
 (roomO (l.length+([s]).length) 16 (
 some (l ++ [s])))
def r13_bit_l1 (i:Int) (s1:Int × Int) (k2:(Int × Int)→Option Bool):Option Bool :=
 br (decide (s1.2<i)) (bnd (divO .quo .i64 s1.1 2) fun x4 =>
 k2 (x4,(addI s1.2 1)))
 (bnd (divO .rem .i64 s1.1 2) fun x5 =>
 some (decide (x5=1)))
def r13_bit (mask:Int) (i:Int):Option Bool :=
 loopF (r13_bit_l1 i) (mask,0)
def r13_typeWord_l1 (i:Int) (s1:Int × Int) (k2:(Int × Int)→Option ByteArray):Option ByteArray :=
 br (decide (s1.2<i)) (k2 ((mulI s1.1 2),(addI s1.2 1)))
 (bnd (r10_TypesText s1.1) fun y4 =>
 some y4)
def r13_typeWord (i:Int):Option ByteArray :=
 loopF (r13_typeWord_l1 i) (1,0)
def r01_digits_l1  (s4:Int × ByteArray) (k5:(Int × ByteArray)→Option ByteArray):Option ByteArray :=
 br (decide (0<s4.1)) (bnd (divO .rem .u64 s4.1 10) fun x7 =>
 bnd (strO ([(IntKind.wrap .u8 (stdBin .add .u64 48 x7))])) fun x8 =>
 bnd (catO x8 s4.2) fun x9 =>
 bnd (divO .quo .u64 s4.1 10) fun x10 =>
 k5 (x10,x9))
 (some s4.2)
def r01_digits (u:Int):Option ByteArray :=
 bnd (divO .rem .u64 u 10) fun x1 =>
 bnd (strO ([(IntKind.wrap .u8 (stdBin .add .u64 48 x1))])) fun x2 =>
 bnd (divO .quo .u64 u 10) fun x3 =>
 loopF (r01_digits_l1) (x3,x2)
def r01_Text (n:Int):Option ByteArray :=
 br (decide (n<0)) (bnd (r01_digits (IntKind.wrap .u64 (0 - (IntKind.wrap .u64 n)))) fun y1 =>
 bnd (catO (bs [45]) y1) fun x2 =>
 some x2)
 (bnd (r01_digits (IntKind.wrap .u64 n)) fun y3 =>
 some y3)
def r13_signs  : Option (List ByteArray) :=
 some ([(bs []),(bs [62,61]),(bs [60,61]),(bs [61])])
def r13_boundWord (name:ByteArray) (b:GBound):Option ByteArray :=
 br (decide (b.kind=0)) (some (bs []))
 (bnd (r13_signs) fun y1 =>
 bnd (ixL y1 b.kind) fun x2 =>
 bnd (catO name x2) fun x3 =>
 bnd (r01_Text b.n) fun y4 =>
 bnd (catO x3 y4) fun x5 =>
 some x5)
def r02_Join_l1 (l:List ByteArray) (pby:ByteArray) (s1:ByteArray × Int) (k2:(ByteArray × Int)→Option ByteArray):Option ByteArray :=
 br (decide (s1.2<(lenI l))) (jn (fun s4:ByteArray =>
 k2 (s4,(addI s1.2 1))) fun k5 =>
 jn (fun s7:ByteArray =>
 bnd (ixL l s1.2) fun x11 =>
 bnd (catO s7 x11) fun x12 =>
 k5 x12) fun k8 =>
 br (decide (0<s1.2)) (bnd (catO s1.1 pby) fun x10 =>
 k8 x10)
 (k8 s1.1))
 (some s1.1)
def r02_Join (l:List ByteArray) (pby:ByteArray):Option ByteArray :=
 loopF (r02_Join_l1 l pby) ((bs []),0)
def r13_Text_l1 (f:GFilter) (y5:List ByteArray) (s50:Int × (List ByteArray)) (k51:(Int × (List ByteArray))→Option ByteArray):Option ByteArray :=
 br (decide (s50.1<17)) (jn (fun s53:(List ByteArray) =>
 k51 ((addI s50.1 1),s53)) fun k54 =>
 bnd (r13_bit f.keys s50.1) fun y56 =>
 br y56 (bnd (r11_Name s50.1) fun y57 =>
 bnd (catO (bs [119,105,116,104,58]) y57) fun x58 =>
 roomO (s50.2.length+([x58]).length) 16 (
 k54 (s50.2 ++ [x58])))
 (k54 s50.2))
 (bnd (ixL y5 f.tap) fun x59 =>
 bnd (r13_add s50.2 x59) fun y60 =>
 bnd (r13_boundWord (bs [112,111,119,101,114]) f.power) fun y61 =>
 bnd (r13_add y60 y61) fun y62 =>
 bnd (r13_boundWord (bs [116,111,117,103,104]) f.tough) fun y63 =>
 bnd (r13_add y62 y63) fun y64 =>
 bnd (r13_boundWord (bs [118,97,108,117,101]) f.value) fun y65 =>
 bnd (r13_add y64 y65) fun y66 =>
 br (decide ((lenI y66)=0)) (some (bs [97,110,121]))
 (bnd (r02_Join y66 (bs [32])) fun y67 =>
 some y67))
def r13_Text_l2 (f:GFilter) (y5:List ByteArray) (s37:Int × (List ByteArray)) (k38:(Int × (List ByteArray))→Option ByteArray):Option ByteArray :=
 br (decide (s37.1<5)) (jn (fun s40:(List ByteArray) =>
 k38 ((addI s37.1 1),s40)) fun k41 =>
 bnd (r13_bit f.notColors s37.1) fun y43 =>
 br y43 (bnd (r09_Name s37.1) fun y44 =>
 bnd (catO (bs [110,111,110,45]) y44) fun x45 =>
 roomO (s37.2.length+([x45]).length) 16 (
 k41 (s37.2 ++ [x45])))
 (k41 s37.2))
 (jn (fun s46:(List ByteArray) =>
 loopF (r13_Text_l1 f y5) (0,s46)) fun k47 =>
 br (stdScmp .neq f.sub (bs [])) (bnd (catO (bs [115,117,98,58]) f.sub) fun x49 =>
 roomO (s37.2.length+([x49]).length) 16 (
 k47 (s37.2 ++ [x49])))
 (k47 s37.2))
def r13_Text_l3 (f:GFilter) (y5:List ByteArray) (s29:Int × (List ByteArray)) (k30:(Int × (List ByteArray))→Option ByteArray):Option ByteArray :=
 br (decide (s29.1<5)) (jn (fun s32:(List ByteArray) =>
 k30 ((addI s29.1 1),s32)) fun k33 =>
 bnd (r13_bit f.colors s29.1) fun y35 =>
 br y35 (bnd (r09_Name s29.1) fun y36 =>
 roomO (s29.2.length+([y36]).length) 16 (
 k33 (s29.2 ++ [y36])))
 (k33 s29.2))
 (loopF (r13_Text_l2 f y5) (0,s29.2))
def r13_Text_l4 (f:GFilter) (y5:List ByteArray) (s20:Int × (List ByteArray)) (k21:(Int × (List ByteArray))→Option ByteArray):Option ByteArray :=
 br (decide (s20.1<6)) (jn (fun s23:(List ByteArray) =>
 k21 ((addI s20.1 1),s23)) fun k24 =>
 bnd (r13_bit f.notTypes s20.1) fun y26 =>
 br y26 (bnd (r13_typeWord s20.1) fun y27 =>
 bnd (catO (bs [110,111,110,45]) y27) fun x28 =>
 roomO (s20.2.length+([x28]).length) 16 (
 k24 (s20.2 ++ [x28])))
 (k24 s20.2))
 (loopF (r13_Text_l3 f y5) (0,s20.2))
def r13_Text_l5 (f:GFilter) (y5:List ByteArray) (s12:Int × (List ByteArray)) (k13:(Int × (List ByteArray))→Option ByteArray):Option ByteArray :=
 br (decide (s12.1<6)) (jn (fun s15:(List ByteArray) =>
 k13 ((addI s12.1 1),s15)) fun k16 =>
 bnd (r13_bit f.types s12.1) fun y18 =>
 br y18 (bnd (r13_typeWord s12.1) fun y19 =>
 roomO (s12.2.length+([y19]).length) 16 (
 k16 (s12.2 ++ [y19])))
 (k16 s12.2))
 (loopF (r13_Text_l4 f y5) (0,s12.2))
def r13_Text (f:GFilter):Option ByteArray :=
 bnd (r13_Is f) fun y1 =>
 br (y1 == false) (some (bs []))
 (bnd (r13_zoneWords) fun y2 =>
 bnd (r13_whoWords) fun y3 =>
 bnd (r13_selfWords) fun y4 =>
 bnd (r13_tapWords) fun y5 =>
 bnd (ixL y2 f.zone) fun x6 =>
 bnd (r13_add ([]) x6) fun y7 =>
 bnd (ixL y3 f.who) fun x8 =>
 bnd (r13_add y7 x8) fun y9 =>
 bnd (ixL y4 f.self) fun x10 =>
 bnd (r13_add y9 x10) fun y11 =>
 loopF (r13_Text_l5 f y5) (0,y11))
def r15_Text (m:GMod):Option ByteArray :=
 bnd (r15_Is m) fun y1 =>
 br (y1 == false) (some (bs []))
 (br (decide (m.kind=1)) (some (bs [99,111,110,116,114,111,108]))
 (br (decide (m.kind=2)) (bnd (r10_TypesText m.n) fun y2 =>
 bnd (catO (bs [116,121,112,101,115,61]) y2) fun x3 =>
 some x3)
 (br (decide (m.kind=3)) (bnd (r10_TypesText m.n) fun y4 =>
 bnd (catO (bs [116,121,112,101,115,43,61]) y4) fun x5 =>
 some x5)
 (br (decide (m.kind=4)) (bnd (catO (bs [115,117,98,61]) m.sub) fun x6 =>
 some x6)
 (br (decide (m.kind=5)) (bnd (catO (bs [115,117,98,43,61]) m.sub) fun x7 =>
 some x7)
 (br (decide (m.kind=6)) (bnd (r09_Text m.n) fun y8 =>
 bnd (catO (bs [99,111,108,111,114,115,61]) y8) fun x9 =>
 some x9)
 (br (decide (m.kind=7)) (bnd (r09_Text m.n) fun y10 =>
 bnd (catO (bs [99,111,108,111,114,115,43,61]) y10) fun x11 =>
 some x11)
 (br (decide (m.kind=8)) (bnd (r11_Text m.n) fun y12 =>
 bnd (catO (bs [107,101,121,115,43,61]) y12) fun x13 =>
 some x13)
 (br (decide (m.kind=9)) (bnd (r11_Text m.n) fun y14 =>
 bnd (catO (bs [107,101,121,115,45,61]) y14) fun x15 =>
 some x15)
 (br (decide (m.kind=10)) (some (bs [98,108,97,110,107]))
 (br (decide (m.kind=11)) (bnd (r13_Text m.filter) fun y16 =>
 bnd (catO (bs [112,116,61,99,111,117,110,116,40]) y16) fun x17 =>
 bnd (catO x17 (bs [41])) fun x18 =>
 some x18)
 (br (decide (m.kind=12)) (bnd (r01_Text m.n) fun y19 =>
 bnd (catO (bs [112,116,61]) y19) fun x20 =>
 bnd (catO x20 (bs [47])) fun x21 =>
 bnd (r01_Text m.m) fun y22 =>
 bnd (catO x21 y22) fun x23 =>
 some x23)
 (br (decide (m.kind=13)) (bnd (r01_Text m.n) fun y24 =>
 bnd (catO (bs [112,116,43,61]) y24) fun x25 =>
 bnd (catO x25 (bs [47])) fun x26 =>
 bnd (r01_Text m.m) fun y27 =>
 bnd (catO x26 y27) fun x28 =>
 some x28)
 (some (bs [112,116,45,115,119,105,116,99,104])))))))))))))))
def r15_ListText_l1 (l:List GMod) (s4:ByteArray × Int) (k5:(ByteArray × Int)→Option ByteArray):Option ByteArray :=
 br (decide (s4.2<(lenI l))) (jn (fun s7:ByteArray =>
 k5 (s7,(addI s4.2 1))) fun k8 =>
 bnd (ixL l s4.2) fun x10 =>
 bnd (r15_Is x10) fun y11 =>
 br (y11 == false) (some (bs []))
 (jn (fun s12:ByteArray =>
 bnd (ixL l s4.2) fun x16 =>
 bnd (r15_Text x16) fun y17 =>
 bnd (catO s12 y17) fun x18 =>
 k8 x18) fun k13 =>
 br (decide (0<s4.2)) (bnd (catO s4.1 (bs [44,32])) fun x15 =>
 k13 x15)
 (k13 s4.1)))
 (some s4.1)
def r15_ListText (l:List GMod):Option ByteArray :=
 jn (fun s1:Bool =>
 br s1 (some (bs []))
 (loopF (r15_ListText_l1 l) ((bs []),0))) fun k2 =>
 br (decide ((lenI l)=0)) (k2 true)
 (k2 (decide (6<(lenI l))))
def r20_price (p:GPrice):Option Bool :=
 bnd (r08_Is p.mana) fun y1 =>
 br y1 (br (decide (p.mana.x=0)) (br (decide (0≤p.life)) (some (decide (p.life≤99)))
 (some false))
 (some false))
 (some false)
def r18_word (when:Int):Option ByteArray :=
 br (decide (when=1)) (some (bs [101,110,116,101,114,115]))
 (br (decide (when=2)) (some (bs [108,101,97,118,101,115]))
 (br (decide (when=3)) (some (bs [100,105,101,115]))
 (br (decide (when=4)) (some (bs [97,116,116,97,99,107,115]))
 (br (decide (when=5)) (some (bs [98,108,111,99,107,115]))
 (br (decide (when=6)) (some (bs [100,101,97,108,115]))
 (br (decide (when=7)) (some (bs [100,101,97,108,116]))
 (br (decide (when=8)) (some (bs [100,114,97,119,115]))
 (br (decide (when=9)) (some (bs [99,97,115,116,115]))
 (br (decide (when=10)) (some (bs [117,112,107,101,101,112]))
 (br (decide (when=11)) (some (bs [101,110,100]))
 (br (decide (when=12)) (some (bs [103,97,105,110,115]))
 (br (decide (when=13)) (some (bs [108,111,115,101,115]))
 (br (decide (when=14)) (some (bs [112,108,97,99,101,100]))
 (some (bs [])))))))))))))))
def r18_hasWho (when:Int):Option Bool :=
 br (decide (when=8)) (some true)
 (br (decide (when=9)) (some true)
 (br (decide (when=10)) (some true)
 (br (decide (when=11)) (some true)
 (br (decide (when=12)) (some true)
 (some (decide (when=13)))))))
def r18_hasFilter (when:Int):Option Bool :=
 bnd (r18_word when) fun y1 =>
 br (stdScmp .neq y1 (bs [])) (bnd (r18_hasWho when) fun y2 =>
 br (y2 == false) (some true)
 (some (decide (when=9))))
 (some false)
def r18_Is (t:GTrigger):Option Bool :=
 jn (fun s1:Bool =>
 br s1 (some false)
 (bnd (r18_hasFilter t.when) fun y6 =>
 br (y6 == false) (lt (decide (t.filter.zone=0) && (decide (t.filter.who=0) && (decide (t.filter.self=0) && (decide (t.filter.types=0) && (decide (t.filter.notTypes=0) && (decide (t.filter.colors=0) && (decide (t.filter.notColors=0) && (stdScmp .eql t.filter.sub (bs []) && (decide (t.filter.keys=0) && (decide (t.filter.tap=0) && (decide (t.filter.power.kind=0) && (decide (t.filter.power.n=0) && (decide (t.filter.tough.kind=0) && (decide (t.filter.tough.n=0) && (decide (t.filter.value.kind=0) && (decide (t.filter.value.n=0) && true)))))))))))))))) fun v7 =>
 some v7)
 (jn (fun s8:Int =>
 bnd (r13_Is t.filter) fun y11 =>
 br y11 (some (decide (t.filter.zone=s8)))
 (some false)) fun k9 =>
 br (decide (t.when=9)) (k9 5)
 (k9 0)))) fun k2 =>
 bnd (r18_word t.when) fun y4 =>
 br (stdScmp .eql y4 (bs [])) (k2 true)
 (br (decide (t.who<0)) (k2 true)
 (br (decide (2<t.who)) (k2 true)
 (bnd (r18_hasWho t.when) fun y5 =>
 br (y5 == false) (k2 (!decide (t.who=0)))
 (k2 false))))
def r19_field (f:GFilter):Option Bool :=
 bnd (r13_Is f) fun y1 =>
 br y1 (some (decide (f.zone=0)))
 (some false)
def r19_moves (pr:GReplace):Option Bool :=
 jn (fun s1:Bool =>
 br s1 (some false)
 (br (decide (pr.doF=5)) (br (decide (pr.n=0)) (br (decide (pr.counter=0)) (br (decide (pr.zone=1)) (some true)
 (br (decide (pr.zone=2)) (some true)
 (some (decide (pr.zone=4)))))
 (some false))
 (some false))
 (br (decide (pr.doF=6)) (br (decide (pr.n=0)) (br (decide (pr.counter=0)) (some (decide (pr.zone=0)))
 (some false))
 (some false))
 (br (decide (pr.doF=7)) (br (decide (pr.zone=0)) (br (decide (1≤pr.n)) (br (decide (pr.n≤99)) (br (decide (0≤pr.counter)) (some (decide (pr.counter<3)))
 (some false))
 (some false))
 (some false))
 (some false))
 (some false))))) fun k2 =>
 br (!decide (pr.who=0)) (k2 true)
 (bnd (r19_field pr.filter) fun y4 =>
 k2 (y4 == false))
def r19_plain (pr:GReplace):Option Bool :=
 jn (fun s1:Bool =>
 br s1 (some false)
 (jn (fun s4:Bool =>
 br s4 (br (decide (1≤pr.n)) (some (decide (pr.n≤99)))
 (some false))
 (some (decide (pr.n=0)))) fun k5 =>
 br (decide (pr.doF=2)) (k5 true)
 (k5 (decide (pr.doF=4))))) fun k2 =>
 br (!decide (pr.zone=0)) (k2 true)
 (k2 (!decide (pr.counter=0)))
def r19_Is (pr:GReplace):Option Bool :=
 br (decide (pr.on=2)) (bnd (r19_moves pr) fun y1 =>
 some y1)
 (bnd (r19_plain pr) fun y2 =>
 br (y2 == false) (some false)
 (lt (decide (pr.filter.zone=0) && (decide (pr.filter.who=0) && (decide (pr.filter.self=0) && (decide (pr.filter.types=0) && (decide (pr.filter.notTypes=0) && (decide (pr.filter.colors=0) && (decide (pr.filter.notColors=0) && (stdScmp .eql pr.filter.sub (bs []) && (decide (pr.filter.keys=0) && (decide (pr.filter.tap=0) && (decide (pr.filter.power.kind=0) && (decide (pr.filter.power.n=0) && (decide (pr.filter.tough.kind=0) && (decide (pr.filter.tough.n=0) && (decide (pr.filter.value.kind=0) && (decide (pr.filter.value.n=0) && true)))))))))))))))) fun v3 =>
 jn (fun s4:Bool × Bool =>
 br (decide (pr.on=1)) (jn (fun s7:Bool =>
 br s7 (some false)
 (br (decide (pr.who=0)) (bnd (r19_field pr.filter) fun y10 =>
 br y10 (some true)
 (br (decide (pr.who=1)) (some s4.1)
 (br (decide (pr.who=2)) (some s4.1)
 (some false))))
 (br (decide (pr.who=1)) (some s4.1)
 (br (decide (pr.who=2)) (some s4.1)
 (some false))))) fun k8 =>
 br (!decide (pr.doF=1)) (br (!decide (pr.doF=2)) (br (!decide (pr.doF=3)) (k8 (!decide (pr.doF=4)))
 (k8 false))
 (k8 false))
 (k8 false))
 (br (decide (pr.on=8)) (br s4.2 (br (decide (pr.who=0)) (bnd (r19_field pr.filter) fun y11 =>
 some y11)
 (some false))
 (some false))
 (br (decide (pr.on=3)) (br (decide (pr.doF=4)) (br (decide (0≤pr.who)) (br (decide (pr.who≤2)) (some s4.1)
 (some false))
 (some false))
 (br (decide (pr.doF=8)) (br (decide (0≤pr.who)) (br (decide (pr.who≤2)) (some s4.1)
 (some false))
 (some false))
 (some false)))
 (br (decide (pr.on=4)) (br s4.2 (br (decide (0≤pr.who)) (br (decide (pr.who≤2)) (some s4.1)
 (some false))
 (some false))
 (some false))
 (br (decide (pr.on=5)) (br s4.2 (br (decide (0≤pr.who)) (br (decide (pr.who≤2)) (some s4.1)
 (some false))
 (some false))
 (some false))
 (br (decide (pr.on=10)) (br s4.2 (br (decide (0≤pr.who)) (br (decide (pr.who≤2)) (some s4.1)
 (some false))
 (some false))
 (some false))
 (some false))))))) fun k5 =>
 br (decide (pr.doF=3)) (k5 (v3,true))
 (br (decide (pr.doF=4)) (k5 (v3,true))
 (k5 (v3,(decide (pr.doF=8)))))))
def r20_spec (s:GSpec):Option Bool :=
 br (s.object == false) (jn (fun s1:Bool =>
 some s1) fun k2 =>
 br s.player (lt (decide (s.filter.zone=0) && (decide (s.filter.who=0) && (decide (s.filter.self=0) && (decide (s.filter.types=0) && (decide (s.filter.notTypes=0) && (decide (s.filter.colors=0) && (decide (s.filter.notColors=0) && (stdScmp .eql s.filter.sub (bs []) && (decide (s.filter.keys=0) && (decide (s.filter.tap=0) && (decide (s.filter.power.kind=0) && (decide (s.filter.power.n=0) && (decide (s.filter.tough.kind=0) && (decide (s.filter.tough.n=0) && (decide (s.filter.value.kind=0) && (decide (s.filter.value.n=0) && true)))))))))))))))) fun v4 =>
 k2 v4)
 (k2 false))
 (bnd (r13_Is s.filter) fun y5 =>
 br y5 (br (decide (s.filter.zone=0)) (some true)
 (br (decide (s.filter.zone=3)) (some true)
 (some (decide (s.filter.zone=5)))))
 (some false))
def r20_specs_l1 (l:List GSpec) (s1:Int) (k2:Int→Option Bool):Option Bool :=
 br (decide (s1<(lenI l))) (bnd (ixL l s1) fun x4 =>
 bnd (r20_spec x4) fun y5 =>
 br (y5 == false) (some false)
 (k2 (addI s1 1)))
 (some (decide ((lenI l)≤4)))
def r20_specs (l:List GSpec):Option Bool :=
 loopF (r20_specs_l1 l) 0
def r17_Word (op:Int):Option ByteArray :=
 jn (fun s1:Bool =>
 br s1 (some (bs []))
 (bnd (ixO 26 (subI op 1)) fun j4 =>
 bnd (([(bs [100,97,109,97,103,101]),(bs [100,101,115,116,114,111,121]),(bs [109,111,118,101]),(bs [100,114,97,119]),(bs [100,105,115,99,97,114,100]),(bs [103,97,105,110]),(bs [108,111,115,101]),(bs [116,97,112]),(bs [117,110,116,97,112]),(bs [112,117,116]),(bs [116,97,107,101]),(bs [99,114,101,97,116,101]),(bs [109,111,100]),(bs [109,97,110,97]),(bs [99,111,117,110,116,101,114]),(bs [99,111,112,121]),(bs [98,101,99,111,109,101]),(bs [115,97,99,114,105,102,105,99,101]),(bs [109,105,108,108]),(bs [115,99,114,121]),(bs [115,101,97,114,99,104]),(bs [115,104,105,101,108,100]),(bs [116,117,114,110]),(bs [119,105,110]),(bs [100,101,102,101,97,116]),(bs [118,101,110,111,109])])[j4]?) fun x5 =>
 some x5)) fun k2 =>
 br (decide (op<1)) (k2 true)
 (k2 (decide (26<op)))
def r17_Uses (op:Int):Option ByteArray :=
 br (decide (op=2)) (some (bs [114]))
 (br (decide (op=8)) (some (bs [114]))
 (br (decide (op=9)) (some (bs [114]))
 (br (decide (op=15)) (some (bs [114]))
 (br (decide (op=16)) (some (bs [114]))
 (br (decide (op=17)) (some (bs [114]))
 (br (decide (op=25)) (some (bs [114]))
 (br (decide (op=3)) (some (bs [114,122]))
 (br (decide (op=10)) (some (bs [114,107,97]))
 (br (decide (op=11)) (some (bs [114,107,97]))
 (br (decide (op=12)) (some (bs [114,99,97]))
 (br (decide (op=13)) (some (bs [114,109]))
 (br (decide (op=14)) (some (bs [112]))
 (br (decide (op=18)) (some (bs [114,97,102]))
 (br (decide (op=20)) (some (bs [97]))
 (br (decide (op=21)) (some (bs [102]))
 (br (decide (op=23)) (some (bs []))
 (br (decide (op=24)) (some (bs []))
 (some (bs [114,97])))))))))))))))))))
def r17_uses_l1 (field:Int) (y1:ByteArray) (s2:Int) (k3:Int→Option Bool):Option Bool :=
 br (decide (s2<(y1.size:Int))) (bnd (sixO y1 s2) fun x5 =>
 br (decide (x5=field)) (some true)
 (k3 (addI s2 1)))
 (some false)
def r17_uses (op:Int) (field:Int):Option Bool :=
 bnd (r17_Uses op) fun y1 =>
 loopF (r17_uses_l1 field y1) 0
def r16_numbered (kind:Int):Option Bool :=
 br (decide (kind=3)) (some true)
 (some (decide (kind=8)))
def r16_Is (pr:GRef) (specs:Int):Option Bool :=
 jn (fun s1:Int =>
 jn (fun s4:Bool =>
 br s4 (some false)
 (jn (fun s7:Unit =>
 br (decide (pr.kind=4)) (bnd (r13_Is pr.filter) fun y14 =>
 some y14)
 (lt (decide (pr.filter.zone=0) && (decide (pr.filter.who=0) && (decide (pr.filter.self=0) && (decide (pr.filter.types=0) && (decide (pr.filter.notTypes=0) && (decide (pr.filter.colors=0) && (decide (pr.filter.notColors=0) && (stdScmp .eql pr.filter.sub (bs []) && (decide (pr.filter.keys=0) && (decide (pr.filter.tap=0) && (decide (pr.filter.power.kind=0) && (decide (pr.filter.power.n=0) && (decide (pr.filter.tough.kind=0) && (decide (pr.filter.tough.n=0) && (decide (pr.filter.value.kind=0) && (decide (pr.filter.value.n=0) && true)))))))))))))))) fun v15 =>
 some v15)) fun k8 =>
 bnd (r16_numbered pr.kind) fun y10 =>
 br y10 (jn (fun s11:Bool =>
 br s11 (some false)
 (k8 ())) fun k12 =>
 br (decide (pr.n<1)) (k12 true)
 (k12 (decide (s1<pr.n))))
 (br (!decide (pr.n=0)) (some false)
 (k8 ())))) fun k5 =>
 br (decide (pr.kind<1)) (k5 true)
 (k5 (decide (8<pr.kind)))) fun k2 =>
 br (decide (4<specs)) (k2 4)
 (k2 specs)
def r12_Name (kind:Int):Option ByteArray :=
 br (decide (kind=0)) (some (bs [112,108,117,115]))
 (br (decide (kind=1)) (some (bs [109,105,110,117,115]))
 (br (decide (kind=2)) (some (bs [99,104,97,114,103,101]))
 (some (bs []))))
def r14_Is (a:GAmount):Option Bool :=
 jn (fun s1:GAmount =>
 br (decide (0≤a.kind)) (br (decide (a.kind≤7)) (lt (decide (s1.kind=a.kind) && (decide (s1.n=0) && (decide (s1.counter=0) && (decide (s1.filter.zone=0) && (decide (s1.filter.who=0) && (decide (s1.filter.self=0) && (decide (s1.filter.types=0) && (decide (s1.filter.notTypes=0) && (decide (s1.filter.colors=0) && (decide (s1.filter.notColors=0) && (stdScmp .eql s1.filter.sub (bs []) && (decide (s1.filter.keys=0) && (decide (s1.filter.tap=0) && (decide (s1.filter.power.kind=0) && (decide (s1.filter.power.n=0) && (decide (s1.filter.tough.kind=0) && (decide (s1.filter.tough.n=0) && (decide (s1.filter.value.kind=0) && (decide (s1.filter.value.n=0) && true))))))))))))))))))) fun v12 =>
 some v12)
 (some false))
 (some false)) fun k2 =>
 br (decide (a.kind=0)) (jn (fun s4:Bool =>
 br s4 (some false)
 (k2 { a with n:=0 })) fun k5 =>
 br (decide (a.n<0)) (k5 true)
 (k5 (decide (1000000<a.n))))
 (br (decide (a.kind=2)) (jn (fun s7:Bool =>
 br s7 (some false)
 (k2 { a with n:=0,filter:=zGFilter })) fun k8 =>
 br (decide (a.n<1)) (k8 true)
 (br (decide (99<a.n)) (k8 true)
 (bnd (r13_Is a.filter) fun y10 =>
 k8 (y10 == false))))
 (br (decide (a.kind=4)) (bnd (r12_Name a.counter) fun y11 =>
 br (stdScmp .eql y11 (bs [])) (some false)
 (k2 { a with counter:=0 }))
 (k2 a)))
def r17_mods (l:List GMod):Option Bool :=
 bnd (r15_ListText l) fun y1 =>
 some (stdScmp .neq y1 (bs []))
def r08_Text_l1 (c:GCost) (s11:ByteArray × Int) (k12:(ByteArray × Int)→Option ByteArray) (s14:ByteArray × Int) (k15:(ByteArray × Int)→Option ByteArray):Option ByteArray :=
 jn (fun s17:Bool =>
 br s17 (bnd (sslO (bs [65,67,74,82,69]) s11.2 (addI s11.2 1)) fun x21 =>
 bnd (catO s14.1 x21) fun x22 =>
 k15 (x22,(addI s14.2 1)))
 (k12 (s14.1,(addI s11.2 1)))) fun k18 =>
 sel s11.2 5 fun j20=>(match j20 with | 0=>(k18 (decide (s14.2<c.color.a0)))  | 1=>(k18 (decide (s14.2<c.color.a1)))  | 2=>(k18 (decide (s14.2<c.color.a2)))  | 3=>(k18 (decide (s14.2<c.color.a3)))  | _=>(k18 (decide (s14.2<c.color.a4))) )
def r08_Text_l2 (c:GCost) (s11:ByteArray × Int) (k12:(ByteArray × Int)→Option ByteArray):Option ByteArray :=
 br (decide (s11.2<5)) (loopF (r08_Text_l1 c s11 k12) (s11.1,0))
 (br (stdScmp .eql s11.1 (bs [])) (some (bs [48]))
 (some s11.1))
def r08_Text_l3 (c:GCost) (s2:ByteArray × Int) (k3:(ByteArray × Int)→Option ByteArray):Option ByteArray :=
 br (decide (s2.2<c.x)) (bnd (catO s2.1 (bs [88])) fun x5 =>
 k3 (x5,(addI s2.2 1)))
 (jn (fun s6:ByteArray =>
 loopF (r08_Text_l2 c) (s6,0)) fun k7 =>
 br (!decide (c.generic=0)) (bnd (r01_Text c.generic) fun y9 =>
 bnd (catO s2.1 y9) fun x10 =>
 k7 x10)
 (k7 s2.1))
def r08_Text (c:GCost):Option ByteArray :=
 bnd (r08_Is c) fun y1 =>
 br (y1 == false) (some (bs []))
 (loopF (r08_Text_l3 c) ((bs []),0))
def r08_cost (p:Arr6 Int):Option GCost :=
 some (GCost.mk p.a0 0 (Arr5.mk p.a1 p.a2 p.a3 p.a4 p.a5))
def r08_PoolText (p:Arr6 Int):Option ByteArray :=
 bnd (r08_cost p) fun y1 =>
 bnd (r08_Text y1) fun y2 =>
 some y2
def r17_filter (op:Int) (f:GFilter):Option Bool :=
 jn (fun s1:Int =>
 bnd (r13_Is f) fun y4 =>
 br y4 (some (decide (f.zone=s1)))
 (some false)) fun k2 =>
 br (decide (op=21)) (k2 2)
 (k2 0)
def r17_Is (pe:GEffect) (specs:Int):Option Bool :=
 bnd (r17_Word pe.op) fun y1 =>
 br (stdScmp .eql y1 (bs [])) (some false)
 (lt (decide (pe.ref.kind=0) && (decide (pe.ref.n=0) && (decide (pe.ref.filter.zone=0) && (decide (pe.ref.filter.who=0) && (decide (pe.ref.filter.self=0) && (decide (pe.ref.filter.types=0) && (decide (pe.ref.filter.notTypes=0) && (decide (pe.ref.filter.colors=0) && (decide (pe.ref.filter.notColors=0) && (stdScmp .eql pe.ref.filter.sub (bs []) && (decide (pe.ref.filter.keys=0) && (decide (pe.ref.filter.tap=0) && (decide (pe.ref.filter.power.kind=0) && (decide (pe.ref.filter.power.n=0) && (decide (pe.ref.filter.tough.kind=0) && (decide (pe.ref.filter.tough.n=0) && (decide (pe.ref.filter.value.kind=0) && (decide (pe.ref.filter.value.n=0) && true)))))))))))))))))) fun v2 =>
 jn (fun s3:Bool =>
 jn (fun s8:Bool =>
 jn (fun s12:Bool =>
 jn (fun s17:Bool =>
 lt (decide (pe.amount.kind=0) && (decide (pe.amount.n=0) && (decide (pe.amount.counter=0) && (decide (pe.amount.filter.zone=0) && (decide (pe.amount.filter.who=0) && (decide (pe.amount.filter.self=0) && (decide (pe.amount.filter.types=0) && (decide (pe.amount.filter.notTypes=0) && (decide (pe.amount.filter.colors=0) && (decide (pe.amount.filter.notColors=0) && (stdScmp .eql pe.amount.filter.sub (bs []) && (decide (pe.amount.filter.keys=0) && (decide (pe.amount.filter.tap=0) && (decide (pe.amount.filter.power.kind=0) && (decide (pe.amount.filter.power.n=0) && (decide (pe.amount.filter.tough.kind=0) && (decide (pe.amount.filter.tough.n=0) && (decide (pe.amount.filter.value.kind=0) && (decide (pe.amount.filter.value.n=0) && true))))))))))))))))))) fun v22 =>
 jn (fun s23:Bool =>
 jn (fun s28:Bool =>
 lt (decide (pe.pool.a0=0) && (decide (pe.pool.a1=0) && (decide (pe.pool.a2=0) && (decide (pe.pool.a3=0) && (decide (pe.pool.a4=0) && (decide (pe.pool.a5=0) && true)))))) fun v33 =>
 jn (fun s34:Bool =>
 lt (decide (pe.filter.zone=0) && (decide (pe.filter.who=0) && (decide (pe.filter.self=0) && (decide (pe.filter.types=0) && (decide (pe.filter.notTypes=0) && (decide (pe.filter.colors=0) && (decide (pe.filter.notColors=0) && (stdScmp .eql pe.filter.sub (bs []) && (decide (pe.filter.keys=0) && (decide (pe.filter.tap=0) && (decide (pe.filter.power.kind=0) && (decide (pe.filter.power.n=0) && (decide (pe.filter.tough.kind=0) && (decide (pe.filter.tough.n=0) && (decide (pe.filter.value.kind=0) && (decide (pe.filter.value.n=0) && true)))))))))))))))) fun v39 =>
 jn (fun s40:Bool =>
 br s3 (br s8 (br s12 (br s17 (br s23 (br s28 (br s34 (some s40)
 (some false))
 (some false))
 (some false))
 (some false))
 (some false))
 (some false))
 (some false)) fun k41 =>
 bnd (r17_uses pe.op 102) fun y43 =>
 br y43 (bnd (r17_filter pe.op pe.filter) fun y44 =>
 k41 y44)
 (k41 v39)) fun k35 =>
 bnd (r17_uses pe.op 112) fun y37 =>
 br y37 (br (v33 == false) (bnd (r08_PoolText pe.pool) fun y38 =>
 k35 (stdScmp .neq y38 (bs [])))
 (k35 false))
 (k35 v33)) fun k29 =>
 bnd (r17_uses pe.op 109) fun y31 =>
 br y31 (bnd (r17_mods pe.mods) fun y32 =>
 k29 y32)
 (k29 (decide ((lenI pe.mods)=0)))) fun k24 =>
 bnd (r17_uses pe.op 97) fun y26 =>
 br y26 (bnd (r14_Is pe.amount) fun y27 =>
 k24 y27)
 (k24 v22)) fun k18 =>
 bnd (r17_uses pe.op 99) fun y20 =>
 br y20 (bnd (r02_Is pe.card) fun y21 =>
 k18 y21)
 (k18 (stdScmp .eql pe.card (bs [])))) fun k13 =>
 br (decide (pe.counter=0)) (k13 true)
 (bnd (r17_uses pe.op 107) fun y15 =>
 br y15 (bnd (r12_Name pe.counter) fun y16 =>
 k13 (stdScmp .neq y16 (bs [])))
 (k13 false))) fun k9 =>
 br (decide (pe.zone=0)) (k9 true)
 (bnd (r17_uses pe.op 122) fun y11 =>
 br y11 (br (decide (0<pe.zone)) (k9 (decide (pe.zone≤4)))
 (k9 false))
 (k9 false))) fun k4 =>
 bnd (r17_uses pe.op 114) fun y6 =>
 br y6 (bnd (r16_Is pe.ref specs) fun y7 =>
 k4 y7)
 (k4 v2))
def r20_effects_l1 (l:List GEffect) (n:Int) (s1:Int) (k2:Int→Option Bool):Option Bool :=
 br (decide (s1<(lenI l))) (bnd (ixL l s1) fun x4 =>
 bnd (r17_Is x4 n) fun y5 =>
 br (y5 == false) (some false)
 (k2 (addI s1 1)))
 (br (decide (1≤(lenI l))) (some (decide ((lenI l)≤8)))
 (some false))
def r20_effects (l:List GEffect) (n:Int):Option Bool :=
 loopF (r20_effects_l1 l n) 0
def r20_Is (a:GAbility):Option Bool :=
 jn (fun s1:Bool =>
 br s1 (some false)
 (jn (fun s4:Bool =>
 jn (fun s7:Unit =>
 jn (fun s19:Unit =>
 jn (fun s27:Unit =>
 jn (fun s35:Unit =>
 br s4 (jn (fun s40:Bool =>
 some s40) fun k41 =>
 bnd (r20_specs a.specs) fun y43 =>
 br y43 (bnd (r20_effects a.effects (lenI a.specs)) fun y44 =>
 k41 y44)
 (k41 false))
 (br (decide ((lenI a.specs)=0)) (some (decide ((lenI a.effects)=0)))
 (some false))) fun k36 =>
 br (decide (a.kind=5)) (bnd (r19_Is a.replace) fun y38 =>
 br (y38 == false) (some false)
 (k36 ()))
 (lt ((decide (a.replace.on=0) && (decide (a.replace.who=0) && (decide (a.replace.filter.zone=0) && (decide (a.replace.filter.who=0) && (decide (a.replace.filter.self=0) && (decide (a.replace.filter.types=0) && (decide (a.replace.filter.notTypes=0) && (decide (a.replace.filter.colors=0) && (decide (a.replace.filter.notColors=0) && (stdScmp .eql a.replace.filter.sub (bs []) && (decide (a.replace.filter.keys=0) && (decide (a.replace.filter.tap=0) && (decide (a.replace.filter.power.kind=0) && (decide (a.replace.filter.power.n=0) && (decide (a.replace.filter.tough.kind=0) && (decide (a.replace.filter.tough.n=0) && (decide (a.replace.filter.value.kind=0) && (decide (a.replace.filter.value.n=0) && (decide (a.replace.doF=0) && (decide (a.replace.n=0) && (decide (a.replace.zone=0) && (decide (a.replace.counter=0) && true)))))))))))))))))))))) == false) fun v39 =>
 br v39 (some false)
 (k36 ()))) fun k28 =>
 br (decide (a.kind=4)) (bnd (r18_Is a.trigger) fun y30 =>
 br (y30 == false) (some false)
 (k28 ()))
 (jn (fun s31:Bool =>
 br s31 (some false)
 (k28 ())) fun k32 =>
 lt ((decide (a.trigger.when=0) && (decide (a.trigger.who=0) && (decide (a.trigger.filter.zone=0) && (decide (a.trigger.filter.who=0) && (decide (a.trigger.filter.self=0) && (decide (a.trigger.filter.types=0) && (decide (a.trigger.filter.notTypes=0) && (decide (a.trigger.filter.colors=0) && (decide (a.trigger.filter.notColors=0) && (stdScmp .eql a.trigger.filter.sub (bs []) && (decide (a.trigger.filter.keys=0) && (decide (a.trigger.filter.tap=0) && (decide (a.trigger.filter.power.kind=0) && (decide (a.trigger.filter.power.n=0) && (decide (a.trigger.filter.tough.kind=0) && (decide (a.trigger.filter.tough.n=0) && (decide (a.trigger.filter.value.kind=0) && (decide (a.trigger.filter.value.n=0) && true)))))))))))))))))) == false) fun v34 =>
 br v34 (k32 true)
 (k32 a.may))) fun k20 =>
 br (decide (a.kind=3)) (bnd (r20_price a.price) fun y22 =>
 br (y22 == false) (some false)
 (k20 ()))
 (jn (fun s23:Bool =>
 br s23 (some false)
 (k20 ())) fun k24 =>
 lt ((decide (a.price.mana.generic=0) && (decide (a.price.mana.x=0) && (decide (a.price.mana.color.a0=0) && (decide (a.price.mana.color.a1=0) && (decide (a.price.mana.color.a2=0) && (decide (a.price.mana.color.a3=0) && (decide (a.price.mana.color.a4=0) && (a.price.tap == false && (a.price.sacrifice == false && (decide (a.price.life=0) && true)))))))))) == false) fun v26 =>
 br v26 (k24 true)
 (k24 a.slow))) fun k8 =>
 br (decide (a.kind=1)) (jn (fun s10:Bool =>
 br s10 (some false)
 (k8 ())) fun k11 =>
 bnd (r13_Is a.filter) fun y13 =>
 br (y13 == false) (k11 true)
 (br (!decide (a.filter.zone=0)) (k11 true)
 (bnd (r15_ListText a.mods) fun y14 =>
 k11 (stdScmp .eql y14 (bs [])))))
 (jn (fun s15:Bool =>
 br s15 (some false)
 (k8 ())) fun k16 =>
 lt ((decide (a.filter.zone=0) && (decide (a.filter.who=0) && (decide (a.filter.self=0) && (decide (a.filter.types=0) && (decide (a.filter.notTypes=0) && (decide (a.filter.colors=0) && (decide (a.filter.notColors=0) && (stdScmp .eql a.filter.sub (bs []) && (decide (a.filter.keys=0) && (decide (a.filter.tap=0) && (decide (a.filter.power.kind=0) && (decide (a.filter.power.n=0) && (decide (a.filter.tough.kind=0) && (decide (a.filter.tough.n=0) && (decide (a.filter.value.kind=0) && (decide (a.filter.value.n=0) && true)))))))))))))))) == false) fun v18 =>
 br v18 (k16 true)
 (k16 (decide (0<(lenI a.mods)))))) fun k5 =>
 br (decide (a.kind=2)) (k5 true)
 (br (decide (a.kind=3)) (k5 true)
 (k5 (decide (a.kind=4)))))) fun k2 =>
 br (decide (a.kind<1)) (k2 true)
 (k2 (decide (5<a.kind)))
def r21_fast (c:GCard):Option Bool :=
 br (decide (c.line.types=2)) (some true)
 (some (decide (c.line.types=4)))
def r21_Is_l1 (c:GCard) (s12:Int × Int) (k13:(Int × Int)→Option Bool):Option Bool :=
 br (decide (s12.2<(lenI c.abilities))) (jn (fun s15:Int =>
 k13 (s15,(addI s12.2 1))) fun k16 =>
 bnd (ixL c.abilities s12.2) fun x18 =>
 bnd (r20_Is x18) fun y19 =>
 br (y19 == false) (some false)
 (bnd (ixL c.abilities s12.2) fun x20 =>
 br (decide (x20.kind=2)) (k16 (addI s12.1 1))
 (k16 s12.1)))
 (bnd (r21_fast c) fun y21 =>
 br y21 (jn (fun s22:Bool =>
 some s22) fun k23 =>
 br (c.token == false) (br (decide (c.keys=0)) (br (decide ((lenI c.abilities)=1)) (k23 (decide (s12.1=1)))
 (k23 false))
 (k23 false))
 (k23 false))
 (br (decide (s12.1=0)) (br (c.token == false) (br (decide ((stdBin .and .i64 c.line.types 32)=0)) (some true)
 (lt (decide (c.cost.generic=0) && (decide (c.cost.x=0) && (decide (c.cost.color.a0=0) && (decide (c.cost.color.a1=0) && (decide (c.cost.color.a2=0) && (decide (c.cost.color.a3=0) && (decide (c.cost.color.a4=0) && true))))))) fun v25 =>
 some v25))
 (lt (decide (c.cost.generic=0) && (decide (c.cost.x=0) && (decide (c.cost.color.a0=0) && (decide (c.cost.color.a1=0) && (decide (c.cost.color.a2=0) && (decide (c.cost.color.a3=0) && (decide (c.cost.color.a4=0) && true))))))) fun v26 =>
 some v26))
 (some false)))
def r21_Is (c:GCard):Option Bool :=
 jn (fun s1:Bool =>
 br s1 (some false)
 (jn (fun s8:Bool =>
 br s8 (some false)
 (loopF (r21_Is_l1 c) (0,0))) fun k9 =>
 br (decide (c.power<0)) (k9 true)
 (br (decide (99<c.power)) (k9 true)
 (br (decide (c.tough<0)) (k9 true)
 (br (decide (99<c.tough)) (k9 true)
 (bnd (r21_creature c) fun y11 =>
 br (y11 == false) (br (!decide (c.power=0)) (k9 true)
 (br (!decide (c.tough=0)) (k9 true)
 (k9 (decide (8<(lenI c.abilities))))))
 (k9 (decide (8<(lenI c.abilities)))))))))) fun k2 =>
 bnd (r02_Is c.name) fun y4 =>
 br (y4 == false) (k2 true)
 (bnd (r08_Is c.cost) fun y5 =>
 br (y5 == false) (k2 true)
 (bnd (r10_Is c.line) fun y6 =>
 br (y6 == false) (k2 true)
 (bnd (r11_Is c.keys) fun y7 =>
 br (y7 == false) (k2 true)
 (br (decide (c.color<0)) (k2 true)
 (k2 (decide (31<c.color)))))))
def r22_Find_l1 (l:List GCard) (name:ByteArray) (s1:Int) (k2:Int→Option Int):Option Int :=
 br (decide (s1<(lenI l))) (bnd (ixL l s1) fun x4 =>
 br (stdScmp .eql x4.name name) (some s1)
 (k2 (addI s1 1)))
 (some (-1))
def r22_Find (l:List GCard) (name:ByteArray):Option Int :=
 loopF (r22_Find_l1 l name) 0
def r22_token_l1 (l:List GCard) (name:ByteArray) (s1:Int) (k2:Int→Option Bool):Option Bool :=
 br (decide (s1<(lenI l))) (jn (fun s4:Bool =>
 br s4 (some true)
 (k2 (addI s1 1))) fun k5 =>
 bnd (ixL l s1) fun x7 =>
 br (stdScmp .eql x7.name name) (bnd (ixL l s1) fun x8 =>
 k5 x8.token)
 (k5 false))
 (some false)
def r22_token (l:List GCard) (name:ByteArray):Option Bool :=
 loopF (r22_token_l1 l name) 0
def r22_creates_l1 (l:List GCard) (c:GCard) (s1:Int) (k2:Int→Option Bool) (s4:Int) (k5:Int→Option Bool):Option Bool :=
 bnd (ixL c.abilities s1) fun x7 =>
 br (decide (s4<(lenI x7.effects))) (bnd (ixL c.abilities s1) fun x8 =>
 bnd (ixL x8.effects s4) fun x9 =>
 jn (fun s10:Bool =>
 br s10 (some false)
 (k5 (addI s4 1))) fun k11 =>
 br (decide (x9.op=12)) (bnd (r22_token l x9.card) fun y13 =>
 k11 (y13 == false))
 (k11 false))
 (k2 (addI s1 1))
def r22_creates_l2 (l:List GCard) (c:GCard) (s1:Int) (k2:Int→Option Bool):Option Bool :=
 br (decide (s1<(lenI c.abilities))) (loopF (r22_creates_l1 l c s1 k2) 0)
 (some true)
def r22_creates (l:List GCard) (c:GCard):Option Bool :=
 loopF (r22_creates_l2 l c) 0
def r22_Check_l1 (l:List GCard) (s1:Int) (k2:Int→Option (Int × Int)):Option (Int × Int) :=
 br (decide (s1<(lenI l))) (bnd (ixL l s1) fun x4 =>
 bnd (r21_Is x4) fun y5 =>
 br (y5 == false) (some (s1,9))
 (bnd (ixL l s1) fun x6 =>
 bnd (r22_Find l x6.name) fun y7 =>
 br (decide (y7<s1)) (some (s1,6))
 (bnd (ixL l s1) fun x8 =>
 bnd (r22_creates l x8) fun y9 =>
 br (y9 == false) (some (s1,7))
 (k2 (addI s1 1)))))
 (some ((-1),0))
def r22_Check (l:List GCard):Option (Int × Int) :=
 br (decide (256<(lenI l))) (some ((-1),5))
 (loopF (r22_Check_l1 l) 0)
def r26_in (n:Int) (least:Int) (most:Int):Option Bool :=
 br (decide (least≤n)) (some (decide (n≤most)))
 (some false)
def r08_Whole_l1 (p:Arr6 Int) (s1:Int) (k2:Int→Option Bool):Option Bool :=
 br (decide (s1<6)) (jn (fun s4:Bool =>
 br s4 (some false)
 (k2 (addI s1 1))) fun k5 =>
 sel s1 6 fun j7=>(match j7 with | 0=>(br (decide (p.a0<0)) (k5 true) (sel s1 6 fun j8=>(match j8 with | 0=>(k5 (decide (1000000<p.a0)))  | 1=>(k5 (decide (1000000<p.a1)))  | 2=>(k5 (decide (1000000<p.a2)))  | 3=>(k5 (decide (1000000<p.a3)))  | 4=>(k5 (decide (1000000<p.a4)))  | _=>(k5 (decide (1000000<p.a5))) )))  | 1=>(br (decide (p.a1<0)) (k5 true) (sel s1 6 fun j9=>(match j9 with | 0=>(k5 (decide (1000000<p.a0)))  | 1=>(k5 (decide (1000000<p.a1)))  | 2=>(k5 (decide (1000000<p.a2)))  | 3=>(k5 (decide (1000000<p.a3)))  | 4=>(k5 (decide (1000000<p.a4)))  | _=>(k5 (decide (1000000<p.a5))) )))  | 2=>(br (decide (p.a2<0)) (k5 true) (sel s1 6 fun j10=>(match j10 with | 0=>(k5 (decide (1000000<p.a0)))  | 1=>(k5 (decide (1000000<p.a1)))  | 2=>(k5 (decide (1000000<p.a2)))  | 3=>(k5 (decide (1000000<p.a3)))  | 4=>(k5 (decide (1000000<p.a4)))  | _=>(k5 (decide (1000000<p.a5))) )))  | 3=>(br (decide (p.a3<0)) (k5 true) (sel s1 6 fun j11=>(match j11 with | 0=>(k5 (decide (1000000<p.a0)))  | 1=>(k5 (decide (1000000<p.a1)))  | 2=>(k5 (decide (1000000<p.a2)))  | 3=>(k5 (decide (1000000<p.a3)))  | 4=>(k5 (decide (1000000<p.a4)))  | _=>(k5 (decide (1000000<p.a5))) )))  | 4=>(br (decide (p.a4<0)) (k5 true) (sel s1 6 fun j12=>(match j12 with | 0=>(k5 (decide (1000000<p.a0)))  | 1=>(k5 (decide (1000000<p.a1)))  | 2=>(k5 (decide (1000000<p.a2)))  | 3=>(k5 (decide (1000000<p.a3)))  | 4=>(k5 (decide (1000000<p.a4)))  | _=>(k5 (decide (1000000<p.a5))) )))  | _=>(br (decide (p.a5<0)) (k5 true) (sel s1 6 fun j13=>(match j13 with | 0=>(k5 (decide (1000000<p.a0)))  | 1=>(k5 (decide (1000000<p.a1)))  | 2=>(k5 (decide (1000000<p.a2)))  | 3=>(k5 (decide (1000000<p.a3)))  | 4=>(k5 (decide (1000000<p.a4)))  | _=>(k5 (decide (1000000<p.a5))) ))) ))
 (some true)
def r08_Whole (p:Arr6 Int):Option Bool :=
 loopF (r08_Whole_l1 p) 0
def r25_place_l1 (s:GState) (id:Int) (s1:Int) (k2:Int→Option Int):Option Int :=
 br (decide (s1<(lenI s.objects))) (bnd (ixL s.objects s1) fun x4 =>
 br (decide (x4.id=id)) (some s1)
 (k2 (addI s1 1)))
 (some (-1))
def r25_place (s:GState) (id:Int):Option Int :=
 loopF (r25_place_l1 s id) 0
def r25_Find (s:GState) (id:Int):Option (GObject × Bool) :=
 bnd (r25_place s id) fun y1 =>
 br (decide (y1<0)) (some (zGObject,false))
 (bnd (ixL s.objects y1) fun x2 =>
 some (x2,true))
def r26_object (s:GState) (id:Int):Option (GObject × Bool) :=
 bnd (r25_Find s id) fun y1 =>
 some (y1.1,y1.2)
def r26_times_l1 (l:List Int) (n:Int) (s1:Int × Int) (k2:(Int × Int)→Option Int):Option Int :=
 br (decide (s1.2<(lenI l))) (jn (fun s4:Int =>
 k2 (s4,(addI s1.2 1))) fun k5 =>
 bnd (ixL l s1.2) fun x7 =>
 br (decide (x7=n)) (k5 (addI s1.1 1))
 (k5 s1.1))
 (some s1.1)
def r26_times (l:List Int) (n:Int):Option Int :=
 loopF (r26_times_l1 l n) (0,0)
def r26_list_l1 (s:GState) (l:List Int) (zone:Int) (owner:Int) (s1:Int) (k2:Int→Option Bool):Option Bool :=
 br (decide (s1<(lenI l))) (bnd (ixL l s1) fun x4 =>
 bnd (r26_object s x4) fun y5 =>
 jn (fun s6:Bool =>
 br s6 (some false)
 (k2 (addI s1 1))) fun k7 =>
 br (y5.2 == false) (k7 true)
 (br (!decide (y5.1.zone=zone)) (k7 true)
 (br (decide (0≤owner)) (br (!decide (y5.1.owner=owner)) (k7 true)
 (bnd (ixL l s1) fun x9 =>
 bnd (r26_times l x9) fun y10 =>
 k7 (!decide (y10=1))))
 (bnd (ixL l s1) fun x11 =>
 bnd (r26_times l x11) fun y12 =>
 k7 (!decide (y12=1))))))
 (some true)
def r26_list (s:GState) (l:List Int) (zone:Int) (owner:Int):Option Bool :=
 loopF (r26_list_l1 s l zone owner) 0
def r26_players_l1 (s:GState) (s2:Int) (k3:Int→Option Bool):Option Bool :=
 br (decide (s2<(lenI s.players))) (bnd (ixL s.players s2) fun x5 =>
 jn (fun s6:Bool =>
 br s6 (some false)
 (jn (fun s13:Bool =>
 br s13 (some false)
 (k3 (addI s2 1))) fun k14 =>
 bnd (r26_list s x5.library 2 s2) fun y16 =>
 br (y16 == false) (k14 true)
 (bnd (r26_list s x5.hand 1 s2) fun y17 =>
 br (y17 == false) (k14 true)
 (bnd (r26_list s x5.graveyard 3 s2) fun y18 =>
 k14 (y18 == false))))) fun k7 =>
 bnd (r26_in x5.life (-1000000) 1000000) fun y9 =>
 br (y9 == false) (k7 true)
 (bnd (r26_in x5.venom 0 1000000) fun y10 =>
 br (y10 == false) (k7 true)
 (bnd (r26_in x5.lands 0 1000000) fun y11 =>
 br (y11 == false) (k7 true)
 (bnd (r08_Whole x5.pool) fun y12 =>
 k7 (y12 == false)))))
 (bnd (r26_list s s.battlefield 0 (-1)) fun y19 =>
 br y19 (bnd (r26_list s s.exile 4 (-1)) fun y20 =>
 some y20)
 (some false))
def r26_players (s:GState):Option Bool :=
 bnd (r26_in (lenI s.players) 2 4) fun y1 =>
 br (y1 == false) (some false)
 (loopF (r26_players_l1 s) 0)
def r26_player (s:GState) (p:Int):Option Bool :=
 bnd (r26_in p 0 (subI (lenI s.players) 1)) fun y1 =>
 some y1
def r12_Is_l1 (c:Arr3 Int) (s1:Int) (k2:Int→Option Bool):Option Bool :=
 br (decide (s1<3)) (jn (fun s4:Bool =>
 br s4 (some false)
 (k2 (addI s1 1))) fun k5 =>
 sel s1 3 fun j7=>(match j7 with | 0=>(br (decide (c.a0<0)) (k5 true) (sel s1 3 fun j8=>(match j8 with | 0=>(k5 (decide (1000000<c.a0)))  | 1=>(k5 (decide (1000000<c.a1)))  | _=>(k5 (decide (1000000<c.a2))) )))  | 1=>(br (decide (c.a1<0)) (k5 true) (sel s1 3 fun j9=>(match j9 with | 0=>(k5 (decide (1000000<c.a0)))  | 1=>(k5 (decide (1000000<c.a1)))  | _=>(k5 (decide (1000000<c.a2))) )))  | _=>(br (decide (c.a2<0)) (k5 true) (sel s1 3 fun j10=>(match j10 with | 0=>(k5 (decide (1000000<c.a0)))  | 1=>(k5 (decide (1000000<c.a1)))  | _=>(k5 (decide (1000000<c.a2))) ))) ))
 (some true)
def r12_Is (c:Arr3 Int):Option Bool :=
 loopF (r12_Is_l1 c) 0
def r24_Calm (o:GObject):Option GObject :=
 some { o with attack:=(-1),blocked:=false,blocks:=0 }
def r24_Ended (o:GObject):Option GObject :=
 some { o with deadly:=false,damage:=0,shield:=0 }
def r24_Is (o:GObject) (cards:Int) (players:Int):Option Bool :=
 jn (fun s1:Bool =>
 br s1 (some false)
 (jn (fun s4:Bool =>
 br s4 (some false)
 (jn (fun s7:Bool =>
 br s7 (some false)
 (br (decide (o.zone=0)) (some true)
 (bnd (r24_Calm o) fun y11 =>
 lt (decide (o.id=y11.id) && (decide (o.card=y11.card) && (decide (o.owner=y11.owner) && (decide (o.control=y11.control) && (decide (o.zone=y11.zone) && (o.token == y11.token && (o.tapped == y11.tapped && (o.sick == y11.sick && (o.deadly == y11.deadly && (decide (o.damage=y11.damage) && (decide (o.counters.a0=y11.counters.a0) && (decide (o.counters.a1=y11.counters.a1) && (decide (o.counters.a2=y11.counters.a2) && (decide (o.stamp=y11.stamp) && (decide (o.copy=y11.copy) && (decide (o.attack=y11.attack) && (o.blocked == y11.blocked && (decide (o.blocks=y11.blocks) && (decide (o.shield=y11.shield) && true))))))))))))))))))) fun v12 =>
 br v12 (bnd (r24_Ended o) fun y13 =>
 lt (decide (o.id=y13.id) && (decide (o.card=y13.card) && (decide (o.owner=y13.owner) && (decide (o.control=y13.control) && (decide (o.zone=y13.zone) && (o.token == y13.token && (o.tapped == y13.tapped && (o.sick == y13.sick && (o.deadly == y13.deadly && (decide (o.damage=y13.damage) && (decide (o.counters.a0=y13.counters.a0) && (decide (o.counters.a1=y13.counters.a1) && (decide (o.counters.a2=y13.counters.a2) && (decide (o.stamp=y13.stamp) && (decide (o.copy=y13.copy) && (decide (o.attack=y13.attack) && (o.blocked == y13.blocked && (decide (o.blocks=y13.blocks) && (decide (o.shield=y13.shield) && true))))))))))))))))))) fun v14 =>
 br v14 (br (o.tapped == false) (br (o.sick == false) (lt (decide (o.counters.a0=0) && (decide (o.counters.a1=0) && (decide (o.counters.a2=0) && true))) fun v15 =>
 some v15)
 (some false))
 (some false))
 (some false))
 (some false)))) fun k8 =>
 bnd (r12_Is o.counters) fun y10 =>
 br (y10 == false) (k8 true)
 (br (decide (o.copy<(-1))) (k8 true)
 (br (decide (cards≤o.copy)) (k8 true)
 (br (decide (o.attack<(-1))) (k8 true)
 (k8 (decide (players≤o.attack)))))))) fun k5 =>
 br (decide (o.damage<0)) (k5 true)
 (br (decide (1000000<o.damage)) (k5 true)
 (br (decide (o.stamp<0)) (k5 true)
 (br (decide (1000000<o.stamp)) (k5 true)
 (br (decide (o.blocks<0)) (k5 true)
 (br (decide (1000000<o.blocks)) (k5 true)
 (br (decide (o.shield<0)) (k5 true)
 (k5 (decide (1000000<o.shield))))))))))) fun k2 =>
 br (decide (o.id<1)) (k2 true)
 (br (decide (o.card<0)) (k2 true)
 (br (decide (cards≤o.card)) (k2 true)
 (br (decide (o.owner<0)) (k2 true)
 (br (decide (players≤o.owner)) (k2 true)
 (br (decide (o.control<0)) (k2 true)
 (br (decide (players≤o.control)) (k2 true)
 (br (decide (o.zone<0)) (k2 true)
 (k2 (decide (5<o.zone))))))))))
def r26_spells_l1 (s:GState) (id:Int) (s1:Int × Int) (k2:(Int × Int)→Option Int):Option Int :=
 br (decide (s1.2<(lenI s.stack))) (jn (fun s4:Int =>
 k2 (s4,(addI s1.2 1))) fun k5 =>
 jn (fun s7:Bool =>
 br s7 (k5 (addI s1.1 1))
 (k5 s1.1)) fun k8 =>
 bnd (ixL s.stack s1.2) fun x10 =>
 br (decide (x10.kind=1)) (bnd (ixL s.stack s1.2) fun x11 =>
 k8 (decide (x11.id=id)))
 (k8 false))
 (some s1.1)
def r26_spells (s:GState) (id:Int):Option Int :=
 loopF (r26_spells_l1 s id) (0,0)
def r25_ints (l:List Int):Option (List Int) :=
 roomO (0+l.length) 8 (
 some l)
def r25_List (s:GState) (zone:Int) (player:Int):Option (List Int) :=
 br (decide (zone=0)) (bnd (r25_ints s.battlefield) fun y1 =>
 some y1)
 (br (decide (zone=4)) (bnd (r25_ints s.exile) fun y2 =>
 some y2)
 (jn (fun s3:Bool =>
 br s3 (some ([]))
 (br (decide (zone=1)) (bnd (ixL s.players player) fun x6 =>
 bnd (r25_ints x6.hand) fun y7 =>
 some y7)
 (br (decide (zone=2)) (bnd (ixL s.players player) fun x8 =>
 bnd (r25_ints x8.library) fun y9 =>
 some y9)
 (br (decide (zone=3)) (bnd (ixL s.players player) fun x10 =>
 bnd (r25_ints x10.graveyard) fun y11 =>
 some y11)
 (some ([])))))) fun k4 =>
 br (decide (player<0)) (k4 true)
 (k4 (decide ((lenI s.players)≤player)))))
def r26_placed (s:GState) (o:GObject):Option Bool :=
 br (decide (o.zone=5)) (bnd (r26_spells s o.id) fun y1 =>
 some (decide (y1=1)))
 (bnd (r25_List s o.zone o.owner) fun y2 =>
 bnd (r26_times y2 o.id) fun y3 =>
 some (decide (y3=1)))
def r26_objects_l1 (cards:List GCard) (s:GState) (s1:Int) (k2:Int→Option Bool):Option Bool :=
 br (decide (s1<(lenI s.objects))) (bnd (ixL s.objects s1) fun x4 =>
 jn (fun s5:Bool =>
 br s5 (some false)
 (bnd (r26_placed s x4) fun y10 =>
 br (y10 == false) (some false)
 (k2 (addI s1 1)))) fun k6 =>
 bnd (r24_Is x4 (lenI cards) (lenI s.players)) fun y8 =>
 br (y8 == false) (k6 true)
 (br (decide (s.nextId≤x4.id)) (k6 true)
 (br (decide (s.nextStamp≤x4.stamp)) (k6 true)
 (br (decide (0<s1)) (bnd (ixL s.objects (subI s1 1)) fun x9 =>
 k6 (decide (x4.id≤x9.id)))
 (k6 false)))))
 (some true)
def r26_objects (cards:List GCard) (s:GState):Option Bool :=
 br (decide (2048<(lenI s.objects))) (some false)
 (loopF (r26_objects_l1 cards s) 0)
def r26_item (s:GState) (x:GItem):Option Bool :=
 jn (fun s1:Bool =>
 br s1 (some false)
 (bnd (r26_object s x.id) fun y7 =>
 br (decide (x.kind=1)) (bnd (r20_Same x.ability zGAbility) fun y8 =>
 jn (fun s9:Bool =>
 some s9) fun k10 =>
 br (decide (x.source=x.id)) (br y7.2 (br (decide (y7.1.zone=5)) (br y8 (k10 true)
 (bnd (r20_Is x.ability) fun y12 =>
 k10 y12))
 (k10 false))
 (k10 false))
 (k10 false))
 (br (decide (x.kind=2)) (br (y7.2 == false) (bnd (r20_Is x.ability) fun y13 =>
 some y13)
 (some false))
 (some false)))) fun k2 =>
 bnd (r26_in x.id 1 (subI s.nextId 1)) fun y4 =>
 br (y4 == false) (k2 true)
 (bnd (r26_in x.x 0 1000000) fun y5 =>
 br (y5 == false) (k2 true)
 (br (decide (4<(lenI x.targets))) (k2 true)
 (bnd (r26_player s x.control) fun y6 =>
 k2 (y6 == false))))
def r03_Is_l1 (l:List Int) (s1:Int) (k2:Int→Option Bool):Option Bool :=
 br (decide (s1<(lenI l))) (bnd (ixL l (subI s1 1)) fun x4 =>
 bnd (ixL l s1) fun x5 =>
 br (decide (x5≤x4)) (some false)
 (k2 (addI s1 1)))
 (some true)
def r03_Is (l:List Int):Option Bool :=
 loopF (r03_Is_l1 l) 1
def r26_stack_l1 (s:GState) (s4:Int) (k5:Int→Option Bool) (s9:Int) (k10:Int→Option Bool):Option Bool :=
 br (decide (s9<s4)) (bnd (ixL s.stack s9) fun x12 =>
 bnd (ixL s.stack s4) fun x13 =>
 br (decide (x12.id=x13.id)) (some false)
 (k10 (addI s9 1)))
 (k5 (addI s4 1))
def r26_stack_l2 (s:GState) (s23:Int) (k24:Int→Option Bool):Option Bool :=
 br (decide (s23<(lenI s.conts))) (bnd (ixL s.conts s23) fun x26 =>
 jn (fun s27:Bool =>
 br s27 (some false)
 (k24 (addI s23 1))) fun k28 =>
 bnd (r26_player s x26.control) fun y30 =>
 br (y30 == false) (k28 true)
 (br (decide (s.nextStamp≤x26.stamp)) (k28 true)
 (bnd (r26_in x26.untilF 1 2) fun y31 =>
 br (y31 == false) (k28 true)
 (bnd (r03_Is x26.objects) fun y32 =>
 br (y32 == false) (k28 true)
 (bnd (r15_ListText x26.mods) fun y33 =>
 k28 (stdScmp .eql y33 (bs [])))))))
 (some true)
def r26_stack_l3 (s:GState) (s14:Int) (k15:Int→Option Bool):Option Bool :=
 br (decide (s14<(lenI s.waiting))) (bnd (ixL s.waiting s14) fun x17 =>
 jn (fun s18:Bool =>
 br s18 (some false)
 (k15 (addI s14 1))) fun k19 =>
 bnd (r26_player s x17.control) fun y21 =>
 br (y21 == false) (k19 true)
 (br (!decide (x17.ability.kind=4)) (k19 true)
 (bnd (r20_Is x17.ability) fun y22 =>
 k19 (y22 == false))))
 (loopF (r26_stack_l2 s) 0)
def r26_stack_l4 (s:GState) (s4:Int) (k5:Int→Option Bool):Option Bool :=
 br (decide (s4<(lenI s.stack))) (bnd (ixL s.stack s4) fun x7 =>
 bnd (r26_item s x7) fun y8 =>
 br (y8 == false) (some false)
 (loopF (r26_stack_l1 s s4 k5) 0))
 (loopF (r26_stack_l3 s) 0)
def r26_stack (s:GState):Option Bool :=
 jn (fun s1:Bool =>
 br s1 (some false)
 (loopF (r26_stack_l4 s) 0)) fun k2 =>
 br (decide (64<(lenI s.stack))) (k2 true)
 (br (decide (64<(lenI s.waiting))) (k2 true)
 (k2 (decide (64<(lenI s.conts)))))
def r26_Is_l1 (cards:List GCard) (s:GState) (s16:Int) (k17:Int→Option Bool):Option Bool :=
 br (decide (s16<(lenI s.extra))) (bnd (ixL s.extra s16) fun x19 =>
 bnd (r26_player s x19) fun y20 =>
 br (y20 == false) (some false)
 (k17 (addI s16 1)))
 (jn (fun s21:Bool =>
 br s21 (some false)
 (bnd (r26_objects cards s) fun y25 =>
 br y25 (bnd (r26_stack s) fun y26 =>
 some y26)
 (some false))) fun k22 =>
 br (decide (s.over=1)) (bnd (r26_player s s.winner) fun y24 =>
 br (y24 == false) (k22 true)
 (br (!decide (s.over=1)) (k22 (!decide (s.winner=(-1))))
 (k22 false)))
 (br (!decide (s.over=1)) (k22 (!decide (s.winner=(-1))))
 (k22 false)))
def r26_Is (cards:List GCard) (s:GState):Option Bool :=
 jn (fun s1:Bool =>
 br s1 (some false)
 (jn (fun s8:Bool =>
 br s8 (some false)
 (loopF (r26_Is_l1 cards s) 0)) fun k9 =>
 bnd (r26_players s) fun y11 =>
 br (y11 == false) (k9 true)
 (bnd (r26_player s s.active) fun y12 =>
 br (y12 == false) (k9 true)
 (bnd (r26_player s s.priority) fun y13 =>
 br (y13 == false) (k9 true)
 (bnd (r26_in s.passes 0 (lenI s.players)) fun y14 =>
 br (y14 == false) (k9 true)
 (br (decide (500<(lenI s.extra))) (k9 true)
 (bnd (r26_in s.over 0 2) fun y15 =>
 k9 (y15 == false)))))))) fun k2 =>
 bnd (r26_in s.nextId 1 1000000) fun y4 =>
 br (y4 == false) (k2 true)
 (bnd (r26_in s.nextStamp 1 1000000) fun y5 =>
 br (y5 == false) (k2 true)
 (bnd (r26_in s.turn 0 500) fun y6 =>
 br (y6 == false) (k2 true)
 (bnd (r26_in s.step 0 10) fun y7 =>
 br (y7 == false) (k2 true)
 (k2 (decide (2048<(lenI s.objects)))))))
def law40_valid (cards:List GCard) (s:GState):Option Bool :=
 bnd (r22_Check cards) fun y1 =>
 br (decide (y1.2=0)) (bnd (r26_Is cards s) fun y2 =>
 some y2)
 (some false)
def law40_alive:Option Bool:=some true
def ask_copied_int (l:List Int):Option (List Int) :=
 roomO l.length 8 (
 some l)
def ask_New_l1 (answers:List (List Int)) (s1:Int × (List (List Int))) (k2:(Int × (List (List Int)))→Option GAskAsker):Option GAskAsker :=
 br (decide (s1.1<(lenI answers))) (bnd (ixL answers s1.1) fun x4 =>
 bnd (ask_copied_int x4) fun y5 =>
 roomO (s1.2.length+([y5]).length) 24 (
 k2 ((addI s1.1 1),(s1.2 ++ [y5]))))
 (some (GAskAsker.mk s1.2 0 zGChoice false false))
def ask_New (answers:List (List Int)):Option GAskAsker :=
 loopF (ask_New_l1 answers) (0,[])
def slices_Clone_player (s:List GPlayer):Option (List GPlayer) :=
 nlO (some ([]))
 (roomO (0+s.length) 152 (
 some s))
def slices_Clone_int (s:List Int):Option (List Int) :=
 nlO (some ([]))
 (roomO (0+s.length) 8 (
 some s))
def zone_copyPlayer (p:GPlayer):Option GPlayer :=
 bnd (slices_Clone_int p.library) fun y1 =>
 bnd (slices_Clone_int p.hand) fun y2 =>
 bnd (slices_Clone_int p.graveyard) fun y3 =>
 some { p with library:=y1,hand:=y2,graveyard:=y3 }
def slices_Clone_object (s:List GObject):Option (List GObject) :=
 nlO (some ([]))
 (roomO (0+s.length) 128 (
 some s))
def slices_Clone_item (s:List GItem):Option (List GItem) :=
 nlO (some ([]))
 (roomO (0+s.length) 824 (
 some s))
def slices_Clone_spec (s:List GSpec):Option (List GSpec) :=
 nlO (some ([]))
 (roomO (0+s.length) 144 (
 some s))
def slices_Clone_effect (s:List GEffect):Option (List GEffect) :=
 nlO (some ([]))
 (roomO (0+s.length) 560 (
 some s))
def slices_Clone_mod (s:List GMod):Option (List GMod) :=
 nlO (some ([]))
 (roomO (0+s.length) 176 (
 some s))
def zone_copyAbility_l1 (a:GAbility) (y1:List GMod) (y2:List GSpec) (y3:List GEffect) (s4:Int × (List GEffect)) (k5:(Int × (List GEffect))→Option GAbility):Option GAbility :=
 br (decide (s4.1<(lenI y3))) (bnd (ixO s4.2.length s4.1) fun j7 =>
 bnd (s4.2[j7]?) fun x8 =>
 bnd (slices_Clone_mod x8.mods) fun y9 =>
 bnd (ixO s4.2.length s4.1) fun j10 =>
 bnd (s4.2[j10]?) fun x11 =>
 k5 ((addI s4.1 1),(s4.2.set j10 { x11 with mods:=y9 })))
 (some { a with mods:=y1,specs:=y2,effects:=s4.2 })
def zone_copyAbility (a:GAbility):Option GAbility :=
 bnd (slices_Clone_mod a.mods) fun y1 =>
 bnd (slices_Clone_spec a.specs) fun y2 =>
 bnd (slices_Clone_effect a.effects) fun y3 =>
 loopF (zone_copyAbility_l1 a y1 y2 y3) (0,y3)
def slices_Clone_target (s:List GTarget):Option (List GTarget) :=
 nlO (some ([]))
 (roomO (0+s.length) 16 (
 some s))
def slices_Clone_waiting (s:List GWaiting):Option (List GWaiting) :=
 nlO (some ([]))
 (roomO (0+s.length) 768 (
 some s))
def slices_Clone_cont (s:List GCont):Option (List GCont) :=
 nlO (some ([]))
 (roomO (0+s.length) 80 (
 some s))
def zone_Copy_l1 (s:GState) (s2:Int × (List GPlayer)) (y10:List GObject) (y11:List Int) (y12:List Int) (s14:Int × (List GItem)) (s28:Int × (List GWaiting)) (y36:List GCont) (s37:Int × (List GCont)) (k38:(Int × (List GCont))→Option GState):Option GState :=
 br (decide (s37.1<(lenI y36))) (bnd (ixO s37.2.length s37.1) fun j40 =>
 bnd (s37.2[j40]?) fun x41 =>
 bnd (slices_Clone_int x41.objects) fun y42 =>
 bnd (ixO s37.2.length s37.1) fun j43 =>
 bnd (s37.2[j43]?) fun x44 =>
 bnd (ixO s37.2.length s37.1) fun j45 =>
 bnd ((s37.2.set j43 { x44 with objects:=y42 })[j45]?) fun x46 =>
 bnd (slices_Clone_mod x46.mods) fun y47 =>
 bnd (ixO s37.2.length s37.1) fun j48 =>
 bnd ((s37.2.set j43 { x44 with objects:=y42 })[j48]?) fun x49 =>
 k38 ((addI s37.1 1),((s37.2.set j43 { x44 with objects:=y42 }).set j48 { x49 with mods:=y47 })))
 (bnd (slices_Clone_int s.extra) fun y50 =>
 some { s with players:=s2.2,objects:=y10,battlefield:=y11,exile:=y12,stack:=s14.2,waiting:=s28.2,conts:=s37.2,extra:=y50 })
def zone_Copy_l2 (s:GState) (s2:Int × (List GPlayer)) (y10:List GObject) (y11:List Int) (y12:List Int) (s14:Int × (List GItem)) (y27:List GWaiting) (s28:Int × (List GWaiting)) (k29:(Int × (List GWaiting))→Option GState):Option GState :=
 br (decide (s28.1<(lenI y27))) (bnd (ixO s28.2.length s28.1) fun j31 =>
 bnd (s28.2[j31]?) fun x32 =>
 bnd (zone_copyAbility x32.ability) fun y33 =>
 bnd (ixO s28.2.length s28.1) fun j34 =>
 bnd (s28.2[j34]?) fun x35 =>
 k29 ((addI s28.1 1),(s28.2.set j34 { x35 with ability:=y33 })))
 (bnd (slices_Clone_cont s.conts) fun y36 =>
 loopF (zone_Copy_l1 s s2 y10 y11 y12 s14 s28 y36) (0,y36))
def zone_Copy_l3 (s:GState) (s2:Int × (List GPlayer)) (y10:List GObject) (y11:List Int) (y12:List Int) (y13:List GItem) (s14:Int × (List GItem)) (k15:(Int × (List GItem))→Option GState):Option GState :=
 br (decide (s14.1<(lenI y13))) (bnd (ixO s14.2.length s14.1) fun j17 =>
 bnd (s14.2[j17]?) fun x18 =>
 bnd (zone_copyAbility x18.ability) fun y19 =>
 bnd (ixO s14.2.length s14.1) fun j20 =>
 bnd (s14.2[j20]?) fun x21 =>
 bnd (ixO s14.2.length s14.1) fun j22 =>
 bnd ((s14.2.set j20 { x21 with ability:=y19 })[j22]?) fun x23 =>
 bnd (slices_Clone_target x23.targets) fun y24 =>
 bnd (ixO s14.2.length s14.1) fun j25 =>
 bnd ((s14.2.set j20 { x21 with ability:=y19 })[j25]?) fun x26 =>
 k15 ((addI s14.1 1),((s14.2.set j20 { x21 with ability:=y19 }).set j25 { x26 with targets:=y24 })))
 (bnd (slices_Clone_waiting s.waiting) fun y27 =>
 loopF (zone_Copy_l2 s s2 y10 y11 y12 s14 y27) (0,y27))
def zone_Copy_l4 (s:GState) (y1:List GPlayer) (s2:Int × (List GPlayer)) (k3:(Int × (List GPlayer))→Option GState):Option GState :=
 br (decide (s2.1<(lenI y1))) (bnd (ixO s2.2.length s2.1) fun j5 =>
 bnd (s2.2[j5]?) fun x6 =>
 bnd (zone_copyPlayer x6) fun y7 =>
 bnd (ixO s2.2.length s2.1) fun j8 =>
 bnd (s2.2[j8]?) fun x9 =>
 k3 ((addI s2.1 1),(s2.2.set j8 y7)))
 (bnd (slices_Clone_object s.objects) fun y10 =>
 bnd (slices_Clone_int s.battlefield) fun y11 =>
 bnd (slices_Clone_int s.exile) fun y12 =>
 bnd (slices_Clone_item s.stack) fun y13 =>
 loopF (zone_Copy_l3 s s2 y10 y11 y12 y13) (0,y13))
def zone_Copy (s:GState):Option GState :=
 bnd (slices_Clone_player s.players) fun y1 =>
 loopF (zone_Copy_l4 s y1) (0,y1)
def resolve_Effects_l1 (l:List GEffect) (y1:GState) (s2:Unit) (k3:Unit→Option GState):Option GState :=
 br (decide (0<(lenI l))) (bnd (ixL l 0) fun x5 =>
 br (!decide (y1.over=0)) (some y1)
 (none))
 (some y1)
def resolve_Effects (k:GAskAsker) (cards:List GCard) (s:GState) (ctx:GContext) (l:List GEffect):Option GState :=
 bnd (zone_Copy s) fun y1 =>
 loopF (resolve_Effects_l1 l y1) ()
def resolve_Top (k:GAskAsker) (cards:List GCard) (s:GState):Option GState :=
 br (decide ((lenI s.stack)=0)) (bnd (zone_Copy s) fun y1 =>
 some y1)
 (bnd (ixL s.stack (subI (lenI s.stack) 1)) fun x2 =>
 none)
def ask_copied_option (l:List GOption):Option (List GOption) :=
 roomO l.length 24 (
 some l)
def ask_Asker_Pending (k:GAskAsker):Option (GChoice × Bool) :=
 br (k.waits == false) (some (zGChoice,false))
 (bnd (ask_copied_option k.pending.options) fun y1 =>
 some ({ k.pending with options:=y1 },true))
def law40_ResolveNothing (cards:List GCard) (s:GState) (ctx:GContext):Option Bool :=
 bnd (law40_valid cards s) fun y1 =>
 br (y1 == false) (bnd (law40_alive) fun y2 =>
 some y2)
 (bnd (ask_New ([])) fun y3 =>
 bnd (resolve_Effects { y3 with answers:=y3.answers } cards s ctx ([])) fun y4 =>
 jn (fun s5:GState =>
 bnd (ask_Asker_Pending { y3 with answers:=y3.answers }) fun y10 =>
 bnd (law40_alive) fun y11 =>
 br y11 (br (y10.2 == false) (bnd (r26_Same s5 { s with stack:=[] }) fun y12 =>
 br y12 (some (decide ((lenI y4.players)=(lenI s.players))))
 (some false))
 (some false))
 (some false)) fun k6 =>
 bnd (law40_valid cards { s with stack:=[] }) fun y8 =>
 br y8 (bnd (resolve_Top { y3 with answers:=y3.answers } cards { s with stack:=[] }) fun y9 =>
 k6 y9)
 (k6 { s with stack:=[] }))
theorem d_st {p:Prop} (h:p:=by (try simp only [eGBound,eGFilter,eGMod,eGRef,eGAmount,eGEffect,eGCost,eGPrice,eGTrigger,eGSpec,eGReplace,eGAbility,eGTarget,eGEvent,eGItem,eGWaiting,eGCont,eGPlayer,eGObject,eGState,eGLine,eGCard,eGOption,eGChoice,eGAskAsker,eGContext,zGBound,zGFilter,zGMod,zGRef,zGAmount,zGEffect,zGCost,zGPrice,zGTrigger,zGSpec,zGReplace,zGAbility,zGTarget,zGEvent,zGItem,zGWaiting,zGCont,zGPlayer,zGObject,zGState,zGLine,zGCard,zGOption,zGChoice,zGAskAsker,zGContext,zArr2I,zArr3I,zArr5I,zArr6I,q]); repeat' constructor):p:=h
theorem d_le {u v:List PV} (e:u=v:=by simp only [q]; try first | rfl | (simp only [eGBound,eGFilter,eGMod,eGRef,eGAmount,eGEffect,eGCost,eGPrice,eGTrigger,eGSpec,eGReplace,eGAbility,eGTarget,eGEvent,eGItem,eGWaiting,eGCont,eGPlayer,eGObject,eGState,eGLine,eGCard,eGOption,eGChoice,eGAskAsker,eGContext,q]; done) | simp [stdCmp,eI,eB,eL,eS,q]):LeL u v:=le_eq e
end Go.Proofs.YthfepelpmalckaaGreatDoor
