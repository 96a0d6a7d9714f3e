import Derived.Test.YtddcpnlflncahaaGreatT07
import Derived.Test.YtddcpnlflncahaaGreatT30
set_option linter.all false
namespace Go.Proofs.YtddcpnlflncahaaGreat
open Go Go.Pv
set_option maxRecDepth 100000
def szGFilter (x:GFilter):Prop:=szB x.sub
def szGMod (x:GMod):Prop:=szB x.sub∧szGFilter x.filter
def szGTrigger (x:GTrigger):Prop:=szGFilter x.filter
def szGSpec (x:GSpec):Prop:=szGFilter x.filter
def szGRef (x:GRef):Prop:=szGFilter x.filter
def szGAmount (x:GAmount):Prop:=szGFilter x.filter
def szGEffect (x:GEffect):Prop:=szGRef x.ref∧szGAmount x.amount∧szB x.card∧szGFilter x.filter∧(szL szGMod) x.mods
def szGReplace (x:GReplace):Prop:=szGFilter x.filter
def szGAbility (x:GAbility):Prop:=szGFilter x.filter∧(szL szGMod) x.mods∧szGTrigger x.trigger∧(szL szGSpec) x.specs∧(szL szGEffect) x.effects∧szGReplace x.replace
def szGPlayer (x:GPlayer):Prop:=(szL (fun (_:Int)=>True)) x.library∧(szL (fun (_:Int)=>True)) x.hand∧(szL (fun (_:Int)=>True)) x.graveyard
def szGItem (x:GItem):Prop:=szGAbility x.ability∧(szL (fun (_:GTarget)=>True)) x.targets
def szGWaiting (x:GWaiting):Prop:=szGAbility x.ability
def szGCont (x:GCont):Prop:=(szL (fun (_:Int)=>True)) x.objects∧(szL szGMod) x.mods
def szGState (x:GState):Prop:=(szL szGPlayer) x.players∧(szL (fun (_:GObject)=>True)) x.objects∧(szL (fun (_:Int)=>True)) x.battlefield∧(szL (fun (_:Int)=>True)) x.exile∧(szL szGItem) x.stack∧(szL szGWaiting) x.waiting∧(szL szGCont) x.conts∧(szL (fun (_:Int)=>True)) x.extra
theorem five {i:Nat} (h:i<5):i=0∨i=1∨i=2∨i=3∨i=4:=by omega
theorem ok_seln {ρ:Type} {Q:ρ→Prop} {n m:Nat} {k:Nat→Option ρ} (h:n<m) (hk:Ok Q (k n)):Ok Q (sel (n:Int) m k):=ok_sel (by omega) (by omega) fun j hj=>by
 have:j=n:=by omega
 rw [this]; exact hk
def colN (c:Arr5 Int):Nat→Int
 | 0=>c.a0 | 1=>c.a1 | 2=>c.a2 | 3=>c.a3 | _=>c.a4
def isC (c:GCost):Prop:=(0≤c.generic∧c.generic≤99∧0≤c.x∧c.x≤2)∧∀ j,j<5→0≤colN c.color j∧colN c.color j≤9
theorem deq {p:Prop} [Decidable p] (h:(decide p == false)=false):p:=by simpa using h
theorem ok_ltb {ρ:Type} {Q:ρ→Prop} {x b:Bool} {k:Bool→Option ρ} (h:x=b) (hk:Ok Q (k b)):Ok Q (lt x k):=by subst h; exact hk
theorem ok_brt {ρ:Type} {Q:ρ→Prop} {c:Bool} {a b:Option ρ} (h:c=true) (hk:Ok Q a):Ok Q (br c a b):=by subst h; exact hk
theorem ok_brf {ρ:Type} {Q:ρ→Prop} {c:Bool} {a b:Option ρ} (h:c=false) (hk:Ok Q b):Ok Q (br c a b):=by subst h; exact hk
end Go.Proofs.YtddcpnlflncahaaGreat
