import Derived.Test.YthfepelpmalckaaGreatDoorD08
import Derived.Test.YthfepelpmalckaaGreatDoorD22
set_option linter.all false
namespace Go.Proofs.YthfepelpmalckaaGreatDoor
open Go Go.Pv
set_option maxRecDepth 100000
def szGFilter (x:GFilter):Prop:=szB x.sub
def szGMod (x:GMod):Prop:=szB x.sub∧szGFilter x.filter
def szGTrigger (x:GTrigger):Prop:=szGFilter x.filter
def szGSpec (x:GSpec):Prop:=szGFilter x.filter
def szGRef (x:GRef):Prop:=szGFilter x.filter
def szGAmount (x:GAmount):Prop:=szGFilter x.filter
def szGEffect (x:GEffect):Prop:=szGRef x.ref∧szGAmount x.amount∧szB x.card∧szGFilter x.filter∧(szL szGMod) x.mods
def szGReplace (x:GReplace):Prop:=szGFilter x.filter
def szGAbility (x:GAbility):Prop:=szGFilter x.filter∧(szL szGMod) x.mods∧szGTrigger x.trigger∧(szL szGSpec) x.specs∧(szL szGEffect) x.effects∧szGReplace x.replace
def szGPlayer (x:GPlayer):Prop:=(szL (fun (_:Int)=>True)) x.library∧(szL (fun (_:Int)=>True)) x.hand∧(szL (fun (_:Int)=>True)) x.graveyard
def szGItem (x:GItem):Prop:=szGAbility x.ability∧(szL (fun (_:GTarget)=>True)) x.targets
def szGWaiting (x:GWaiting):Prop:=szGAbility x.ability
def szGCont (x:GCont):Prop:=(szL (fun (_:Int)=>True)) x.objects∧(szL szGMod) x.mods
def szGState (x:GState):Prop:=(szL szGPlayer) x.players∧(szL (fun (_:GObject)=>True)) x.objects∧(szL (fun (_:Int)=>True)) x.battlefield∧(szL (fun (_:Int)=>True)) x.exile∧(szL szGItem) x.stack∧(szL szGWaiting) x.waiting∧(szL szGCont) x.conts∧(szL (fun (_:Int)=>True)) x.extra
theorem five {i:Nat} (h:i<5):i=0∨i=1∨i=2∨i=3∨i=4:=by omega
theorem ok_seln {ρ:Type} {Q:ρ→Prop} {n m:Nat} {k:Nat→Option ρ} (h:n<m) (hk:Ok Q (k n)):Ok Q (sel (n:Int) m k):=ok_sel (by omega) (by omega) fun j hj=>by
 have:j=n:=by omega
 rw [this]; exact hk
def colN (c:Arr5 Int):Nat→Int
 | 0=>c.a0 | 1=>c.a1 | 2=>c.a2 | 3=>c.a3 | _=>c.a4
def isC (c:GCost):Prop:=(0≤c.generic∧c.generic≤99∧0≤c.x∧c.x≤2)∧∀ j,j<5→0≤colN c.color j∧colN c.color j≤9
theorem ok_ltb {ρ:Type} {Q:ρ→Prop} {x b:Bool} {k:Bool→Option ρ} (h:x=b) (hk:Ok Q (k b)):Ok Q (lt x k):=by subst h; exact hk
theorem ok_brt {ρ:Type} {Q:ρ→Prop} {c:Bool} {a b:Option ρ} (h:c=true) (hk:Ok Q a):Ok Q (br c a b):=by subst h; exact hk
theorem ok_brf {ρ:Type} {Q:ρ→Prop} {c:Bool} {a b:Option ρ} (h:c=false) (hk:Ok Q b):Ok Q (br c a b):=by subst h; exact hk
end Go.Proofs.YthfepelpmalckaaGreatDoor
namespace Go.Proofs.YthfepelpmalckaaGreatDoor
open Go Go.Pv
set_option maxRecDepth 100000
theorem cl_player {l:List GPlayer} (h:l.length≤1048576):slices_Clone_player l=some l:=ok_eq (ok_nl (ok_room (by omega) (by omega) (ok_some rfl)))
theorem cl_int {l:List Int} (h:l.length≤1048576):slices_Clone_int l=some l:=ok_eq (ok_nl (ok_room (by omega) (by omega) (ok_some rfl)))
theorem cl_object {l:List GObject} (h:l.length≤1048576):slices_Clone_object l=some l:=ok_eq (ok_nl (ok_room (by omega) (by omega) (ok_some rfl)))
theorem cl_item {l:List GItem} (h:l.length≤1048576):slices_Clone_item l=some l:=ok_eq (ok_nl (ok_room (by omega) (by omega) (ok_some rfl)))
theorem cl_spec {l:List GSpec} (h:l.length≤1048576):slices_Clone_spec l=some l:=ok_eq (ok_nl (ok_room (by omega) (by omega) (ok_some rfl)))
theorem cl_effect {l:List GEffect} (h:l.length≤1048576):slices_Clone_effect l=some l:=ok_eq (ok_nl (ok_room (by omega) (by omega) (ok_some rfl)))
theorem cl_mod {l:List GMod} (h:l.length≤1048576):slices_Clone_mod l=some l:=ok_eq (ok_nl (ok_room (by omega) (by omega) (ok_some rfl)))
theorem cl_target {l:List GTarget} (h:l.length≤1048576):slices_Clone_target l=some l:=ok_eq (ok_nl (ok_room (by omega) (by omega) (ok_some rfl)))
theorem cl_waiting {l:List GWaiting} (h:l.length≤1048576):slices_Clone_waiting l=some l:=ok_eq (ok_nl (ok_room (by omega) (by omega) (ok_some rfl)))
theorem cl_cont {l:List GCont} (h:l.length≤1048576):slices_Clone_cont l=some l:=ok_eq (ok_nl (ok_room (by omega) (by omega) (ok_some rfl)))
theorem setSelf {α:Type} {l:List α} {i:Nat} (h:i<l.length):l.set i l[i]=l:=List.set_getElem_self h
theorem szMods {e:GEffect} (h:szGEffect e):e.mods.length≤1048576:=h.2.2.2.2.1
theorem copyAbility_ok (a:GAbility) (ha:szGAbility a):zone_copyAbility a=some a:=by
 have h1:a.mods.length≤1048576:=ha.2.1.1
 have h2:a.specs.length≤1048576:=ha.2.2.2.1.1
 have h3:a.effects.length≤1048576:=ha.2.2.2.2.1.1
 unfold zone_copyAbility
 refine ok_eq (ok_bnde (cl_mod h1) (ok_bnde (cl_spec h2) (ok_bnde (cl_effect h3) ?_)))
 refine ok_for 0 a.effects.length (fun _ t=>t=a.effects) 0 rfl (Nat.zero_le _) (by omega) rfl ?_ ?_
 ·rintro i t k hi rfl hk
  have hm:=szMods (ha.2.2.2.2.1.2 _ (List.getElem_mem hi))
  unfold zone_copyAbility_l1
  exact ok_brd (fun _=>ok_ixO i rfl hi (ok_get hi (ok_bnde (cl_mod hm) (ok_ixO i rfl hi (ok_get hi (hk _ (setSelf hi))))))) fun h=>absurd (show (i:Int)<(a.effects.length:Int) by omega) h
 ·rintro t k rfl
  unfold zone_copyAbility_l1
  exact ok_brd (fun h=>absurd h (by show ¬ (a.effects.length:Int)<(a.effects.length:Int); omega)) fun _=>ok_some rfl
theorem copyPlayer_ok (p:GPlayer) (hp:szGPlayer p):zone_copyPlayer p=some p:=by
 unfold zone_copyPlayer
 exact ok_eq (ok_bnde (cl_int hp.1.1) (ok_bnde (cl_int hp.2.1.1) (ok_bnde (cl_int hp.2.2.1) (ok_some rfl))))
theorem zone_Copy_ok (s:GState) (hs:szGState s):zone_Copy s=some s:=by
 obtain ⟨p1,p2,p3,p4,p5,p6,p7,p8⟩:=hs
 have q1:=p1.1; have q2:=p2.1; have q3:=p3.1; have q4:=p4.1; have q5:=p5.1; have q6:=p6.1; have q7:=p7.1; have q8:=p8.1
 unfold zone_Copy
 refine ok_eq (ok_bnde (cl_player q1) ?_)
 refine ok_for 0 s.players.length (fun _ t=>t=s.players) 0 rfl (Nat.zero_le _) (by omega) rfl ?_ ?_
 ·rintro i t k hi rfl hk
  unfold zone_Copy_l4
  exact ok_brd (fun _=>ok_ixO i rfl hi (ok_get hi (ok_bnde (copyPlayer_ok _ (p1.2 _ (List.getElem_mem hi))) (ok_ixO i rfl hi (ok_get hi (hk _ (setSelf hi))))))) fun h=>absurd (show (i:Int)<(s.players.length:Int) by omega) h
 rintro t _ rfl
 unfold zone_Copy_l4
 refine ok_brd (fun h=>absurd h (by show ¬ (s.players.length:Int)<(s.players.length:Int); omega)) fun _=>?_
 refine ok_bnde (cl_object q2) (ok_bnde (cl_int q3) (ok_bnde (cl_int q4) (ok_bnde (cl_item q5) ?_)))
 refine ok_for 0 s.stack.length (fun _ t=>t=s.stack) 0 rfl (Nat.zero_le _) (by omega) rfl ?_ ?_
 ·rintro i t k hi rfl hk
  have z:=p5.2 _ (List.getElem_mem hi)
  have ht:(s.stack[i]).targets.length≤1048576:=z.2.1
  unfold zone_Copy_l3
  refine ok_brd (fun _=>ok_ixO i rfl hi (ok_get hi (ok_bnde (copyAbility_ok _ z.1) (ok_ixO i rfl hi (ok_get hi (ok_ixO i rfl hi ?_)))))) fun h=>absurd (show (i:Int)<(s.stack.length:Int) by omega) h
  have e:s.stack.set i { s.stack[i] with ability:=(s.stack[i]).ability }=s.stack:=setSelf hi
  simp only [e]
  exact ok_get hi (ok_bnde (cl_target ht) (ok_ixO i rfl hi (ok_get hi (hk _ (setSelf hi)))))
 rintro t _ rfl
 unfold zone_Copy_l3
 refine ok_brd (fun h=>absurd h (by show ¬ (s.stack.length:Int)<(s.stack.length:Int); omega)) fun _=>?_
 refine ok_bnde (cl_waiting q6) ?_
 refine ok_for 0 s.waiting.length (fun _ t=>t=s.waiting) 0 rfl (Nat.zero_le _) (by omega) rfl ?_ ?_
 ·rintro i t k hi rfl hk
  have z:szGAbility (s.waiting[i]).ability:=p6.2 _ (List.getElem_mem hi)
  unfold zone_Copy_l2
  exact ok_brd (fun _=>ok_ixO i rfl hi (ok_get hi (ok_bnde (copyAbility_ok _ z) (ok_ixO i rfl hi (ok_get hi (hk _ (setSelf hi))))))) fun h=>absurd (show (i:Int)<(s.waiting.length:Int) by omega) h
 rintro t _ rfl
 unfold zone_Copy_l2
 refine ok_brd (fun h=>absurd h (by show ¬ (s.waiting.length:Int)<(s.waiting.length:Int); omega)) fun _=>?_
 refine ok_bnde (cl_cont q7) ?_
 refine ok_for 0 s.conts.length (fun _ t=>t=s.conts) 0 rfl (Nat.zero_le _) (by omega) rfl ?_ ?_
 ·rintro i t k hi rfl hk
  have z:=p7.2 _ (List.getElem_mem hi)
  have z1:(s.conts[i]).objects.length≤1048576:=z.1.1
  have z2:(s.conts[i]).mods.length≤1048576:=z.2.1
  unfold zone_Copy_l1
  refine ok_brd (fun _=>ok_ixO i rfl hi (ok_get hi (ok_bnde (cl_int z1) (ok_ixO i rfl hi (ok_get hi (ok_ixO i rfl hi ?_)))))) fun h=>absurd (show (i:Int)<(s.conts.length:Int) by omega) h
  have e:s.conts.set i { s.conts[i] with objects:=(s.conts[i]).objects }=s.conts:=setSelf hi
  simp only [e]
  exact ok_get hi (ok_bnde (cl_mod z2) (ok_ixO i rfl hi (ok_get hi (hk _ (setSelf hi)))))
 rintro t _ rfl
 unfold zone_Copy_l1
 refine ok_brd (fun h=>absurd h (by show ¬ (s.conts.length:Int)<(s.conts.length:Int); omega)) fun _=>?_
 exact ok_bnde (cl_int q8) (ok_some rfl)
end Go.Proofs.YthfepelpmalckaaGreatDoor
namespace Go.Proofs.YthfepelpmalckaaGreatDoor
open Go Go.Pv
theorem ok_all {ρ α:Type} {Q:ρ→Prop} {step:Int→(Int→Option ρ)→Option ρ} (l:List α) (hl:l.length≤1048576) (h:∀ (i:Nat) (k:Int→Option ρ),i<l.length→Ok Q (k (addI (i:Int) 1))→Ok Q (step (i:Int) k)) (he:∀ k,Ok Q (step (l.length:Int) k)):Ok Q (loopF step 0) :=
 ok_for1 0 l.length (fun _=>True) 0 rfl (Nat.zero_le _) (by omega) trivial (fun i k hi _ hk=>h i k hi (hk trivial)) fun k _=>he k
theorem ltT {α:Type} {l:List α} {i:Nat} (h:i<l.length):decide ((i:Int)<lenI l)=true:=by simp [lenI]; omega
theorem ltF {α:Type} {l:List α}:decide ((l.length:Int)<lenI l)=false:=by simp [lenI]
theorem same_ints (a:List Int) (ha:a.length≤1048576):r03_Same a a=some true:=by
 unfold r03_Same
 refine ok_eq (ok_brf (by simp) (ok_all a ha (fun i k hi hk=>?_) fun k=>?_))
 ·unfold r03_Same_l1; exact ok_brt (ltT hi) (ok_ixL i rfl hi (ok_ixL i rfl hi (ok_brf (by simp) hk)))
 ·unfold r03_Same_l1; exact ok_brf ltF (ok_some rfl)
theorem same_mods (a:List GMod) (ha:a.length≤1048576):r17_SameMods a a=some true:=by
 unfold r17_SameMods
 refine ok_eq (ok_brf (by simp) (ok_all a ha (fun i k hi hk=>?_) fun k=>?_))
 ·unfold r17_SameMods_l1; exact ok_brt (ltT hi) (ok_ixL i rfl hi (ok_ixL i rfl hi (ok_ltb (b:=false) (by simp [stdScmp]) hk)))
 ·unfold r17_SameMods_l1; exact ok_brf ltF (ok_some rfl)
theorem same_mods2 (a:List GMod) (ha:a.length≤1048576):r26_SameMods a a=some true:=by
 unfold r26_SameMods
 refine ok_eq (ok_brf (by simp) (ok_all a ha (fun i k hi hk=>?_) fun k=>?_))
 ·unfold r26_SameMods_l1; exact ok_brt (ltT hi) (ok_ixL i rfl hi (ok_ixL i rfl hi (ok_ltb (b:=false) (by simp [stdScmp]) hk)))
 ·unfold r26_SameMods_l1; exact ok_brf ltF (ok_some rfl)
theorem same_effect (a:GEffect) (ha:szGEffect a):r17_Same a a=some true:=by
 unfold r17_Same
 exact ok_eq (ok_brt (by simp) (ok_ltb (b:=true) (by simp [stdScmp]) (ok_brt rfl (ok_ltb (b:=true) (by simp [stdScmp]) (ok_brt rfl (ok_brt (by simp) (ok_brt (by simp) (ok_brt (by simp [stdScmp]) (ok_ltb (b:=true) (by simp [stdScmp]) (ok_brt rfl (ok_ltb (b:=true) (by simp) (ok_brt rfl (ok_bnde (same_mods _ (szMods ha)) (ok_some rfl))))))))))))))
theorem same_effects (a:List GEffect) (ha:szL szGEffect a):r17_SameList a a=some true:=by
 unfold r17_SameList
 refine ok_eq (ok_brf (by simp) (ok_all a ha.1 (fun i k hi hk=>?_) fun k=>?_))
 ·unfold r17_SameList_l1; exact ok_brt (ltT hi) (ok_ixL i rfl hi (ok_ixL i rfl hi (ok_bnde (same_effect _ (ha.2 _ (List.getElem_mem hi))) (ok_brf (by simp) hk))))
 ·unfold r17_SameList_l1; exact ok_brf ltF (ok_some rfl)
theorem same_ability (a:GAbility) (ha:szGAbility a):r20_Same a a=some true:=by
 have h1:a.mods.length≤1048576:=ha.2.1.1
 have h2:a.specs.length≤1048576:=ha.2.2.2.1.1
 unfold r20_Same
 refine ok_eq (ok_brf (by simp) (ok_all a.specs h2 (fun i k hi hk=>?_) fun k=>?_))
 ·unfold r20_Same_l1; exact ok_brt (ltT hi) (ok_ixL i rfl hi (ok_ixL i rfl hi (ok_ltb (b:=false) (by simp [stdScmp]) hk)))
 ·unfold r20_Same_l1
  exact ok_brf ltF (ok_brt (by simp) (ok_ltb (b:=true) (by simp [stdScmp]) (ok_brt rfl (ok_bnde (same_mods _ h1) (ok_brt rfl (ok_ltb (b:=true) (by simp) (ok_brt rfl (ok_brt (by simp) (ok_ltb (b:=true) (by simp [stdScmp]) (ok_brt rfl (ok_brt (by simp) (ok_bnde (same_effects _ ha.2.2.2.2.1) (ok_brt rfl (ok_ltb (b:=true) (by simp [stdScmp]) (ok_some rfl)))))))))))))))
theorem same_item (a:GItem) (ha:szGItem a):r26_SameItem a a=some true:=by
 have h1:a.targets.length≤1048576:=ha.2.1
 unfold r26_SameItem
 refine ok_eq (ok_brf (by simp) (ok_all a.targets h1 (fun i k hi hk=>?_) fun k=>?_))
 ·unfold r26_SameItem_l1; exact ok_brt (ltT hi) (ok_ixL i rfl hi (ok_ixL i rfl hi (ok_ltb (b:=false) (by simp) hk)))
 ·unfold r26_SameItem_l1
  exact ok_brf ltF (ok_brt (by simp) (ok_brt (by simp) (ok_brt (by simp) (ok_brt (by simp) (ok_brt (by simp) (ok_brt (by simp) (ok_bnde (same_ability _ ha.1) (ok_brt rfl (ok_ltb (b:=true) (by simp) (ok_some rfl))))))))))
theorem same_waiting (a:GWaiting) (ha:szGWaiting a):r26_SameWaiting a a=some true:=by
 unfold r26_SameWaiting
 exact ok_eq (ok_brt (by simp) (ok_brt (by simp) (ok_bnde (same_ability _ ha) (ok_brt rfl (ok_ltb (b:=true) (by simp) (ok_some rfl))))))
theorem same_cont (a:GCont) (ha:szGCont a):r26_SameCont a a=some true:=by
 unfold r26_SameCont
 exact ok_eq (ok_brt (by simp) (ok_brt (by simp) (ok_brt (by simp) (ok_brt (by simp) (ok_bnde (same_ints _ ha.1.1) (ok_bnde (same_mods2 _ ha.2.1) (ok_some rfl)))))))
theorem same_player (a:GPlayer) (ha:szGPlayer a):r26_SamePlayer a a=some true:=by
 unfold r26_SamePlayer
 refine ok_eq (ok_jn (fun s=>s=false) ?_ ?_)
 ·intro k h
  exact ok_brf (by simp) (ok_brf (by simp) (ok_brf (by simp) (ok_ltb (b:=false) (by simp) (ok_brf rfl (ok_brf (by simp) (h _ (by simp)))))))
 ·rintro s rfl
  exact ok_bnde (same_ints _ ha.1.1) (ok_bnde (same_ints _ ha.2.1.1) (ok_bnde (same_ints _ ha.2.2.1) (ok_some rfl)))
theorem same_lists (a:GState) (ha:szGState a):r26_lists a a=some true:=by
 obtain ⟨p1,p2,p3,p4,p5,p6,p7,p8⟩:=ha
 unfold r26_lists
 refine ok_eq (ok_jn (fun s=>s=false) ?_ ?_)
 ·intro k h
  exact ok_brf (by simp) (ok_brf (by simp) (ok_brf (by simp) (ok_brf (by simp) (h _ (by simp)))))
 rintro s rfl
 refine ok_brf rfl (ok_all a.players p1.1 (fun i k hi hk=>?_) fun k=>?_)
 ·unfold r26_lists_l5; exact ok_brt (ltT hi) (ok_ixL i rfl hi (ok_ixL i rfl hi (ok_bnde (same_player _ (p1.2 _ (List.getElem_mem hi))) (ok_brf (by simp) hk))))
 unfold r26_lists_l5
 refine ok_brf ltF (ok_all a.objects p2.1 (fun i k hi hk=>?_) fun k=>?_)
 ·unfold r26_lists_l4; exact ok_brt (ltT hi) (ok_ixL i rfl hi (ok_ixL i rfl hi (ok_ltb (b:=false) (by simp) hk)))
 unfold r26_lists_l4
 refine ok_brf ltF (ok_all a.stack p5.1 (fun i k hi hk=>?_) fun k=>?_)
 ·unfold r26_lists_l3; exact ok_brt (ltT hi) (ok_ixL i rfl hi (ok_ixL i rfl hi (ok_bnde (same_item _ (p5.2 _ (List.getElem_mem hi))) (ok_brf (by simp) hk))))
 unfold r26_lists_l3
 refine ok_brf ltF (ok_all a.waiting p6.1 (fun i k hi hk=>?_) fun k=>?_)
 ·unfold r26_lists_l2; exact ok_brt (ltT hi) (ok_ixL i rfl hi (ok_ixL i rfl hi (ok_bnde (same_waiting _ (p6.2 _ (List.getElem_mem hi))) (ok_brf (by simp) hk))))
 unfold r26_lists_l2
 refine ok_brf ltF (ok_all a.conts p7.1 (fun i k hi hk=>?_) fun k=>?_)
 ·unfold r26_lists_l1; exact ok_brt (ltT hi) (ok_ixL i rfl hi (ok_ixL i rfl hi (ok_bnde (same_cont _ (p7.2 _ (List.getElem_mem hi))) (ok_brf (by simp) hk))))
 unfold r26_lists_l1
 exact ok_brf ltF (ok_some rfl)
theorem same_state (a:GState) (ha:szGState a):r26_Same a a=some true:=by
 unfold r26_Same
 refine ok_eq (ok_jn (fun s=>s=false) ?_ ?_)
 ·intro k h
  exact ok_brf (by simp) (ok_brf (by simp) (ok_brf (by simp) (ok_brf (by simp) (ok_brf (by simp) (ok_brf (by simp) (ok_brf (by simp) (ok_brf (by simp) (ok_brf (by simp) (ok_brf (by simp) (h _ (by simp)))))))))))
 rintro s rfl
 obtain ⟨p1,p2,p3,p4,p5,p6,p7,p8⟩:=id ha
 exact ok_bnde (same_lists a ha) (ok_bnde (same_ints _ p3.1) (ok_bnde (same_ints _ p4.1) (ok_bnde (same_ints _ p8.1) (ok_some rfl))))
end Go.Proofs.YthfepelpmalckaaGreatDoor
