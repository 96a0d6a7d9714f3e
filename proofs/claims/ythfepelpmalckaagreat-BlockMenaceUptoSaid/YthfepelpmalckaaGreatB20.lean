import Derived.KernelRfl
import Derived.Test.YthfepelpmalckaaGreatB18
import Derived.Test.YthfepelpmalckaaGreatB19
set_option linter.all false
namespace Go.Proofs.YthfepelpmalckaaGreat
open Go Go.Pv
set_option maxRecDepth 100000
def szGFilter (x:GFilter):Prop:=szB x.sub
def szGMod (x:GMod):Prop:=szB x.sub∧szGFilter x.filter
def szGTrigger (x:GTrigger):Prop:=szGFilter x.filter
def szGSpec (x:GSpec):Prop:=szGFilter x.filter
def szGRef (x:GRef):Prop:=szGFilter x.filter
def szGAmount (x:GAmount):Prop:=szGFilter x.filter
def szGEffect (x:GEffect):Prop:=szGRef x.ref∧szGAmount x.amount∧szB x.card∧szGFilter x.filter∧(szL szGMod) x.mods
def szGReplace (x:GReplace):Prop:=szGFilter x.filter
def szGAbility (x:GAbility):Prop:=szGFilter x.filter∧(szL szGMod) x.mods∧szGTrigger x.trigger∧(szL szGSpec) x.specs∧(szL szGEffect) x.effects∧szGReplace x.replace
def szGPlayer (x:GPlayer):Prop:=(szL (fun (_:Int)=>True)) x.library∧(szL (fun (_:Int)=>True)) x.hand∧(szL (fun (_:Int)=>True)) x.graveyard
def szGItem (x:GItem):Prop:=szGAbility x.ability∧(szL (fun (_:GTarget)=>True)) x.targets
def szGWaiting (x:GWaiting):Prop:=szGAbility x.ability
def szGCont (x:GCont):Prop:=(szL (fun (_:Int)=>True)) x.objects∧(szL szGMod) x.mods
def szGState (x:GState):Prop:=(szL szGPlayer) x.players∧(szL (fun (_:GObject)=>True)) x.objects∧(szL (fun (_:Int)=>True)) x.battlefield∧(szL (fun (_:Int)=>True)) x.exile∧(szL szGItem) x.stack∧(szL szGWaiting) x.waiting∧(szL szGCont) x.conts∧(szL (fun (_:Int)=>True)) x.extra
theorem ok_brt {ρ:Type} {Q:ρ→Prop} {c:Bool} {a b:Option ρ} (h:c=true) (hk:Ok Q a):Ok Q (br c a b):=by subst h; exact hk
theorem ok_brf {ρ:Type} {Q:ρ→Prop} {c:Bool} {a b:Option ρ} (h:c=false) (hk:Ok Q b):Ok Q (br c a b):=by subst h; exact hk
end Go.Proofs.YthfepelpmalckaaGreat
namespace Go.Proofs.YthfepelpmalckaaGreat
open Go Go.Pv
set_option maxRecDepth 100000
def szGLine (x:GLine):Prop:=(szL szB) x.subs
def SW (n:Nat) (l:List ByteArray):Prop:=l.length=n∧n≤100∧∀ x∈l,x.size≤100
theorem SW.sz {n:Nat} {l:List ByteArray} (h:SW n l):szL szB l:=⟨by have:=h.1; have:=h.2.1; omega,fun x hx=>by have:=h.2.2 x hx; show x.size≤1048576; omega⟩
def WL (n:Nat) (l:List ByteArray):Prop:=l.length≤n∧∀ x∈l,x.size≤140737488360000
theorem WL.add {n:Nat} {l:List ByteArray} {x:ByteArray} (h:WL n l) (hx:x.size≤140737488360000):WL (n+1) (l ++ [x]):=⟨by have:=h.1; simp; omega,fun y hy=>by
 rcases List.mem_append.1 hy with hy | hy
 ·exact h.2 y hy
 ·rw [List.mem_singleton.1 hy]; exact hx⟩
theorem WL.mono {n m:Nat} {l:List ByteArray} (h:WL n l) (hm:n≤m):WL m l:=⟨by have:=h.1; omega,h.2⟩
end Go.Proofs.YthfepelpmalckaaGreat
namespace Go.Proofs.YthfepelpmalckaaGreat
open Go Go.Pv
theorem take_succ_get {α:Type} (l:List α) (n:Nat) (h:n<l.length):l.take (n+1)=l.take n ++ [l[n]]:=by
 rw [List.take_succ,List.getElem?_eq_getElem h]; rfl
theorem take_all {α:Type} (l:List α):l.take l.length=l:=List.take_of_length_le (Nat.le_refl _)
def nd (needs:List (List Bool)) (i j:Int):Bool:=decide (0≤i) && (decide (0≤j) && ((needs[i.toNat]?.bind fun r=>r[j.toNat]?).getD false))
inductive TC (l:List Int) (needs:List (List Bool)):Int→Int→Prop
 | one (i j:Int):i∈l→j∈l→nd needs i j=true→TC l needs i j
 | step (i k j:Int):i∈l→k∈l→nd needs i k=true→TC l needs k j→TC l needs i j
theorem TC.r {l:List Int} {needs:List (List Bool)} {i j:Int} (h:TC l needs i j):j∈l:=by
 induction h with
 | one _ _ _ h _=>exact h
 | step _ _ _ _ _ _ _ ih=>exact ih
theorem TC.l {l:List Int} {needs:List (List Bool)} {i j:Int} (h:TC l needs i j):i∈l:=by
 cases h with
 | one _ _ h _ _=>exact h
 | step _ _ _ h _ _ _=>exact h
theorem TC.trans {l:List Int} {needs:List (List Bool)} {i j k:Int} (h:TC l needs i j) (h2:TC l needs j k):TC l needs i k:=by
 induction h with
 | one _ _ a b c=>exact .step _ _ _ a b c h2
 | step _ _ _ a b c _ ih=>exact .step _ _ _ a b c (ih h2)
theorem TC.congr {l l' : List Int} {needs:List (List Bool)} (hl:∀ x,x∈l→x∈l') {i j:Int} (h:TC l needs i j):TC l' needs i j:=by
 induction h with
 | one _ _ a b c=>exact .one _ _ (hl _ a) (hl _ b) c
 | step _ _ _ a b c _ ih=>exact .step _ _ _ (hl _ a) (hl _ b) c ih
def stF (stamps:List Int) (i:Int):Int:=(stamps[i.toNat]?).getD 0
def nx (stamps:List Int) (b x:Int):Int:=if b<0∨stF stamps x<stF stamps b∨(stF stamps x=stF stamps b∧x<b) then x else b
def before (stamps:List Int) (x y:Int):Prop:=stF stamps x<stF stamps y∨(stF stamps x=stF stamps y∧x≤y)
end Go.Proofs.YthfepelpmalckaaGreat
namespace Go.Proofs.YthfepelpmalckaaGreat
open Go Go.Pv
set_option maxRecDepth 100000
def szGTraits (x:GTraits):Prop:=szB x.name∧szGLine x.line∧(szL szGAbility) x.abilities
def szGR30Force (x:GR30Force):Prop:=(szL (fun (_:Int)=>True)) x.objects∧szGFilter x.filter∧(szL szGMod) x.mods
end Go.Proofs.YthfepelpmalckaaGreat
namespace Go.Proofs.YthfepelpmalckaaGreat
open Go Go.Pv
set_option maxRecDepth 100000
structure CardOK (c:GCard):Prop where
 types:1≤c.line.types∧c.line.types≤63
 keys:0≤c.keys∧c.keys≤131071
 abil:c.abilities.length≤8
 pt:(0≤c.power∧c.power≤99)∧0≤c.tough∧c.tough≤99
structure TrOK (t:GTraits):Prop where
 sz:szGTraits t
 types:0≤t.line.types∧t.line.types≤63
 keys:0≤t.keys∧t.keys≤131071
 pt:(-1000000≤t.power∧t.power≤1000000)∧-1000000≤t.tough∧t.tough≤1000000
theorem TrOK.t {t:GTraits} (h:TrOK t):0≤t.line.types∧t.line.types<9223372036854775808:=by have:=h.types; omega
theorem TrOK.k {t:GTraits} (h:TrOK t):0≤t.keys∧t.keys<9223372036854775808:=by have:=h.keys; omega
structure FromC (c:GCard) (t:GTraits):Prop where
 name:t.name=c.name
 line:t.line=c.line
 keys:t.keys=c.keys
 abil:t.abilities=c.abilities
 power:t.power=c.power
 tough:t.tough=c.tough
theorem zTr:TrOK zGTraits:=by
 refine ⟨?_,by decide,by decide,by decide⟩
 simp [szGTraits,szGLine,szB,szL,zGTraits,zGLine,bs_size]
structure ModOK (m:GMod):Prop where
 types:m.kind=2∨m.kind=3→1≤m.n∧m.n≤63
 keys:m.kind=8∨m.kind=9→1≤m.n∧m.n≤131071
 pt:m.kind=12→(0≤m.n∧m.n≤99)∧0≤m.m∧m.m≤99
end Go.Proofs.YthfepelpmalckaaGreat
namespace Go.Proofs.YthfepelpmalckaaGreat
open Go Go.Pv
set_option maxRecDepth 100000
structure WOK (s:GState) (L:List GR30Force) (w:GR30World):Prop where
 st:w.s=s
 l:w.l=L
 all:w.all.length=s.objects.length
 tr:∀ t∈w.all,TrOK t
 begun:w.begun.length=L.length
 sets:w.sets.length=L.length
 setl:∀ x∈w.sets,x.length≤2048
 blank:w.blank.length=s.objects.length
structure HypL (s:GState) (L:List GR30Force):Prop where
 hs:szGState s
 ho:s.objects.length≤2048
 len:L.length≤1100000
 f:∀ f∈L,szGR30Force f
section
variable {s:GState} {L:List GR30Force} (H:HypL s L) {w:GR30World} (W:WOK s L w)
include H W
omit H W in
omit H W in
omit H W in
end
end Go.Proofs.YthfepelpmalckaaGreat
namespace Go.Proofs.YthfepelpmalckaaGreat
open Go Go.Pv
set_option maxRecDepth 100000
def hasB (m:Int) (j:Nat):Bool:=decide (m.toNat / 2 ^ j % 2=1)
theorem and_two (m j:Nat):m &&& 2 ^ j=if m / 2 ^ j % 2=1 then 2 ^ j else 0:=by
 have hb:m.testBit j=decide (m / 2 ^ j % 2=1):=Nat.testBit_eq_decide_div_mod_eq
 refine Nat.eq_of_testBit_eq fun i=>?_
 rw [Nat.testBit_and,Nat.testBit_two_pow]
 by_cases h:m / 2 ^ j % 2=1
 ·rw [if_pos h,Nat.testBit_two_pow]
  by_cases e:j=i
  ·subst e; rw [hb]; simp [h]
  ·simp [e]
 ·rw [if_neg h]
  by_cases e:j=i
  ·subst e; rw [hb]; simp [h]
  ·simp [e]
theorem and_bit (m j:Nat) (hm:m<2 ^ 63) (hj:j<63):stdBin .and .i64 (m:Int) ((2 ^ j:Nat):Int)=((if m / 2 ^ j % 2=1 then 2 ^ j else 0:Nat):Int):=by
 have hp:2 ^ j<2 ^ 63:=Nat.pow_lt_pow_right (by decide) hj
 have e:(BitVec.ofInt 64 (m:Int) &&& BitVec.ofInt 64 ((2 ^ j:Nat):Int)).toNat=if m / 2 ^ j % 2=1 then 2 ^ j else 0:=by
  rw [BitVec.toNat_and,BitVec.ofInt_natCast,BitVec.ofInt_natCast,BitVec.toNat_ofNat,BitVec.toNat_ofNat,Nat.mod_eq_of_lt (by omega),Nat.mod_eq_of_lt (by omega),and_two]
 show IntKind.i64.wrap (((BitVec.ofInt 64 (m:Int) &&& BitVec.ofInt 64 ((2 ^ j:Nat):Int)).toNat:Nat):Int)=_
 rw [e]
 refine wrap_in (by omega) ?_
 split <;> omega
theorem key46 (m j:Nat) (hm:m<2 ^ 63) (hj:j<63):keyword_Has (m:Int) ((2 ^ j:Nat):Int)=some (hasB m j):=by
 have hp:0<2 ^ j:=Nat.two_pow_pos j
 unfold keyword_Has hasB
 rw [and_bit m j hm hj,Int.toNat_natCast]
 refine congrArg some (decide_eq_decide.2 ?_)
 by_cases h:m / 2 ^ j % 2=1
 ·rw [if_pos h]; simp [h]
 ·rw [if_neg h]; simp only [h,iff_false]; omega
theorem block_Can1 (t:GTraits) (j:Nat) (h0:0≤t.keys) (h1:t.keys<9223372036854775808) (hj:j<63):block_Can_1 t ((2 ^ j:Nat):Int)=some (hasB t.keys j):=by
 obtain ⟨m,hm⟩:=Int.eq_ofNat_of_zero_le h0
 unfold block_Can_1
 rw [hm]
 exact ok_eq (ok_bnde (key46 m j (by omega) hj) (ok_some rfl))
def canR (b:GObject) (tb:GTraits) (ta:GTraits):Bool :=
 bif !hasB tb.line.types 0 || b.tapped || hasB tb.keys 15 || hasB ta.keys 13 then false else !hasB ta.keys 0 || hasB tb.keys 0 || hasB tb.keys 1
theorem block_Can_ok (b:GObject) (tb:GTraits) (a:GObject) (ta:GTraits) (h1:0≤tb.line.types∧tb.line.types<9223372036854775808) (h2:0≤tb.keys∧tb.keys<9223372036854775808) (h3:0≤ta.keys∧ta.keys<9223372036854775808):block_Can b tb a ta=some (canR b tb ta):=by
 have e1:(decide ((stdBin .and .i64 tb.line.types 1)=0))=!hasB tb.line.types 0:=by
  obtain ⟨m,hm⟩:=Int.eq_ofNat_of_zero_le h1.1
  rw [hm]
  have:=and_bit m 0 (by omega) (by omega)
  rw [show (1:Int)=((2 ^ 0:Nat):Int) from rfl,this]
  unfold hasB
  by_cases h:m / 2 ^ 0 % 2=1
  ·rw [if_pos h,Int.toNat_natCast,decide_eq_true h]; rfl
  ·rw [if_neg h,Int.toNat_natCast,decide_eq_false h]; rfl
 have k0:=block_Can1 ta 0 h3.1 h3.2 (by omega)
 have k1:=block_Can1 tb 0 h2.1 h2.2 (by omega)
 have k2:=block_Can1 tb 1 h2.1 h2.2 (by omega)
 have k3:=block_Can1 tb 15 h2.1 h2.2 (by omega)
 have k4:=block_Can1 ta 13 h3.1 h3.2 (by omega)
 unfold block_Can canR
 rw [e1]
 refine ok_eq (ok_jn (fun s=>s=(!hasB tb.line.types 0 || b.tapped || hasB tb.keys 15 || hasB ta.keys 13)) ?_ ?_)
 ·intro k hk
  refine ok_br (fun c1=>hk _ (by simp [c1])) fun c1=>ok_br (fun c2=>hk _ (by simp [c2])) fun c2=>ok_bnde k3 (ok_br (fun c3=>hk _ (by simp [c3])) fun c3=>ok_bnde k4 (hk _ (by simp [c1,c2,c3])))
 ·rintro s rfl
  refine ok_br (fun c=>ok_some (by rw [c]; rfl)) fun c=>?_
  rw [c]
  refine ok_bnde k0 (ok_br (fun d1=>ok_some ?_) fun d1=>ok_bnde k1 (ok_br (fun d2=>ok_some ?_) fun d2=>ok_bnde k2 (ok_some ?_)))
  ·simp at d1; simp [d1]
  ·simp [d2]
  ·simp at d1; simp [d1,d2]
end Go.Proofs.YthfepelpmalckaaGreat
namespace Go.Proofs.YthfepelpmalckaaGreat
open Go Go.Pv
set_option maxRecDepth 100000
structure ValidV (cards:List GCard) (s:GState):Prop where
 c:∀ c∈cards,CardOK c
 o:s.objects.length≤2048
end Go.Proofs.YthfepelpmalckaaGreat
namespace Go.Proofs.YthfepelpmalckaaGreat
open Go Go.Pv
set_option maxRecDepth 100000
def Asc (l:List GObject):Prop:=∀ (i:Nat) (a b:GObject),l[i]?=some a→l[i+1]?=some b→a.id<b.id
theorem Asc.lt {l:List GObject} (h:Asc l):∀ (d i:Nat) (a b:GObject),l[i]?=some a→l[i+1+d]?=some b→a.id<b.id
 | 0,i,a,b,ha,hb=>h i a b ha hb
 | d+1,i,a,b,ha,hb=>by
  have hlt:i+1<l.length:=by
   have:=(List.getElem?_eq_some_iff.1 hb).1
   omega
  have h1:=h i a _ ha (List.getElem?_eq_getElem hlt)
  have h2:=Asc.lt h d (i+1) _ b (List.getElem?_eq_getElem hlt) (by rw [show i+1+1+d=i+1+(d+1) by omega]; exact hb)
  omega
theorem Asc.inj {l:List GObject} (h:Asc l) {i j:Nat} {a b:GObject} (ha:l[i]?=some a) (hb:l[j]?=some b) (e:a.id=b.id):i=j:=by
 rcases Nat.lt_trichotomy i j with hij | hij | hij
 ·have:=h.lt (j - i - 1) i a b ha (by rw [show i+1+(j - i - 1)=j by omega]; exact hb)
  omega
 ·exact hij
 ·have:=h.lt (i - j - 1) j b a hb (by rw [show j+1+(i - j - 1)=i by omega]; exact ha)
  omega
end Go.Proofs.YthfepelpmalckaaGreat
namespace Go.Proofs.YthfepelpmalckaaGreat
open Go Go.Pv
set_option maxRecDepth 100000
noncomputable instance:DecidableEq GOption:=fun a b=>Classical.propDecidable _
def cntB (l:List GOption) (b:Int):Nat:=(l.filter fun o=>decide (o.b=b)).length
theorem cntB_succ (l:List GOption) (b:Int) (i:Nat) (hi:i<l.length):cntB (l.take (i+1)) b=cntB (l.take i) b+(if l[i].b=b then 1 else 0):=by
 unfold cntB
 rw [take_succ_get l i hi,List.filter_append,List.length_append]
 congr 1
 by_cases h:l[i].b=b <;> simp [h]
theorem cntB_le (l:List GOption) (b:Int):cntB l b≤l.length:=List.length_filter_le _ _
def trA (all:List GTraits) (i:Nat):GTraits:=if h:i<all.length then all[i] else zGTraits
theorem trA_ok {all:List GTraits} (h:∀ t∈all,TrOK t) (i:Nat):TrOK (trA all i):=by
 unfold trA; split
 ·exact h _ (List.getElem_mem _)
 ·exact zTr
theorem btr_eq (all:List GTraits) (i:Nat):block_traits all (i:Int)=some (trA all i):=by
 unfold block_traits trA
 refine ok_eq (ok_brd (fun h2=>?_) fun h2=>?_)
 ·have hi:i<all.length:=by simp only [lenI] at h2; omega
  exact ok_ixL i rfl hi (ok_some (by rw [dif_pos hi]))
 ·have hi:¬ i<all.length:=by simp only [lenI] at h2; omega
  exact ok_some (by rw [dif_neg hi])
def menA (all:List GTraits) (i:Nat):Bool:=hasB (trA all i).keys 9
theorem optEq (a b:GOption):(decide (a.kind=b.kind) && (decide (a.a=b.a) && (decide (a.b=b.b) && true)))=decide (a=b):=by
 by_cases h:a=b
 ·subst h; simp
 ·rw [decide_eq_false h]
  cases a; cases b; simp at h ⊢; exact h
theorem contains_okO (l:List GOption) (o:GOption) (hl:l.length≤4194304):slices_Contains_option l o=some (decide (o∈l)):=by
 have ix:Ok (fun r=>(o ∉ l∧r=-1)∨(o∈l∧0≤r)) (slices_Index_option l o):=by
  unfold slices_Index_option
  refine ok_for1 0 l.length (fun n=>o ∉ l.take n) 0 rfl (Nat.zero_le _) (by omega) (by simp) (fun i k hi hI hk=>?_) fun k hI=>?_
  ·unfold slices_Index_option_l1
   refine ok_brd (fun _=>ok_ixL i rfl hi (ok_lt ?_)) fun h=>absurd (show (i:Int)<(l.length:Int) by omega) h
   rw [optEq]
   refine ok_brd (fun e=>ok_some (.inr ⟨e ▸ List.getElem_mem hi,by omega⟩)) fun e=>hk ?_
   rw [take_succ_get l i hi]; simp only [List.mem_append,List.mem_singleton]; exact fun h=>h.elim hI fun h=>e h
  ·unfold slices_Index_option_l1
   rw [take_all] at hI
   exact ok_brd (fun h=>absurd h (by show ¬ (l.length:Int)<(l.length:Int); omega)) fun _=>ok_some (.inl ⟨hI,rfl⟩)
 unfold slices_Contains_option
 refine ok_eq (ok_bnd ix ?_)
 rintro r (⟨h,rfl⟩ | ⟨h,h2⟩)
 ·exact ok_some (by simp [h])
 ·exact ok_some (by simp [h,h2])
theorem twice_ok (l:List GOption) (o:GOption) (hl:l.length≤4194304):Ok (fun r=>r=true ↔ ∃ x∈l,x.a=o.a) (slices_ContainsFunc_option l fun a0=>block_Check_1 a0 o):=by
 have ix:Ok (fun r=>((¬ ∃ x∈l,x.a=o.a)∧r=-1)∨((∃ x∈l,x.a=o.a)∧0≤r)) (slices_IndexFunc_option l fun a0=>block_Check_1 a0 o):=by
  unfold slices_IndexFunc_option
  refine ok_for1 0 l.length (fun n=>¬ ∃ x∈l.take n,x.a=o.a) 0 rfl (Nat.zero_le _) (by omega) (by simp) (fun i k hi hI hk=>?_) fun k hI=>?_
  ·unfold slices_IndexFunc_option_l1
   refine ok_brd (fun _=>ok_ixL i rfl hi (ok_bnde (x:=decide (l[i].a=o.a)) rfl (ok_brd (fun e=>ok_some (.inr ⟨⟨_,List.getElem_mem hi,e⟩,by omega⟩)) fun e=>hk ?_))) fun h=>absurd (show (i:Int)<(l.length:Int) by omega) h
   rw [take_succ_get l i hi]
   rintro ⟨x,hx,hx2⟩
   rcases List.mem_append.1 hx with hx | hx
   ·exact hI ⟨x,hx,hx2⟩
   ·rw [List.mem_singleton.1 hx] at hx2; exact e hx2
  ·unfold slices_IndexFunc_option_l1
   rw [take_all] at hI
   exact ok_brd (fun h=>absurd h (by show ¬ (l.length:Int)<(l.length:Int); omega)) fun _=>ok_some (.inl ⟨hI,rfl⟩)
 unfold slices_ContainsFunc_option
 refine ok_bnd ix ?_
 rintro r (⟨h,rfl⟩ | ⟨h,h2⟩)
 ·exact ok_some ⟨fun h=>(by simp at h),fun h'=>absurd h' h⟩
 ·exact ok_some ⟨fun _=>h,fun _=>by simp [h2]⟩
section
variable (s:GState) (all able l:List GOption) (T:List GTraits)
def PBad (s:GState) (T:List GTraits) (able l:List GOption):Prop :=
 (∃ i,∃ h:i<l.length,l[i] ∉ able∨∃ x∈l.take i,x.a=l[i].a)∨∃ j,∃ h:j<s.objects.length,menA T j=true∧cntB l s.objects[j].id=1
end
theorem bcheck_ok (s:GState) (T:List GTraits) (p:Int) (able l:List GOption) (hT:∀ t∈T,TrOK t) (ho:s.objects.length≤2048) (hab:able.length≤4194304) (hl:l.length≤100000) (e:block_Able s T p=some able) :
  Ok (fun r=>(r=19∧PBad s T able l)∨(r=0∧¬ PBad s T able l)) (block_Check s T p l):=by
 have mkey:∀ j:Nat,keyword_Has (trA T j).keys 512=some (menA T j):=fun j=>by
  have ht:=trA_ok hT j
  have hk:=ht.k
  obtain ⟨m,hm⟩:=Int.eq_ofNat_of_zero_le hk.1
  unfold menA
  rw [hm]
  exact key46 m 9 (by omega) (by omega)
 unfold block_Check
 refine ok_bnde e ?_
 refine ok_for1 0 l.length (fun n=>∀ i,∀ h:i<l.length,i<n→l[i]∈able∧¬ ∃ x∈l.take i,x.a=l[i].a) 0 rfl (Nat.zero_le _) (by omega) (fun i _ h=>by omega) (fun i k hi hI hk=>?_) fun k hI=>?_
 ·unfold block_Check_l3
  refine ok_brd (fun _=>ok_ixL i rfl hi (ok_slc rfl rfl (Nat.zero_le _) (Nat.le_of_lt hi) ?_)) fun h=>absurd (show (i:Int)<(l.length:Int) by omega) h
  have hsub:subL l 0 (i - 0)=l.take i:=by simp [subL]
  show Ok _ (bnd (slices_ContainsFunc_option (subL l 0 (i - 0)) _) _)
  rw [hsub]
  refine ok_bnd (twice_ok (l.take i) l[i] (by simp; omega)) fun y hy=>ok_jn (fun b=>(b=true→l[i] ∉ able∨∃ x∈l.take i,x.a=l[i].a)∧(b=false→l[i]∈able∧¬ ∃ x∈l.take i,x.a=l[i].a)) (fun k9 h9=>?_) fun b hb=>?_
  ·refine ok_br (fun h=>h9 _ ⟨fun _=>.inr (hy.1 h),fun h=>by cases h⟩) fun h=>ok_bnde (contains_okO able l[i] hab) (h9 _ ?_)
   have hno:¬ ∃ x∈l.take i,x.a=l[i].a:=fun h2=>by rw [hy.2 h2] at h; cases h
   by_cases hm:l[i]∈able
   ·simp only [decide_eq_true hm]; exact ⟨fun h=>(by simp at h),fun _=>⟨hm,hno⟩⟩
   ·simp only [decide_eq_false hm]; exact ⟨fun _=>.inl hm,fun h=>by simp at h⟩
  ·refine ok_br (fun h=>ok_some (.inl ⟨rfl,.inl ⟨i,hi,hb.1 h⟩⟩)) fun h=>hk fun j hj hji=>?_
   by_cases hjl:j<i
   ·exact hI j hj hjl
   ·have:j=i:=by omega
    subst this; exact hb.2 h
 ·unfold block_Check_l3
  refine ok_brd (fun h=>absurd h (by show ¬ (l.length:Int)<(l.length:Int); omega)) fun _=>?_
  have h1:¬ ∃ i,∃ h:i<l.length,l[i] ∉ able∨∃ x∈l.take i,x.a=l[i].a:=by
   rintro ⟨i,hi,h | h⟩
   ·exact h (hI i hi hi).1
   ·exact (hI i hi hi).2 h
  refine ok_for1 0 s.objects.length (fun n=>∀ j,∀ h:j<s.objects.length,j<n→¬ (menA T j=true∧cntB l s.objects[j].id=1)) 0 rfl (Nat.zero_le _) (by omega) (fun i _ h=>by omega) (fun j k hj hJ hk=>?_) fun k hJ=>?_
  ·unfold block_Check_l2
   refine ok_brd (fun _=>ok_jn (fun _=>¬ (menA T j=true∧cntB l s.objects[j].id=1)) (fun k16 h16=>?_) fun _ hb=>hk fun i hi hij=>?_) fun h=>absurd (show (j:Int)<(s.objects.length:Int) by omega) h
   ·refine ok_ixL j rfl hj (ok_bnde (btr_eq T j) (ok_bnde (mkey j) (ok_br (fun h=>h16 _ fun h2=>by rw [h2.1] at h; cases h) fun h=>?_)))
    have hm:menA T j=true:=by cases hh:menA T j with | true=>rfl | false=>rw [hh] at h; cases h
    refine ok_forr 0 l.length (fun n c=>c=(cntB (l.take n) s.objects[j].id:Int)) 0 rfl (Nat.zero_le _) (by omega) rfl (fun n c k22 hn hc hk22=>?_) fun c k22 hc=>?_
    ·have hcl:cntB (l.take n) s.objects[j].id≤n:=Nat.le_trans (cntB_le _ _) (by simp; omega)
     unfold block_Check_l1
     refine ok_brd (fun _=>ok_jn (fun u=>u=(cntB (l.take (n+1)) s.objects[j].id:Int)) (fun k25 h25=>?_) fun u hu=>hk22 u hu) fun h=>absurd (show (n:Int)<(l.length:Int) by omega) h
     refine ok_ixL n rfl hn (ok_brd (fun e=>h25 _ ?_) fun e=>h25 _ ?_)
     ·rw [cntB_succ l _ n hn,if_pos e,hc]; exact addI_nat (by omega)
     ·rw [cntB_succ l _ n hn,if_neg e,hc]; rfl
    ·unfold block_Check_l1
     rw [take_all] at hc
     refine ok_brd (fun h=>absurd h (by show ¬ (l.length:Int)<(l.length:Int); omega)) fun _=>ok_brd (fun e=>ok_some (.inl ⟨rfl,.inr ⟨j,hj,hm,?_⟩⟩)) fun e=>h16 _ fun h2=>e ?_
     ·have e:c=1:=e
      omega
     ·show c=1
      have:=h2.2
      omega
   ·by_cases hij2:i<j
    ·exact hJ i hi hij2
    ·have:i=j:=by omega
     subst this; exact hb
  ·unfold block_Check_l2
   refine ok_brd (fun h=>absurd h (by show ¬ (s.objects.length:Int)<(s.objects.length:Int); omega)) fun _=>ok_some (.inr ⟨rfl,?_⟩)
   rintro (h | ⟨j,hj,h⟩)
   ·exact h1 h
   ·exact hJ j hj hj h
end Go.Proofs.YthfepelpmalckaaGreat
namespace Go.Proofs.YthfepelpmalckaaGreat
open Go Go.Pv
set_option maxRecDepth 100000
set_option maxHeartbeats 2000000
def inV (s:GState) (T:List GTraits) (p:Int) (i:Nat) (b:GObject):Nat→List GOption
 | 0=>[]
 | j+1=>inV s T p i b j ++ (match s.objects[j]? with
  | some a=>if a.zone=0∧a.attack=p∧canR b (trA T i) (trA T j)=true then [GOption.mk 8 b.id a.id] else []
  | none=>[])
def abV (s:GState) (T:List GTraits) (p:Int):Nat→List GOption
 | 0=>[]
 | i+1=>abV s T p i ++ (match s.objects[i]? with
  | some b=>if b.zone=0∧(trA T i).control=p then inV s T p i b s.objects.length else []
  | none=>[])
theorem inV_len (s:GState) (T:List GTraits) (p:Int) (i:Nat) (b:GObject):∀ j,(inV s T p i b j).length≤j
 | 0=>Nat.le_refl _
 | j+1=>by
  have:=inV_len s T p i b j
  simp only [inV,List.length_append]
  split
  ·split <;> simp <;> omega
  ·simp; omega
theorem abV_len (s:GState) (T:List GTraits) (p:Int) (ho:s.objects.length≤2048):∀ i,(abV s T p i).length≤2048 * i
 | 0=>Nat.le_refl _
 | i+1=>by
  have:=abV_len s T p ho i
  simp only [abV,List.length_append]
  split
  ·rename_i b _
   have:=inV_len s T p i b s.objects.length
   split
   ·omega
   ·simp; omega
  ·simp; omega
theorem able_val (s:GState) (T:List GTraits) (p:Int) (h:∀ t∈T,TrOK t) (ho:s.objects.length≤2048):block_Able s T p=some (abV s T p s.objects.length):=by
 have key:Ok (fun r=>r=abV s T p s.objects.length) (block_Able s T p):=by
  unfold block_Able
  refine ok_for 0 s.objects.length (fun i t=>t=abV s T p i) 0 rfl (Nat.zero_le _) (by omega) rfl (fun i t k hi hI hk=>?_) fun t k hI=>?_
  ·have hbl:=abV_len s T p ho i
   subst hI
   have hget:s.objects[i]?=some s.objects[i]:=List.getElem?_eq_getElem hi
   unfold block_Able_l2
   refine ok_brd (fun _=>ok_jn (fun u=>u=abV s T p (i+1)) (fun k5 h5=>?_) fun u hu=>hk u hu) fun h=>absurd (show (i:Int)<(s.objects.length:Int) by omega) h
   refine ok_ixL i rfl hi (ok_jn (fun b=>b=true ↔ ¬ (s.objects[i].zone=0∧(trA T i).control=p)) (fun k9 h9=>?_) fun b hb=>ok_br (fun e=>?_) fun e=>?_)
   ·refine ok_brn (fun hz=>h9 _ ?_) fun hz=>ok_bnde (btr_eq T i) (h9 _ ?_)
    ·exact ⟨fun _ hh=>hz hh.1,fun _=>rfl⟩
    ·simp [hz]
   ·have hn:=hb.1 e
    exact h5 _ (by simp only [abV,hget,if_neg hn,List.append_nil])
   ·have hy:s.objects[i].zone=0∧(trA T i).control=p:=by
     by_cases hh:s.objects[i].zone=0∧(trA T i).control=p
     ·exact hh
     ·rw [hb.2 hh] at e; cases e
    refine ok_for 0 s.objects.length (fun j u=>u=abV s T p i ++ inV s T p i s.objects[i] j) 0 rfl (Nat.zero_le _) (by omega) (by simp [inV]) (fun j u k13 hj hJ hk13=>?_) fun u k13 hJ=>?_
    ·have hil:=inV_len s T p i s.objects[i] j
     have hgj:s.objects[j]?=some s.objects[j]:=List.getElem?_eq_getElem hj
     have hul:u.length≤2048 * 2048+2048:=by
      subst hJ; rw [List.length_append]
      have:2048 * i≤2048 * 2048:=Nat.mul_le_mul_left _ (by omega)
      omega
     unfold block_Able_l1
     refine ok_brd (fun _=>ok_jn (fun v=>v=abV s T p i ++ inV s T p i s.objects[i] (j+1)) (fun k16 h16=>?_) fun v hv=>hk13 v hv) fun h=>absurd (show (j:Int)<(s.objects.length:Int) by omega) h
     have yes:s.objects[j].zone=0∧s.objects[j].attack=p∧canR s.objects[i] (trA T i) (trA T j)=true→Ok (fun r=>r=abV s T p s.objects.length) (k16 (u ++ [GOption.mk 8 s.objects[i].id s.objects[j].id])):=fun hh =>
      h16 _ (by subst hJ; simp only [inV,hgj,if_pos hh,List.append_assoc])
     have no:¬ (s.objects[j].zone=0∧s.objects[j].attack=p∧canR s.objects[i] (trA T i) (trA T j)=true)→Ok (fun r=>r=abV s T p s.objects.length) (k16 u):=fun hh =>
      h16 _ (by subst hJ; simp only [inV,hgj,if_neg hh,List.append_nil])
     refine ok_ixL j rfl hj (ok_jn (fun b=>b=true ↔ (s.objects[j].zone=0∧s.objects[j].attack=p∧canR s.objects[i] (trA T i) (trA T j)=true)) (fun k20 h20=>?_) fun b hb=>ok_br (fun e=>ok_lt (ok_room (by show (2 * (u.length+1)+192) * 24≤_; omega) (by show u.length+1≤_; omega) (yes (hb.1 e)))) fun e=>no fun hh=>by rw [hb.2 hh] at e; cases e)
     refine ok_brd (fun hz=>ok_brd (fun ha=>ok_bnde (btr_eq T i) (ok_bnde (btr_eq T j) (ok_bnde (block_Can_ok _ _ _ _ (trA_ok h i).t (trA_ok h i).k (trA_ok h j).k) (h20 _ ?_)))) fun ha=>h20 _ ?_) fun hz=>h20 _ ?_
     ·exact ⟨fun e=>⟨hz,ha,e⟩,fun e=>e.2.2⟩
     ·simp [ha]
     ·simp [hz]
    ·unfold block_Able_l1
     exact ok_brd (fun h=>absurd h (by show ¬ (s.objects.length:Int)<(s.objects.length:Int); omega)) fun _=>h5 _ (by subst hJ; simp only [abV,hget,if_pos hy])
  ·unfold block_Able_l2
   exact ok_brd (fun h=>absurd h (by show ¬ (s.objects.length:Int)<(s.objects.length:Int); omega)) fun _=>ok_some hI
 obtain ⟨r,e,h⟩:=key
 rw [e,h]
def fC (keys:Int):List GCard:=[GCard.mk (bs [97]) false zGCost 0 (GLine.mk 0 1 ([])) 1 1 keys ([]),GCard.mk (bs [98]) false zGCost 0 (GLine.mk 0 1 ([])) 1 1 0 ([])]
def fO:Nat→GObject
 | 0=>GObject.mk 1 0 0 0 0 false false false false 0 zArr3I 1 (-1) 1 false 0 0
 | i+1=>GObject.mk ((i+2:Nat):Int) 1 1 1 0 false false false false 0 zArr3I ((i+2:Nat):Int) (-1) (-1) false 0 0
def fT (keys:Int):Nat→GTraits
 | 0=>GTraits.mk (bs [97]) zGCost 0 (GLine.mk 0 1 ([])) 1 1 keys ([]) 0
 | _+1=>GTraits.mk (bs [98]) zGCost 0 (GLine.mk 0 1 ([])) 1 1 0 ([]) 1
def fP:GPlayer:=GPlayer.mk 20 0 0 zArr6I false false ([]) ([]) ([])
def upR {α:Type} (f:Nat→α):Nat→Nat→List α
 | _,0=>[]
 | i,n+1=>f i::upR f (i+1) n
def fS (n:Nat):GState:=GState.mk [fP,fP] (upR fO 0 (n+1)) (upR (fun i=>((i+1:Nat):Int)) 0 (n+1)) ([]) ([]) ([]) ([]) 0 0 0 false 0 0 ((n+2:Nat):Int) ((n+2:Nat):Int) 1 ([]) 0 (-1)
def fTs (keys:Int) (n:Nat):List GTraits:=upR (fT keys) 0 (n+1)
def opR (n:Nat):List GOption:=upR (fun i=>GOption.mk 8 ((i+2:Nat):Int) 1) 0 n
theorem upR_len {α:Type} (f:Nat→α):∀ n i,(upR f i n).length=n
 | 0,_=>rfl
 | n+1,i=>by simp [upR,upR_len f n]
theorem upR_get {α:Type} (f:Nat→α):∀ n i j,j<n→(upR f i n)[j]?=some (f (i+j))
 | 0,_,_,h=>by omega
 | n+1,i,0,_=>by simp [upR]
 | n+1,i,j+1,h=>by simp only [upR,List.getElem?_cons_succ]; rw [upR_get f n (i+1) j (by omega)]; congr 2; omega
theorem nine {P:Nat→Prop} (h0:P 0) (h1:P 1) (h2:P 2) (h3:P 3) (h4:P 4) (h5:P 5) (h6:P 6) (h7:P 7) (h8:P 8) (n:Nat) (h:n≤8):P n:=by
 match n,h with
 | 0,_=>exact h0
 | 1,_=>exact h1
 | 2,_=>exact h2
 | 3,_=>exact h3
 | 4,_=>exact h4
 | 5,_=>exact h5
 | 6,_=>exact h6
 | 7,_=>exact h7
 | 8,_=>exact h8
 | n+9,h=>omega
theorem fight_eq (keys:Int) (n:Nat) (h:n≤8):law46_fight keys (n:Int)=some (fC keys,fS n):=by
 refine nine (P:=fun n=>law46_fight keys (n:Int)=some (fC keys,fS n)) ?_ ?_ ?_ ?_ ?_ ?_ ?_ ?_ ?_ n h <;> kernel_rfl
theorem fall_eq (keys:Int) (n:Nat) (h:n≤8):r30_All (fC keys) (fS n)=some (fTs keys n):=by
 refine nine (P:=fun n=>r30_All (fC keys) (fS n)=some (fTs keys n)) ?_ ?_ ?_ ?_ ?_ ?_ ?_ ?_ ?_ n h <;> kernel_rfl
theorem fTs_tr {keys:Int} (h0:0≤keys) (h1:keys≤131071) (n:Nat):∀ t∈fTs keys n,TrOK t:=by
 have hf:∀ i,TrOK (fT keys i):=by
  intro i
  cases i with
  | zero=>exact ⟨by simp [szGTraits,szGLine,szB,szL,fT,bs_size],by simp [fT],⟨h0,h1⟩,by simp [fT]⟩
  | succ i=>exact ⟨by simp [szGTraits,szGLine,szB,szL,fT,bs_size],by simp [fT],by simp [fT],by simp [fT]⟩
 intro t ht
 obtain ⟨i,hi,e⟩:=List.mem_iff_getElem.1 ht
 have hl:(fTs keys n).length=n+1:=upR_len _ _ _
 have:=upR_get (fT keys) (n+1) 0 i (by omega)
 have e2:(fTs keys n)[i]?=some t:=by rw [List.getElem?_eq_getElem hi,e]
 rw [show (fTs keys n)[i]?=some (fT keys (0+i)) from this] at e2
 cases e2; exact hf _
theorem fTs_at (keys:Int) (n i:Nat) (h:i<n+1):trA (fTs keys n) i=fT keys i:=by
 have hl:(fTs keys n).length=n+1:=upR_len _ _ _
 unfold trA
 rw [dif_pos (by omega)]
 have:=upR_get (fT keys) (n+1) 0 i h
 rw [List.getElem?_eq_getElem (by rw [upR_len]; exact h)] at this
 have:=Option.some.inj this
 rw [Nat.zero_add] at this
 exact this
theorem inV_congr {s:GState} {T T' : List GTraits} {p:Int} {i:Nat} {b:GObject}:∀ j,(∀ k,k<j→canR b (trA T i) (trA T k)=canR b (trA T' i) (trA T' k))→inV s T p i b j=inV s T' p i b j
 | 0,_=>rfl
 | j+1,h=>by
  simp only [inV]
  rw [inV_congr j fun k hk=>h k (by omega),h j (by omega)]
theorem abV_congr {s:GState} {T T' : List GTraits} {p:Int} (hc:∀ i,i<s.objects.length→(trA T i).control=(trA T' i).control)
  (h:∀ i b k,i<s.objects.length→k<s.objects.length→(trA T i).control=p→canR b (trA T i) (trA T k)=canR b (trA T' i) (trA T' k)):∀ i,i≤s.objects.length→abV s T p i=abV s T' p i
 | 0,_=>rfl
 | i+1,hi=>by
  simp only [abV]
  rw [abV_congr hc h i (by omega),← hc i (by omega)]
  congr 1
  split
  ·rename_i b _
   by_cases hh:b.zone=0∧(trA T i).control=p
   ·rw [if_pos hh,if_pos hh]
    exact inV_congr _ fun k hk=>h i b k (by omega) hk hh.2
   ·rw [if_neg hh,if_neg hh]
  ·rfl
def repK (a b:Bool):Int:=match a,b with
 | true,true=>8193
 | true,false=>8192
 | false,true=>1
 | false,false=>0
theorem repK13 (a b:Bool):hasB (repK a b) 13=a:=by cases a <;> cases b <;> decide
theorem repK0 (a b:Bool):hasB (repK a b) 0=b:=by cases a <;> cases b <;> decide
theorem abR_eq (a b:Bool) (n:Nat) (h:n≤8):abV (fS n) (fTs (repK a b) n) 1 (n+1)=if (a || b)=true then [] else opR n:=by
 cases a <;> cases b
 ·refine nine (P:=fun n=>abV (fS n) (fTs (repK false false) n) 1 (n+1)=if (false || false)=true then [] else opR n) ?_ ?_ ?_ ?_ ?_ ?_ ?_ ?_ ?_ n h <;> kernel_rfl
 ·refine nine (P:=fun n=>abV (fS n) (fTs (repK false true) n) 1 (n+1)=if (false || true)=true then [] else opR n) ?_ ?_ ?_ ?_ ?_ ?_ ?_ ?_ ?_ n h <;> kernel_rfl
 ·refine nine (P:=fun n=>abV (fS n) (fTs (repK true false) n) 1 (n+1)=if (true || false)=true then [] else opR n) ?_ ?_ ?_ ?_ ?_ ?_ ?_ ?_ ?_ n h <;> kernel_rfl
 ·refine nine (P:=fun n=>abV (fS n) (fTs (repK true true) n) 1 (n+1)=if (true || true)=true then [] else opR n) ?_ ?_ ?_ ?_ ?_ ?_ ?_ ?_ ?_ n h <;> kernel_rfl
theorem fS_len (n:Nat):(fS n).objects.length=n+1:=upR_len _ _ _
theorem able1 {keys:Int} (h0:0≤keys) (h1:keys≤131071) (n:Nat) (h:n≤8):block_Able (fS n) (fTs keys n) 1=some (if (hasB keys 13 || hasB keys 0)=true then [] else opR n):=by
 rw [able_val _ _ _ (fTs_tr h0 h1 n) (by rw [fS_len]; omega),fS_len,← abR_eq (hasB keys 13) (hasB keys 0) n h]
 refine congrArg some (abV_congr (fun i hi=>?_) (fun i b k hi hk hc=>?_) _ (by rw [fS_len]; exact Nat.le_refl _))
 ·rw [fS_len] at hi
  rw [fTs_at _ _ _ hi,fTs_at _ _ _ hi]; cases i <;> rfl
 ·rw [fS_len] at hi hk
  rw [fTs_at _ _ _ hi] at hc ⊢
  rw [fTs_at _ _ _ hi,fTs_at _ _ _ hk,fTs_at _ _ _ hk]
  cases i with
  | zero=>exact absurd hc (by simp [fT])
  | succ i =>
   cases k with
   | zero =>
    unfold canR
    show (bif _ || hasB keys 13 then false else !hasB keys 0 || _ || _)=(bif _ || hasB (repK (hasB keys 13) (hasB keys 0)) 13 then false else !hasB (repK (hasB keys 13) (hasB keys 0)) 0 || _ || _)
    rw [repK13,repK0]
    rfl
   | succ k=>rfl
theorem able0 {keys:Int} (h0:0≤keys) (h1:keys≤131071) (n:Nat) (h:n≤8):block_Able (fS n) (fTs keys n) 0=some []:=by
 rw [able_val _ _ _ (fTs_tr h0 h1 n) (by rw [fS_len]; omega),fS_len]
 refine congrArg some ?_
 refine nine (P:=fun n=>abV (fS n) (fTs keys n) 0 (n+1)=[]) ?_ ?_ ?_ ?_ ?_ ?_ ?_ ?_ ?_ n h <;> kernel_rfl
theorem opR_len (n:Nat):(opR n).length=n:=upR_len _ _ _
theorem opR_get (n i:Nat) (h:i<n):(opR n)[i]?=some (GOption.mk 8 ((i+2:Nat):Int) 1):=by
 have:=upR_get (fun i=>GOption.mk 8 ((i+2:Nat):Int) 1) n 0 i h
 rw [Nat.zero_add] at this
 exact this
theorem fO_id (i:Nat):(fO i).id=((i+1:Nat):Int):=by cases i <;> rfl
theorem fS_get (n i:Nat) (h:i<(fS n).objects.length):(fS n).objects[i].id=((i+1:Nat):Int):=by
 have h' : i<n+1:=by rw [fS_len] at h; exact h
 have:=upR_get fO (n+1) 0 i h'
 have e:(fS n).objects[i]?=some (fO (0+i)):=this
 rw [List.getElem?_eq_getElem h] at e
 rw [Option.some.inj e,Nat.zero_add,fO_id]
theorem men_at {keys:Int} (n j:Nat) (h:j<n+1):menA (fTs keys n) j=true ↔ j=0∧hasB keys 9=true:=by
 unfold menA
 rw [fTs_at _ _ _ h]
 cases j with
 | zero=>simp [fT]
 | succ j=>simp [fT,hasB]
theorem cnt_all {l:List GOption} (h:∀ o∈l,o.b=1):cntB l 1=l.length:=by
 unfold cntB
 rw [List.filter_eq_self.2]
 intro o ho; simp [h o ho]
theorem opR_mem {n:Nat} {o:GOption} (h:o∈opR n):∃ i,i<n∧o=GOption.mk 8 ((i+2:Nat):Int) 1:=by
 obtain ⟨i,hi,e⟩:=List.mem_iff_getElem.1 h
 have hi' : i<n:=by rw [opR_len] at hi; exact hi
 have:=opR_get n i hi'
 rw [List.getElem?_eq_getElem hi] at this
 exact ⟨i,hi',by rw [← e]; exact Option.some.inj this⟩
theorem fcheck {keys:Int} (h0:0≤keys) (h1:keys≤131071) (n:Nat) (h:n≤8) (hc:(hasB keys 13 || hasB keys 0)=false) (l:List GOption) (hl:l.length≤100) :
  Ok (fun r=>(r=19∧PBad (fS n) (fTs keys n) (opR n) l)∨(r=0∧¬ PBad (fS n) (fTs keys n) (opR n) l)) (block_Check (fS n) (fTs keys n) 1 l):=by
 have e:=able1 h0 h1 n h
 rw [hc] at e
 exact bcheck_ok (fS n) (fTs keys n) 1 (opR n) l (fTs_tr h0 h1 n) (by rw [fS_len]; omega) (by rw [opR_len]; omega) (by omega) e
theorem fcheck_take {keys:Int} (h0:0≤keys) (h1:keys≤131071) (n:Nat) (h:n≤8) (hc:(hasB keys 13 || hasB keys 0)=false) (q:Nat) (hq:q≤n) :
  block_Check (fS n) (fTs keys n) 1 ((opR n).take q)=some (if q=1∧hasB keys 9=true then 19 else 0):=by
 have hlen:((opR n).take q).length=q:=by rw [List.length_take,opR_len]; omega
 have hget:∀ i (hi:i<((opR n).take q).length),((opR n).take q)[i]=GOption.mk 8 ((i+2:Nat):Int) 1:=by
  intro i hi
  have hi' : i<q:=by omega
  have:=opR_get n i (by omega)
  rw [List.getElem_take]
  rw [List.getElem?_eq_getElem (by rw [opR_len]; omega)] at this
  exact Option.some.inj this
 have hb:∀ o∈(opR n).take q,o.b=1:=fun o ho=>by
  obtain ⟨i,_,rfl⟩:=opR_mem (List.mem_of_mem_take ho); rfl
 have hbad:PBad (fS n) (fTs keys n) (opR n) ((opR n).take q) ↔ (q=1∧hasB keys 9=true):=by
  constructor
  ·rintro (⟨i,hi,hh⟩ | ⟨j,hj,hm,hcnt⟩)
   ·exfalso
    rcases hh with hh | ⟨x,hx,hxa⟩
    ·exact hh (List.mem_of_mem_take (List.getElem_mem hi))
    ·rw [hget i hi] at hxa
     obtain ⟨k,hk,e⟩:=List.mem_iff_getElem.1 hx
     have hk' : k<i:=by rw [List.length_take] at hk; omega
     rw [List.getElem_take] at e
     rw [hget k (by omega)] at e
     rw [← e] at hxa
     have:((k+2:Nat):Int)=((i+2:Nat):Int):=hxa
     omega
   ·rw [fS_len] at hj
    obtain ⟨rfl,h9⟩:=(men_at n j hj).1 hm
    rw [fS_get n 0 (by rw [fS_len]; omega)] at hcnt
    have:=cnt_all hb
    rw [show ((0+1:Nat):Int)=1 from rfl,this,hlen] at hcnt
    exact ⟨hcnt,h9⟩
  ·rintro ⟨rfl,h9⟩
   refine .inr ⟨0,by rw [fS_len]; omega,(men_at n 0 (by omega)).2 ⟨rfl,h9⟩,?_⟩
   rw [fS_get n 0 (by rw [fS_len]; omega),show ((0+1:Nat):Int)=1 from rfl,cnt_all hb,hlen]
 obtain ⟨r,e,hr⟩:=fcheck h0 h1 n h hc ((opR n).take q) (by omega)
 rw [e]
 by_cases hh:q=1∧hasB keys 9=true
 ·rw [if_pos hh]
  rcases hr with ⟨rfl,_⟩ | ⟨_,hr⟩
  ·rfl
  ·exact absurd (hbad.2 hh) hr
 ·rw [if_neg hh]
  rcases hr with ⟨_,hr⟩ | ⟨rfl,_⟩
  ·exact absurd (hbad.1 hr) hh
  ·rfl
theorem fcheck_twice {keys:Int} (h0:0≤keys) (h1:keys≤131071) (n:Nat) (h:n≤8) (hn:0<n) (hc:(hasB keys 13 || hasB keys 0)=false) (o:GOption) (ho:(opR n)[0]?=some o) :
  block_Check (fS n) (fTs keys n) 1 (opR n ++ [o])=some 19:=by
 obtain ⟨r,e,hr⟩:=fcheck h0 h1 n h hc (opR n ++ [o]) (by simp [opR_len]; omega)
 rw [e]
 rcases hr with ⟨rfl,_⟩ | ⟨_,hr⟩
 ·rfl
 ·refine absurd (.inl ⟨n,by simp [opR_len],.inr ⟨o,?_,?_⟩⟩) hr
  ·have:(opR n ++ [o]).take n=opR n:=by rw [List.take_append_of_le_length (by rw [opR_len]; exact Nat.le_refl _),List.take_of_length_le (by rw [opR_len]; exact Nat.le_refl _)]
   rw [this]
   exact List.mem_of_getElem? ho
  ·rw [List.getElem_append_right (by rw [opR_len]; exact Nat.le_refl _)]
   simp
theorem and8193 (m:Nat) (hm:m<2 ^ 63):stdBin .and .i64 (m:Int) 8193=0 ↔ (hasB (m:Int) 13 || hasB (m:Int) 0)=false:=by
 have e:(BitVec.ofInt 64 (m:Int) &&& BitVec.ofInt 64 ((8193:Nat):Int)).toNat=m &&& 8193:=by
  rw [BitVec.toNat_and,BitVec.ofInt_natCast,BitVec.ofInt_natCast,BitVec.toNat_ofNat,BitVec.toNat_ofNat,Nat.mod_eq_of_lt (by omega),Nat.mod_eq_of_lt (by omega)]
 have hle:m &&& 8193≤8193:=Nat.and_le_right
 have e1:stdBin .and .i64 (m:Int) 8193=((m &&& 8193:Nat):Int):=by
  show IntKind.i64.wrap (((BitVec.ofInt 64 (m:Int) &&& BitVec.ofInt 64 ((8193:Nat):Int)).toNat:Nat):Int)=_
  rw [e]
  exact wrap_in (by omega) (by omega)
 have e2:m &&& 8193=(m &&& 2 ^ 13) ||| (m &&& 2 ^ 0):=by
  rw [show (8193:Nat)=2 ^ 13 ||| 2 ^ 0 by decide]
  exact Nat.and_or_distrib_left ..
 rw [e1,e2,and_two,and_two]
 unfold hasB
 rw [Int.toNat_natCast]
 by_cases a:m / 2 ^ 13 % 2=1 <;> by_cases b:m / 2 ^ 0 % 2=1 <;> simp [a,b]
theorem BlockMenace_true (keys n picked:Int):law46_BlockMenace keys n picked=some true:=by
 refine ok_eq (c:=true) ?_
 unfold law46_BlockMenace
 refine ok_jn (fun b=>b=false→0≤keys∧keys≤131071∧0≤n∧n≤8∧0≤picked∧picked≤n) (fun k2 h2=>?_) fun b hb=>?_
 ·refine ok_brd (fun _=>h2 _ (fun h=>by cases h)) fun a1=>?_
  refine ok_brd (fun _=>h2 _ (fun h=>by cases h)) fun a2=>?_
  refine ok_brd (fun _=>h2 _ (fun h=>by cases h)) fun a3=>?_
  refine ok_brd (fun _=>h2 _ (fun h=>by cases h)) fun a4=>?_
  refine ok_brd (fun _=>h2 _ (fun h=>by cases h)) fun a5=>h2 _ fun h=>?_
  have:=of_decide_eq_false h
  omega
 ·refine ok_br (fun _=>ok_bnde (x:=true) rfl (ok_some rfl)) fun e=>?_
  obtain ⟨b1,b2,b3,b4,b5,b6⟩:=hb e
  obtain ⟨m,rfl⟩:=Int.eq_ofNat_of_zero_le b1
  obtain ⟨N,rfl⟩:=Int.eq_ofNat_of_zero_le b3
  obtain ⟨q,rfl⟩:=Int.eq_ofNat_of_zero_le b5
  have hN:N≤8:=by omega
  have hq:q≤N:=by omega
  refine ok_bnde (fight_eq (m:Int) N hN) (ok_bnde (fall_eq (m:Int) N hN) (ok_bnde (able1 b1 b2 N hN) ?_))
  have hand:=and8193 m (by omega)
  refine ok_brn (fun h=>?_) fun h=>?_
  ·have hC:(hasB (m:Int) 13 || hasB (m:Int) 0)=true:=by
    cases hh:(hasB (m:Int) 13 || hasB (m:Int) 0) with
    | true=>rfl
    | false=>exact absurd (hand.2 hh) h
   rw [hC]
   exact ok_jn (fun b=>b=true) (fun k9 h9=>ok_bnde (x:=true) rfl (ok_brt rfl (h9 _ rfl))) fun b hb=>ok_some hb
  ·have hC:=hand.1 h
   rw [hC]
   show Ok _ (jn _ _)
   have hlen:=opR_len N
   have h9:(stdBin .and .i64 (m:Int) 512=0) ↔ hasB (m:Int) 9=false:=by
    have:=and_bit m 9 (by omega) (by decide)
    rw [show (512:Int)=((2 ^ 9:Nat):Int) from rfl,this]
    unfold hasB
    rw [Int.toNat_natCast]
    by_cases a:m / 2 ^ 9 % 2=1 <;> simp [a]
   refine ok_jn (fun b=>b=false) (fun k13 h13=>?_) fun b hb=>ok_brf hb ?_
   ·refine ok_brn (fun hh=>absurd (show (((opR N).length:Nat):Int)=(N:Int) by rw [hlen]) hh) fun _=>ok_bnde (able0 b1 b2 N hN) (h13 _ rfl)
   ·refine ok_jn (fun b=>b=true ↔ q=1∧hasB (m:Int) 9=true) (fun k20 h20=>?_) fun b hb=>?_
    ·refine ok_brd (fun h=>h20 _ ?_) fun h=>h20 _ ?_
     ·have hq1:q=1:=by omega
      cases hb9:hasB (m:Int) 9 with
      | false=>simp [h9.2 hb9]
      | true =>
       have:¬ stdBin .and .i64 (m:Int) 512=0:=fun hh=>by rw [h9.1 hh] at hb9; cases hb9
       simp [this,hq1]
     ·have hq1:¬ q=1:=by omega
      simp [hq1]
    ·have hsub:subL (opR N) 0 (q - 0)=(opR N).take q:=by simp [subL]
     have fin:∀ w:Int,(if q=1∧hasB (m:Int) 9=true then (19:Int) else 0)=w→Ok (fun r=>r=true) (bnd (slcO (opR N).length 0 (q:Int)) fun x20=>bnd (block_Check (fS N) (fTs (m:Int) N) 1 (subL (opR N) x20.1 (x20.2 - x20.1))) fun y21=>br (decide (y21=w)) (br (decide ((N:Int)=0)) (some true) (roomO (opR N).length 24 (bnd (ixL (opR N) 0) fun x22=>roomO ((opR N).length+([x22]).length) 24 (bnd (block_Check (fS N) (fTs (m:Int) N) 1 (opR N ++ [x22])) fun y23=>some (decide (y23=19)))))) (some false)):=by
      intro w hw
      refine ok_slc (i:=0) (j:=q) rfl rfl (Nat.zero_le _) (by omega) ?_
      show Ok _ (bnd (block_Check (fS N) (fTs (m:Int) N) 1 (subL (opR N) 0 (q - 0))) _)
      rw [hsub]
      refine ok_bnde (fcheck_take b1 b2 N hN hC q hq) (ok_brt (decide_eq_true hw) ?_)
      refine ok_brd (fun _=>ok_some rfl) fun hn=>?_
      have hpos:0<N:=by omega
      refine ok_room (by omega) (by omega) ?_
      refine ok_ixL 0 rfl (by omega) ?_
      refine ok_room (by show (2 * ((opR N).length+1)+192) * 24≤_; omega) (by show (opR N).length+1≤_; omega) ?_
      exact ok_bnde (fcheck_twice b1 b2 N hN hpos hC _ (List.getElem?_eq_getElem _)) (ok_some rfl)
     exact ok_br (fun e=>ok_bnde (x:=true) rfl (ok_brt rfl (fin 19 (if_pos (hb.1 e))))) fun e=>ok_bnde (x:=true) rfl (ok_brt rfl (fin 0 (if_neg fun hh=>by rw [hb.2 hh] at e; cases e)))
end Go.Proofs.YthfepelpmalckaaGreat
namespace Go.Pv
theorem SnL.cs {P:Program} {N:Nat} {t:TypeId} {ts:List TypeId} {cs:List PV} (h:SnL P N (t::ts) cs) {α:Type} {e:α→List PV} {ok:α→Prop} (s:∀ {c:List PV},Sn P N t c→∃ x,c=e x∧ok x):∃ x b,cs=e x ++ b∧ok x∧SnL P N ts b:=by
 obtain ⟨a,b,rfl,k,g⟩:=h.inv_cons
 obtain ⟨x,rfl,w⟩:=s k
 exact ⟨x,b,rfl,w,g⟩
end Go.Pv
namespace Go.Proofs.YthfepelpmalckaaGreat
open Go Go.Pv
def ok3 (x:Int):Prop:=(Lit.int .i64 x).wf=true
theorem sT3 {cs:List PV} (h:Sn Tryz.prog 1048576 3 cs):∃ x:Int,cs=(eI .i64) x∧ok3 x:=by
 obtain ⟨n,e,hw⟩:=h.inv_int Tryz.underlying3
 exact ⟨n,e,hw⟩
theorem sV3 {p:PV} (h:SnV Tryz.prog 1048576 3 p):∃ x:Int,p=.si .i64 x∧ok3 x:=by
 obtain ⟨x,e,hx⟩:=sT3 (h.inv_one (by kernel_rfl))
 cases e
 exact ⟨x,rfl,hx⟩
end Go.Proofs.YthfepelpmalckaaGreat
