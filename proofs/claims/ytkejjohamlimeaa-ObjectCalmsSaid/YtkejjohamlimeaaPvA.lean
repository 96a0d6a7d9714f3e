/-
  The functions of the package object and of its reference, each by its body's reading.
-/
import Derived.Test.YtkejjohamlimeaaPvTab
namespace Go.Proofs.Ytkejjohamlimeaa
open Go Go.Pv
set_option linter.all false
set_option linter.unusedSimpArgs false
set_option maxRecDepth 100000

structure Obj where
  id : Int
  card : Int
  owner : Int
  control : Int
  zone : Int
  token : Bool
  tapped : Bool
  sick : Bool
  deadly : Bool
  damage : Int
  c0 : Int
  c1 : Int
  c2 : Int
  stamp : Int
  copy : Int
  attack : Int
  blocked : Bool
  blocks : Int
  shield : Int
def Obj.pv (o : Obj) : PV := .agg [.si .i64 o.id, .si .i64 o.card, .si .i64 o.owner, .si .i64 o.control, .si .i64 o.zone, .sb o.token, .sb o.tapped, .sb o.sick, .sb o.deadly, .si .i64 o.damage,
  .si .i64 o.c0, .si .i64 o.c1, .si .i64 o.c2, .si .i64 o.stamp, .si .i64 o.copy, .si .i64 o.attack, .sb o.blocked, .si .i64 o.blocks, .si .i64 o.shield]
def newO (id card owner zone stamp : Int) : Obj := ⟨id, card, owner, owner, zone, false, false, false, false, 0, 0, 0, 0, stamp, -1, -1, false, 0, 0⟩
def movedO (o : Obj) (id zone control stamp : Int) : Obj :=
  { newO id o.card o.owner zone stamp with token := o.token, control := if zone = 0 ∨ zone = 5 then control else o.owner, sick := decide (zone = 0) }
def endedO (o : Obj) : Obj := { o with damage := 0, deadly := false, shield := 0 }
def calmO (o : Obj) : Obj := { o with attack := -1, blocked := false, blocks := 0 }

theorem fn9 (id card owner zone stamp : Int) : Pv.Fn Try.prog tab.gl 9 [.si .i64 id, .si .i64 card, .si .i64 owner, .si .i64 zone, .si .i64 stamp] (fun u => u = (newO id card owner zone stamp).pv) := by
  refine fn_of tabOK rfl wf Try.func9 rfl Try.call9 rfl ?_
  intro S R hS hR
  cbv
  exact hR _ rfl
theorem fn10 (id card owner zone stamp : Int) : Pv.Fn Try.prog tab.gl 10 [.si .i64 id, .si .i64 card, .si .i64 owner, .si .i64 zone, .si .i64 stamp] (fun u => u = (newO id card owner zone stamp).pv) := by
  refine fn_of tabOK rfl wf Try.func10 rfl Try.call10 rfl ?_
  intro S R hS hR
  cbv
  exact hR _ rfl
theorem fn14 (o : Obj) : Pv.Fn Try.prog tab.gl 14 [o.pv] (fun u => u = (endedO o).pv) := by
  refine fn_of tabOK rfl wf Try.func14 rfl Try.call14 rfl ?_
  intro S R hS hR
  cbv
  exact hR _ rfl
theorem fn15 (o : Obj) : Pv.Fn Try.prog tab.gl 15 [o.pv] (fun u => u = (endedO o).pv) := by
  refine fn_of tabOK rfl wf Try.func15 rfl Try.call15 rfl ?_
  intro S R hS hR
  cbv
  exact hR _ rfl
theorem fn16 (o : Obj) : Pv.Fn Try.prog tab.gl 16 [o.pv] (fun u => u = (calmO o).pv) := by
  refine fn_of tabOK rfl wf Try.func16 rfl Try.call16 rfl ?_
  intro S R hS hR
  cbv
  exact hR _ rfl
theorem fn17 (o : Obj) : Pv.Fn Try.prog tab.gl 17 [o.pv] (fun u => u = (calmO o).pv) := by
  refine fn_of tabOK rfl wf Try.func17 rfl Try.call17 rfl ?_
  intro S R hS hR
  cbv
  exact hR _ rfl
theorem fn11 (o : Obj) (id zone control stamp : Int) (x : Obj) (hx : x = movedO o id zone control stamp) :
    Pv.Fn Try.prog tab.gl 11 [o.pv, .si .i64 id, .si .i64 zone, .si .i64 control, .si .i64 stamp] (fun u => u = x.pv) := by
  refine fn_of tabOK rfl wf Try.func11 rfl Try.call11 rfl ?_
  intro S R hS hR
  cbv
  refine l_callq hS (fn9 _ _ _ _ _) ?_
  cbv
  repeat' (first | (refine l_br hS ?_ ?_ <;> (intro _; cbv)))
  all_goals
    refine hR _ ?_
    subst hS hx
    simp_all [Sig.std, stdCmp, movedO, newO, Obj.pv]
theorem fn12 (o : Obj) (id zone control stamp : Int) (x : Obj) (hx : x = movedO o id zone control stamp) :
    Pv.Fn Try.prog tab.gl 12 [o.pv, .si .i64 id, .si .i64 zone, .si .i64 control, .si .i64 stamp] (fun u => u = x.pv) := by
  refine fn_of tabOK rfl wf Try.func12 rfl Try.call12 rfl ?_
  intro S R hS hR
  cbv
  refine l_callq hS (fn10 _ _ _ _ _) ?_
  cbv
  repeat' (first | (refine l_br hS ?_ ?_ <;> (intro _; cbv)))
  all_goals
    refine hR _ ?_
    subst hS hx
    simp_all [Sig.std, stdCmp, movedO, newO, Obj.pv]

theorem fn20 (n a b : Int) : Pv.Fn Try.prog tab.gl 20 [.si .i64 n, .si .i64 a, .si .i64 b] (fun u => u = .sb (decide (a ≤ n) && decide (n ≤ b))) := by
  refine fn_of tabOK rfl wf Try.func20 rfl Try.call20 rfl ?_
  intro S R hS hR
  cbv
  refine l_br hS ?_ ?_ <;> intro h1
  · cbv
    refine hR _ ?_
    subst hS
    simp [Sig.std, stdCmp] at h1
    simp [Sig.std, stdCmp, h1]
  · cbv
    refine hR _ ?_
    subst hS
    simp [Sig.std, stdCmp] at h1
    simp
    omega
end Go.Proofs.Ytkejjohamlimeaa
