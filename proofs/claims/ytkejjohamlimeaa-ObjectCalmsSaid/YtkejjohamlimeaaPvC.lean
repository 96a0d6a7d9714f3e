/-
  Whether an object is valid: the function and its reference.
-/
import Derived.Test.YtkejjohamlimeaaPvB
namespace Go.Proofs.Ytkejjohamlimeaa
open Go Go.Pv
set_option linter.all false
set_option linter.unusedSimpArgs false
set_option maxRecDepth 100000

structure IsO (o : Obj) (cards players : Int) : Prop where
  a1 : 1 ≤ o.id
  a2 : 0 ≤ o.card
  a3 : o.card < cards
  a4 : 0 ≤ o.owner
  a5 : o.owner < players
  a6 : 0 ≤ o.control
  a7 : o.control < players
  a8 : 0 ≤ o.zone
  a9 : o.zone ≤ 5
  b1 : 0 ≤ o.damage
  b2 : o.damage ≤ 1000000
  b3 : 0 ≤ o.stamp
  b4 : o.stamp ≤ 1000000
  b5 : 0 ≤ o.blocks
  b6 : o.blocks ≤ 1000000
  b7 : 0 ≤ o.shield
  b8 : o.shield ≤ 1000000
  c1 : okC o.c0 o.c1 o.c2 = true
  d1 : -1 ≤ o.copy
  d2 : o.copy < cards
  d3 : -1 ≤ o.attack
  d4 : o.attack < players
  e1 : o.zone = 0 ∨ o.damage = 0 ∧ o.deadly = false ∧ o.shield = 0 ∧ o.attack = -1 ∧ o.blocked = false ∧ o.blocks = 0 ∧ o.tapped = false ∧ o.sick = false ∧ o.c0 = 0 ∧ o.c1 = 0 ∧ o.c2 = 0

theorem fn18 (o : Obj) (cards players : Int) (x : Bool) (hx : x = true ↔ IsO o cards players) : Pv.Fn Try.prog tab.gl 18 [o.pv, .si .i64 cards, .si .i64 players] (fun u => u = .sb x) := by
  refine fn_of tabOK rfl wf Try.func18 rfl Try.call18 rfl ?_
  intro S R hS hR
  cbv
  repeat' (first
    | (refine l_br hS ?_ ?_ <;> (intro _; cbv))
    | (refine l_callq_b hS (fn20 _ _ _) (fun _ _ => ?_); cbv)
    | (refine l_callq_b hS (fn21 _ _ _) (fun _ _ => ?_); cbv)
    | (refine l_order hS (by kernel_rfl) ?_; cbv)
    | (refine l_callq hS (fn14 _) ?_; cbv)
    | (refine l_callq hS (fn16 (endedO o)) ?_; cbv))
  all_goals
    refine hR _ (congrArg PV.sb (Bool.eq_iff_iff.2 (Iff.trans ?_ hx.symm)))
    clear hx hR
    subst_vars
    simp only [Sig.std, stdCmp, decide_eq_true_eq, decide_eq_false_iff_not, Bool.not_eq_true', Bool.not_eq_false', beq_iff_eq, Bool.and_eq_true, beq_eq_false_iff_ne, ne_eq, decide_true, Bool.true_and, Bool.and_true, beq_self_eq_true, Bool.false_eq_true, false_iff, true_iff, Bool.not_eq_false, Bool.not_eq_true, Bool.and_eq_false_iff] at *
    first
      | (rintro ⟨a1, a2, a3, a4, a5, a6, a7, a8, a9, b1, b2, b3, b4, b5, b6, b7, b8, c1, d1, d2, d3, d4, e1⟩
         first
           | omega
           | (simp_all; done)
           | (rcases e1 with e1 | ⟨e1, e2, e3, e4, e5, e6, e7, e8, e9, e10, e11⟩ <;> simp_all; done))
      | (refine ⟨by omega, by omega, by omega, by omega, by omega, by omega, by omega, by omega, by omega, by omega, by omega, by omega, by omega, by omega, by omega, by omega, by omega, by simp_all, by omega, by omega, by omega, by omega, .inl (by omega)⟩)
      | (constructor
         · intro _
           refine ⟨by omega, by omega, by omega, by omega, by omega, by omega, by omega, by omega, by omega, by omega, by omega, by omega, by omega, by omega, by omega, by omega, by omega, by simp_all, by omega, by omega, by omega, by omega, .inr (by simp_all)⟩
         · rintro ⟨a1, a2, a3, a4, a5, a6, a7, a8, a9, b1, b2, b3, b4, b5, b6, b7, b8, c1, d1, d2, d3, d4, e1⟩
           rcases e1 with e1 | ⟨e1, e2, e3, e4, e5, e6, e7, e8, e9, e10, e11⟩ <;> simp_all)
theorem fn19 (o : Obj) (cards players : Int) (x : Bool) (hx : x = true ↔ IsO o cards players) : Pv.Fn Try.prog tab.gl 19 [o.pv, .si .i64 cards, .si .i64 players] (fun u => u = .sb x) := by
  refine fn_of tabOK rfl wf Try.func19 rfl Try.call19 rfl ?_
  intro S R hS hR
  cbv
  repeat' (first
    | (refine l_br hS ?_ ?_ <;> (intro _; cbv))
    | (refine l_callq_b hS (fn20 _ _ _) (fun _ _ => ?_); cbv)
    | (refine l_callq_b hS (fn22 _ _ _) (fun _ _ => ?_); cbv)
    | (refine l_order hS (by kernel_rfl) ?_; cbv)
    | (refine l_callq hS (fn15 _) ?_; cbv)
    | (refine l_callq hS (fn17 _) ?_; cbv))
  all_goals
    refine hR _ (congrArg PV.sb (Bool.eq_iff_iff.2 (Iff.trans ?_ hx.symm)))
    clear hx hR
    subst_vars
    simp only [Sig.std, stdCmp, decide_eq_true_eq, decide_eq_false_iff_not, Bool.not_eq_true', Bool.not_eq_false', beq_iff_eq, Bool.and_eq_true, beq_eq_false_iff_ne, ne_eq, decide_true, Bool.true_and, Bool.and_true, beq_self_eq_true, Bool.false_eq_true, false_iff, true_iff, Bool.not_eq_false, Bool.not_eq_true, Bool.and_eq_false_iff] at *
    first
      | (rintro ⟨a1, a2, a3, a4, a5, a6, a7, a8, a9, b1, b2, b3, b4, b5, b6, b7, b8, c1, d1, d2, d3, d4, e1⟩
         first
           | omega
           | (simp_all; done)
           | (rcases e1 with e1 | ⟨e1, e2, e3, e4, e5, e6, e7, e8, e9, e10, e11⟩ <;> simp_all; done))
      | (refine ⟨by omega, by omega, by omega, by omega, by omega, by omega, by omega, by omega, by omega, by omega, by omega, by omega, by omega, by omega, by omega, by omega, by omega, by simp_all, by omega, by omega, by omega, by omega, .inl (by omega)⟩)
      | (constructor
         · intro _
           refine ⟨by omega, by omega, by omega, by omega, by omega, by omega, by omega, by omega, by omega, by omega, by omega, by omega, by omega, by omega, by omega, by omega, by omega, by simp_all, by omega, by omega, by omega, by omega, .inr (by simp_all)⟩
         · rintro ⟨a1, a2, a3, a4, a5, a6, a7, a8, a9, b1, b2, b3, b4, b5, b6, b7, b8, c1, d1, d2, d3, d4, e1⟩
           rcases e1 with e1 | ⟨e1, e2, e3, e4, e5, e6, e7, e8, e9, e10, e11⟩ <;> simp_all)
end Go.Proofs.Ytkejjohamlimeaa
