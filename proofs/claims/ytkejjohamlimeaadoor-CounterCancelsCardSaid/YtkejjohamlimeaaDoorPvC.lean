/-
  Cancel, Power, the chapter's examples, and the six statements' functions: each returns true.
-/
import Derived.Test.YtkejjohamlimeaaDoorPvB
namespace Go.Proofs.YtkejjohamlimeaaDoor
open Go Go.Pv
set_option linter.all false
set_option linter.unusedSimpArgs false
set_option maxRecDepth 100000
set_option maxHeartbeats 4000000

def minI (a b : Int) : Int := if b < a then b else a
def canC (c : Int × Int × Int) : (Int × Int × Int) × Int := if isC c then ((c.1 - minI c.1 c.2.1, c.2.1 - minI c.1 c.2.1, c.2.2), minI c.1 c.2.1) else (c, 0)
def canV (p : (Int × Int × Int) × Int) : PV := .tup [cv1 p.1, .si .i64 p.2]
theorem isC_iff (c : Int × Int × Int) : isC c = true ↔ (0 ≤ c.1 ∧ c.1 ≤ 1000000) ∧ (0 ≤ c.2.1 ∧ c.2.1 ≤ 1000000) ∧ (0 ≤ c.2.2 ∧ c.2.2 ≤ 1000000) := by
  simp [isC, badN]
  omega
theorem fn18 (c : Int × Int × Int) : Pv.Fn Tryd.prog tab.gl 18 [cv1 c] (fun u => u = canV (canC c)) := by
  obtain ⟨a, b, d⟩ := c
  refine fn_of tabOK rfl wf Tryd.func18 rfl Tryd.call18 rfl ?_
  intro S R hS hR
  cbv
  refine l_callg hS PV.sb (fn12 (a, b, d)) ?_
  intro x hx; cbv
  refine l_br hS ?_ ?_ <;> (intro _; cbv)
  · refine hR _ ?_
    subst hS
    have h : isC (a, b, d) = false := by simp_all [Sig.std]
    simp [canV, canC, h, cv1]
  · refine hR _ ?_
    subst hS
    have h : isC (a, b, d) = true := by simp_all [Sig.std]
    have h2 := (isC_iff (a, b, d)).1 h
    simp only [Sig.std, canV, canC, h, cv1, minI, stdBin, if_true]
    simp only at h2
    rw [IntWalk.i64_in _ (by split <;> omega), IntWalk.i64_in _ (by split <;> omega)]
theorem fn19 (c : Int × Int × Int) : Pv.Fn Tryd.prog tab.gl 19 [cv1 c] (fun u => u = canV (canC c)) := by
  obtain ⟨a, b, d⟩ := c
  refine fn_of tabOK rfl wf Tryd.func19 rfl Tryd.call19 rfl ?_
  intro S R hS hR
  cbv
  refine l_callg hS PV.sb (fn13 (a, b, d)) ?_
  intro x hx; cbv
  refine l_br hS ?_ ?_ <;> (intro _; cbv)
  · refine hR _ ?_
    subst hS
    have h : isC (a, b, d) = false := by simp_all [Sig.std]
    simp [canV, canC, h, cv1]
  · refine hR _ ?_
    subst hS
    have h : isC (a, b, d) = true := by simp_all [Sig.std]
    have h2 := (isC_iff (a, b, d)).1 h
    simp only [Sig.std, canV, canC, h, cv1, minI, stdBin, if_true]
    simp only at h2
    rw [IntWalk.i64_in _ (by split <;> omega), IntWalk.i64_in _ (by split <;> omega)]
theorem fn20 (c : Int × Int × Int) : Pv.Fn Tryd.prog tab.gl 20 [cv1 c] (fun u => u = .si .i64 (subI c.1 c.2.1)) := by
  refine fn_of tabOK rfl wf Tryd.func20 rfl Tryd.call20 rfl ?_
  intro S R hS hR
  cbv
  refine l_callg hS (PV.si .i64) (fn29 _ _) ?_
  intro x hx; cbv
  exact hR _ (by rw [hx])
theorem fn21 (c : Int × Int × Int) : Pv.Fn Tryd.prog tab.gl 21 [cv1 c] (fun u => u = .si .i64 (subI c.1 c.2.1)) := by
  refine fn_of tabOK rfl wf Tryd.func21 rfl Tryd.call21 rfl ?_
  intro S R hS hR
  cbv
  refine l_callg hS (PV.si .i64) (fn30 _ _) ?_
  intro x hx; cbv
  exact hR _ (by rw [hx])

theorem alive_can : canC (3, 2, 7) = ((1, 0, 7), 2) := by decide
theorem alive_kind : kindS sCharge = (2, true) := by decide
theorem alive_name : nameS 1 = sMinus := by decide
theorem alive_pow : subI 1 3 = -2 := by decide
theorem alive_add : addC (1, 0, 0) 0 (-5) = (0, 0, 0) := by decide
theorem fn9  : Pv.Fn Tryd.prog tab.gl 9 [] (fun u => u = .sb true) := by
  refine fn_of tabOK rfl wf Tryd.func9 rfl Tryd.call9 rfl ?_
  intro S R hS hR
  cbv
  refine l_callg hS canV (fn18 (3, 2, 7)) ?_
  intro a ha
  rw [alive_can] at ha
  subst ha
  cbv
  refine l_callg hS kv (fn10 sCharge) ?_
  intro a ha
  rw [alive_kind] at ha
  subst ha
  cbv
  repeat' (first
    | (refine l_brT hS ?_ ?_; (focus ((subst hS; simp_all [Sig.std, stdCmp, stdScmp, alive_name, alive_pow, alive_add, sMinus]) <;> fail)); cbv)
    | (refine l_callg hS PV.str (fn14 _) ?_; intro _ _; cbv)
    | (refine l_callg hS (PV.si .i64) (fn20 (1, 3, 9)) ?_; intro _ _; cbv)
    | (refine l_callg hS cv1 (fn16 (1, 0, 0) _ _) ?_; rintro ⟨_, _, _⟩ _; cbv))
  refine hR _ ?_
  subst hS
  simp_all [Sig.std, stdCmp, alive_add]

theorem eqc (c : Int × Int × Int) : (decide (c.1 = c.1) && (decide (c.2.1 = c.2.1) && (decide (c.2.2 = c.2.2) && true))) = true := by simp

/-! ### the statements' functions -/
theorem fn3 (c : Int × Int × Int) (k : Int) (s : ByteArray) : Pv.Fn Tryd.prog tab.gl 3 [cv1 c, .si .i64 k, .str s] (fun u => u = .sb true) := by
  obtain ⟨c0, c1, c2⟩ := c
  refine fn_of tabOK rfl wf Tryd.func3 rfl Tryd.call3 rfl ?_
  intro S R hS hR
  cbv
  repeat' (first
    | (exact hR _ rfl)
    | (refine hR _ ?_; (focus ((subst hS; simp_all [Sig.std, stdCmp, stdScmp, sumC]) <;> fail)))
    | (refine l_brT hS ?_ ?_; (focus ((subst hS; simp_all [Sig.std, stdCmp, stdScmp]) <;> fail)); cbv)
    | (refine l_order hS (by kernel_rfl) ?_; cbv)
    | (refine l_callq hS fn9 ?_; cbv)
    | (refine l_callg hS kv (fn10 _) ?_; rintro ⟨a1, a2⟩ h1; cbv)
    | (refine l_callE hS kv (fn11 _) h1 ?_; cbv)
    | (refine l_callg hS PV.sb (fn12 (_, _, _)) ?_; intro _ _; cbv)
    | (refine l_callg hS PV.sb (fn13 (_, _, _)) ?_; intro _ _; cbv)
    | (refine l_callg hS PV.str (fn14 _) ?_; intro _ _; cbv)
    | (refine l_callg hS PV.str (fn15 _) ?_; intro _ _; cbv)
    | (refine l_br hS ?_ ?_ <;> (intro _; cbv)))
theorem fn4 (c : Int × Int × Int) (k n : Int) : Pv.Fn Tryd.prog tab.gl 4 [cv1 c, .si .i64 k, .si .i64 n] (fun u => u = .sb true) := by
  obtain ⟨c0, c1, c2⟩ := c
  refine fn_of tabOK rfl wf Tryd.func4 rfl Tryd.call4 rfl ?_
  intro S R hS hR
  cbv
  repeat' (first
    | (exact hR _ rfl)
    | (refine hR _ ?_; (focus ((subst hS; simp_all [Sig.std, stdCmp, stdScmp, sumC]) <;> fail)))
    | (refine l_brT hS ?_ ?_; (focus ((subst hS; simp_all [Sig.std, stdCmp, stdScmp]) <;> fail)); cbv)
    | (refine l_order hS (by kernel_rfl) ?_; cbv)
    | (refine l_callq hS fn9 ?_; cbv)
    | (refine l_callg hS cv1 (fn16 (_, _, _) _ _) ?_; rintro ⟨a1, a2, a3⟩ h1; cbv)
    | (refine l_callE hS cv1 (fn17 (_, _, _) _ _) h1 ?_; cbv))
theorem fn5 (c : Int × Int × Int) : Pv.Fn Tryd.prog tab.gl 5 [cv1 c] (fun u => u = .sb true) := by
  obtain ⟨c0, c1, c2⟩ := c
  refine fn_of tabOK rfl wf Tryd.func5 rfl Tryd.call5 rfl ?_
  intro S R hS hR
  cbv
  repeat' (first
    | (exact hR _ rfl)
    | (refine hR _ ?_; (focus ((subst hS; simp_all [Sig.std, stdCmp, stdScmp, sumC]) <;> fail)))
    | (refine l_brT hS ?_ ?_; (focus ((subst hS; simp_all [Sig.std, stdCmp, stdScmp]) <;> fail)); cbv)
    | (refine l_order hS (by kernel_rfl) ?_; cbv)
    | (refine l_callq hS fn9 ?_; cbv)
    | (refine l_callg hS canV (fn18 (_, _, _)) ?_; rintro ⟨⟨a1, a2, a3⟩, a4⟩ h1; cbv)
    | (refine l_callE hS canV (fn19 (_, _, _)) h1 ?_; cbv)
    | (refine l_callg hS (PV.si .i64) (fn20 (_, _, _)) ?_; intro _ _; cbv)
    | (refine l_callg hS (PV.si .i64) (fn21 (_, _, _)) ?_; intro _ _; cbv))
theorem kinds (k : Int) : kindS (nameS k) = (if k = 0 then 0 else if k = 1 then 1 else if k = 2 then 2 else 0, decide (0 ≤ k ∧ k < 3)) := by
  unfold nameS
  split
  · rename_i h; subst h; decide
  split
  · rename_i h; subst h; decide
  split
  · rename_i h; subst h; decide
  · rw [show decide (0 ≤ k ∧ k < 3) = false from decide_eq_false (by omega)]; decide
theorem noname (k : Int) (h : k < 0 ∨ 3 ≤ k) : nameS k = ⟨#[]⟩ := by
  unfold nameS
  rw [if_neg (by omega), if_neg (by omega), if_neg (by omega)]; rfl
theorem fn7 (k : Int) : Pv.Fn Tryd.prog tab.gl 7 [.si .i64 k] (fun u => u = .sb true) := by
  refine fn_of tabOK rfl wf Tryd.func7 rfl Tryd.call7 rfl ?_
  intro S R hS hR
  cbv
  refine l_callg hS PV.str (fn14 _) ?_
  intro a ha
  cbv
  refine l_callg hS kv (fn10 _) ?_
  intro b hb
  subst ha
  rw [kinds] at hb
  cbv
  by_cases hk : k < 0 ∨ 3 ≤ k
  · have e1 : b.1 = 0 := by rw [hb]; simp; omega
    have e2 : b.2 = false := by rw [hb]; simp; omega
    have e3 := noname k hk
    repeat' (first
      | (exact hR _ rfl)
      | (refine hR _ ?_; (focus ((subst hS; simp_all [Sig.std, stdCmp, stdScmp, sumC]) <;> fail)))
      | (refine l_brT hS ?_ ?_; (focus ((subst hS; simp_all [Sig.std, stdCmp, stdScmp]) <;> fail)); cbv)
      | (refine l_brF hS ?_ ?_; (focus ((subst hS; simp_all [Sig.std, stdCmp, stdScmp]) <;> fail)); cbv)
      | (refine l_callq hS fn9 ?_; cbv)
      | (refine l_callg hS PV.str (fn14 _) ?_; intro _ _; cbv)
      | (refine l_br hS ?_ ?_ <;> (intro _; cbv)))
    all_goals (exfalso; subst hS; simp_all [Sig.std, stdCmp] <;> omega)
  · have e1 : b.1 = k := by rw [hb]; simp; omega
    have e2 : b.2 = true := by rw [hb]; simp; omega
    repeat' (first
      | (exact hR _ rfl)
      | (refine hR _ ?_; (focus ((subst hS; simp_all [Sig.std, stdCmp, stdScmp, sumC]) <;> fail)))
      | (refine l_brF hS ?_ ?_; (focus ((subst hS; simp_all [Sig.std, stdCmp, stdScmp]; try omega) <;> fail)); cbv)
      | (refine l_brT hS ?_ ?_; (focus ((subst hS; simp_all [Sig.std, stdCmp, stdScmp]; try omega) <;> fail)); cbv)
      | (refine l_callq hS fn9 ?_; cbv))
theorem fn8 (c d : Int × Int × Int) : Pv.Fn Tryd.prog tab.gl 8 [cv1 c, cv1 d] (fun u => u = .sb true) := by
  (obtain ⟨a, b, x⟩ := c; obtain ⟨d0, d1, d2⟩ := d)
  refine fn_of tabOK rfl wf Tryd.func8 rfl Tryd.call8 rfl ?_
  intro S R hS hR
  cbv
  refine l_rounds tabOK wf hS 4 ?_
  cbv
  repeat' (first
    | (exact hR _ rfl)
    | (refine hR _ ?_; (focus ((subst hS; simp_all [Sig.std, stdCmp, stdScmp, sumC]) <;> fail)))
    | (refine l_brT hS ?_ ?_; (focus ((subst hS; simp_all [Sig.std, stdCmp, stdScmp, sumC]) <;> fail)); cbv)
    | (refine l_brF hS ?_ ?_; (focus ((subst hS; simp_all [Sig.std, stdCmp, stdScmp]) <;> fail)); cbv)
    | (refine l_order hS (by kernel_rfl) ?_; cbv)
    | (refine l_ix hS (j := 0) rfl (Nat.lt_of_sub_eq_succ rfl) ?_; cbv)
    | (refine l_ix hS (j := 1) rfl (Nat.lt_of_sub_eq_succ rfl) ?_; cbv)
    | (refine l_ix hS (j := 2) rfl (Nat.lt_of_sub_eq_succ rfl) ?_; cbv)
    | (refine l_callq hS fn9 ?_; cbv)
    | (refine l_callE hS cv1 (fn22 (a, b, x) (d0, d1, d2)) (h3.trans (by rw [h2, h1]; rfl)) ?_; cbv)
    | (refine l_callE hS cv1 (fn23 (a, b, x) (d0, d1, d2)) (h3.trans (by rw [h2, h1]; rfl)) ?_; cbv)
    | (refine l_callg hS cv1 (fn16 (a, b, x) _ _) ?_; rintro ⟨a1, a2, a3⟩ h1; cbv)
    | (refine l_callg hS cv1 (fn16 (a1, a2, a3) _ _) ?_; rintro ⟨b1, b2, b3⟩ h2; cbv)
    | (refine l_callg hS cv1 (fn16 (b1, b2, b3) _ _) ?_; rintro ⟨c1, c2, c3⟩ h3; cbv))
theorem pow_same (a b m : Int) (ha : 0 ≤ a ∧ a ≤ 1000000) (hb : 0 ≤ b ∧ b ≤ 1000000) (h0 : 0 ≤ m) (h1 : m ≤ a) (h2 : m ≤ b) : subI (a - m) (b - m) = subI a b := by
  unfold subI clampI
  split <;> split <;> split <;> omega
theorem can_no (c : Int × Int × Int) (h : isC c = false) : canC c = (c, 0) := by simp [canC, h]
theorem can_yes (a b d : Int) (h : isC (a, b, d) = true) : ∃ m, canC (a, b, d) = ((a - m, b - m, d), m) ∧ 0 ≤ m ∧ m ≤ a ∧ m ≤ b ∧ (a - m = 0 ∨ b - m = 0)
    ∧ isC (a - m, b - m, d) = true ∧ canC (a - m, b - m, d) = ((a - m, b - m, d), 0) ∧ (0 ≤ a ∧ a ≤ 1000000) ∧ (0 ≤ b ∧ b ≤ 1000000) := by
  have h2 := (isC_iff _).1 h
  simp only at h2
  have hm : 0 ≤ minI a b ∧ minI a b ≤ a ∧ minI a b ≤ b ∧ (a - minI a b = 0 ∨ b - minI a b = 0) := by unfold minI; split <;> omega
  have h3 : isC (a - minI a b, b - minI a b, d) = true := (isC_iff _).2 ⟨by simp only; omega, by simp only; omega, by simp only; omega⟩
  refine ⟨minI a b, by simp [canC, h], hm.1, hm.2.1, hm.2.2.1, hm.2.2.2, h3, ?_, h2.1, h2.2.1⟩
  have h4 : minI (a - minI a b) (b - minI a b) = 0 := by unfold minI; split <;> split <;> omega
  simp [canC, h3, h4]
theorem fn6 (c : Int × Int × Int) : Pv.Fn Tryd.prog tab.gl 6 [cv1 c] (fun u => u = .sb true) := by
  obtain ⟨c0, c1, c2⟩ := c
  refine fn_of tabOK rfl wf Tryd.func6 rfl Tryd.call6 rfl ?_
  intro S R hS hR
  cbv
  refine l_callg hS canV (fn18 (c0, c1, c2)) ?_
  rintro ⟨⟨a1, a2, a3⟩, a4⟩ h1
  cbv
  refine l_callg hS PV.sb (fn12 (c0, c1, c2)) ?_
  intro p hp
  cbv
  cases hc : isC (c0, c1, c2) with
  | false =>
    rw [can_no _ hc] at h1
    rw [hc] at hp
    repeat' (first
      | (exact hR _ rfl)
      | (refine hR _ ?_; (focus ((subst hS; simp_all [Sig.std, stdCmp]) <;> fail)))
      | (refine l_brT hS ?_ ?_; (focus ((subst hS; simp_all [Sig.std, stdCmp]) <;> fail)); cbv)
      | (refine l_brF hS ?_ ?_; (focus ((subst hS; simp_all [Sig.std, stdCmp]) <;> fail)); cbv)
      | (refine l_callq hS fn9 ?_; cbv))
  | true =>
    obtain ⟨m, k1, k2, k3, k4, k5, k6, k7, k8, k9⟩ := can_yes _ _ _ hc
    rw [k1] at h1
    rw [hc] at hp
    simp only [Prod.mk.injEq] at h1
    obtain ⟨⟨e1, e2, e3⟩, e4⟩ := h1
    rw [← e1, ← e2, ← e3] at k6 k7
    have k10 : subI a1 a2 = subI c0 c1 := by rw [e1, e2]; exact pow_same _ _ _ k8 k9 k2 k3 k4
    have k11 : stdBin .add .i64 a1 a4 = c0 := by simp only [stdBin]; rw [e1, e4, IntWalk.i64_in _ (by omega)]; omega
    have k12 : a1 = 0 ∨ a2 = 0 := by rw [e1, e2]; exact k5
    repeat' (first
      | (exact hR _ rfl)
      | (refine hR _ ?_; (focus ((subst hS; simp_all [Sig.std, stdCmp]) <;> fail)))
      | (refine l_brT hS ?_ ?_; (focus ((subst hS; simp_all [Sig.std, stdCmp]) <;> fail)); cbv)
      | (refine l_brF hS ?_ ?_; (focus ((subst hS; simp_all [Sig.std, stdCmp]) <;> fail)); cbv)
      | (refine l_order hS (by kernel_rfl) ?_; cbv)
      | (refine l_callq hS fn9 ?_; cbv)
      | (refine l_ix hS (j := 0) rfl (Nat.lt_of_sub_eq_succ rfl) ?_; cbv)
      | (refine l_ix hS (j := 1) rfl (Nat.lt_of_sub_eq_succ rfl) ?_; cbv)
      | (refine l_ix hS (j := 2) rfl (Nat.lt_of_sub_eq_succ rfl) ?_; cbv)
      | (refine l_callg hS canV (fn18 (a1, a2, a3)) ?_; rintro ⟨⟨b1, b2, b3⟩, b4⟩ h2; rw [k7] at h2; simp only [Prod.mk.injEq] at h2; cbv)
      | (refine l_callg hS (PV.si .i64) (fn20 (a1, a2, a3)) ?_; intro _ _; cbv)
      | (refine l_callg hS (PV.si .i64) (fn20 (c0, c1, c2)) ?_; intro _ _; cbv)
      | (refine l_callg hS PV.sb (fn12 (a1, a2, a3)) ?_; intro _ _; cbv)
      | (refine l_br hS ?_ ?_ <;> (intro _; cbv)))
