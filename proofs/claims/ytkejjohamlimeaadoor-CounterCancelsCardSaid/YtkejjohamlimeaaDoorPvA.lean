/-
  The functions of the packages num, counter and of their references, each by its body's reading.
-/
import Derived.Test.YtkejjohamlimeaaDoorPvTab
import Derived.IntWalk
namespace Go.Proofs.YtkejjohamlimeaaDoor
open Go Go.Pv
set_option linter.all false
set_option linter.unusedSimpArgs false
set_option maxRecDepth 100000

def clampI (n : Int) : Int := if n > 1000000 then 1000000 else if n < -1000000 then -1000000 else n
def addI (a b : Int) : Int := clampI (clampI a + clampI b)
def subI (a b : Int) : Int := clampI (clampI a - clampI b)
theorem clamp_b (n : Int) : -1000000 ≤ clampI n ∧ clampI n ≤ 1000000 := by unfold clampI; omega
theorem wrap_small {n : Int} (h : -10000000 ≤ n ∧ n ≤ 10000000) : IntKind.i64.wrap n = n := IntWalk.i64_in n ⟨by omega, by omega⟩

theorem fn32 (n : Int) : Pv.Fn Tryd.prog tab.gl 32 [.si .i64 n] (fun u => u = .si .i64 (clampI n)) := by
  refine fn_of tabOK rfl wf Tryd.func32 rfl Tryd.call32 rfl ?_
  intro S R hS hR
  cbv
  refine hR _ ?_
  subst hS
  simp only [Sig.std, clampI]
  congr 1
  split <;> split <;> first | omega | (split <;> first | omega | (split <;> omega))

theorem fn33 (n : Int) : Pv.Fn Tryd.prog tab.gl 33 [.si .i64 n] (fun u => u = .si .i64 (clampI n)) := by
  refine fn_of tabOK rfl wf Tryd.func33 rfl Tryd.call33 rfl ?_
  intro S R hS hR
  cbv
  repeat' (first
    | (refine l_order hS (by kernel_rfl) ?_; cbv)
    | (refine l_br hS ?_ ?_ <;> (intro _; cbv)))
  all_goals
    refine hR _ ?_
    subst hS
    simp_all [Sig.std, stdCmp, clampI]
  all_goals omega

theorem fn27 (a b : Int) : Pv.Fn Tryd.prog tab.gl 27 [.si .i64 a, .si .i64 b] (fun u => u = .si .i64 (addI a b)) := by
  refine fn_of tabOK rfl wf Tryd.func27 rfl Tryd.call27 rfl ?_
  intro S R hS hR
  cbv
  repeat' (first
    | (refine l_callg hS (PV.si .i64) (fn32 _) ?_; intro _ _; cbv)
    | (refine l_order hS (by kernel_rfl) ?_; cbv)
    | (refine l_br hS ?_ ?_ <;> (intro _; cbv)))
  refine hR _ ?_
  subst hS
  simp_all [Sig.std, stdBin, addI]
  rw [wrap_small]
  have := clamp_b a; have := clamp_b b; omega

theorem fn28 (a b : Int) : Pv.Fn Tryd.prog tab.gl 28 [.si .i64 a, .si .i64 b] (fun u => u = .si .i64 (addI a b)) := by
  refine fn_of tabOK rfl wf Tryd.func28 rfl Tryd.call28 rfl ?_
  intro S R hS hR
  cbv
  repeat' (first
    | (refine l_callg hS (PV.si .i64) (fn33 _) ?_; intro _ _; cbv)
    | (refine l_order hS (by kernel_rfl) ?_; cbv)
    | (refine l_br hS ?_ ?_ <;> (intro _; cbv)))
  refine hR _ ?_
  subst hS
  simp_all [Sig.std, stdBin, addI]
  rw [wrap_small]
  have := clamp_b a; have := clamp_b b; omega
theorem fn29 (a b : Int) : Pv.Fn Tryd.prog tab.gl 29 [.si .i64 a, .si .i64 b] (fun u => u = .si .i64 (subI a b)) := by
  refine fn_of tabOK rfl wf Tryd.func29 rfl Tryd.call29 rfl ?_
  intro S R hS hR
  cbv
  repeat' (first
    | (refine l_callg hS (PV.si .i64) (fn32 _) ?_; intro _ _; cbv)
    | (refine l_order hS (by kernel_rfl) ?_; cbv)
    | (refine l_br hS ?_ ?_ <;> (intro _; cbv)))
  refine hR _ ?_
  subst hS
  simp_all [Sig.std, stdBin, subI]
  rw [wrap_small]
  have := clamp_b a; have := clamp_b b; omega
theorem fn30 (a b : Int) : Pv.Fn Tryd.prog tab.gl 30 [.si .i64 a, .si .i64 b] (fun u => u = .si .i64 (subI a b)) := by
  refine fn_of tabOK rfl wf Tryd.func30 rfl Tryd.call30 rfl ?_
  intro S R hS hR
  cbv
  repeat' (first
    | (refine l_callg hS (PV.si .i64) (fn33 _) ?_; intro _ _; cbv)
    | (refine l_order hS (by kernel_rfl) ?_; cbv)
    | (refine l_br hS ?_ ?_ <;> (intro _; cbv)))
  refine hR _ ?_
  subst hS
  simp_all [Sig.std, stdBin, subI]
  rw [wrap_small]
  have := clamp_b a; have := clamp_b b; omega

/-! ### Is, Name, Kind -/
def badN (n : Int) : Bool := decide (n < 0) || decide (1000000 < n)
theorem fn26 (n : Int) : Pv.Fn Tryd.prog tab.gl 26 [.si .i64 n] (fun u => u = .sb (badN n)) := by
  refine fn_of tabOK rfl wf Tryd.func26 rfl Tryd.call26 rfl ?_
  intro S R hS hR
  cbv
  repeat' (first
    | (refine l_order hS (by kernel_rfl) ?_; cbv)
    | (refine l_br hS ?_ ?_ <;> (intro _; cbv)))
  all_goals
    refine hR _ ?_
    subst hS
    simp_all [Sig.std, stdCmp, badN]
  all_goals omega
def idxN (a b c : Int) : Int := if badN a then 0 else if badN b then 1 else if badN c then 2 else -1
theorem fn31 (a b c : Int) : Pv.Fn Tryd.prog tab.gl 31 [.sl 1 [[.si .i64 a], [.si .i64 b], [.si .i64 c]] false, .fn 26 []] (fun u => u = .si .i64 (idxN a b c)) := by
  refine fn_of tabOK rfl wf Tryd.func31 rfl Tryd.call31 rfl ?_
  intro S R hS hR
  cbv
  refine l_rounds tabOK wf hS 4 ?_
  cbv
  refine l_brT hS (by subst hS; simp [Sig.std, stdCmp, stdBin]) ?_
  cbv
  refine l_idx hS (j := 0) rfl rfl ?_
  cbv
  refine l_callq_b hS (fn26 _) (fun x hx => ?_)
  cbv
  refine l_br hS ?_ ?_ <;> intro h1
  · cbv
    refine hR _ ?_
    simp_all [idxN]
  cbv
  refine l_brT hS (by subst hS; simp [Sig.std, stdCmp, stdBin]) ?_
  cbv
  refine l_idx hS (j := 1) rfl rfl ?_
  cbv
  refine l_callq_b hS (fn26 _) (fun y hy => ?_)
  cbv
  refine l_br hS ?_ ?_ <;> intro h2
  · cbv
    refine hR _ ?_
    simp_all [idxN]
  cbv
  refine l_brT hS (by subst hS; simp [Sig.std, stdCmp, stdBin]) ?_
  cbv
  refine l_idx hS (j := 2) rfl rfl ?_
  cbv
  refine l_callq_b hS (fn26 _) (fun z hz => ?_)
  cbv
  refine l_br hS ?_ ?_ <;> intro h3
  · cbv
    refine hR _ ?_
    simp_all [idxN]
  cbv
  refine l_brF hS (by subst hS; simp [Sig.std, stdCmp, stdBin]) ?_
  cbv
  refine hR _ ?_
  simp_all [idxN]
