/-
  Whether counters are in range: the function, its closure, and Go's own slices.ContainsFunc and IndexFunc for it.
-/
import Derived.Test.YtkejjohamlimeaaPvA
namespace Go.Proofs.Ytkejjohamlimeaa
open Go Go.Pv
set_option linter.all false
set_option linter.unusedSimpArgs false
set_option maxRecDepth 100000

def badN (n : Int) : Bool := decide (n < 0) || decide (n > 1000000)
theorem fn24 (n : Int) : Pv.Fn Try.prog tab.gl 24 [.si .i64 n] (fun u => u = .sb (badN n)) := by
  refine fn_of tabOK rfl wf Try.func24 rfl Try.call24 rfl ?_
  intro S R hS hR
  cbv
  repeat' (first | (refine l_br hS ?_ ?_ <;> (intro _; cbv)))
  all_goals
    refine hR _ ?_
    subst hS
    simp_all [Sig.std, stdCmp, badN]
  all_goals omega
def idxN (a b c : Int) : Int := if badN a then 0 else if badN b then 1 else if badN c then 2 else -1
theorem fn25 (a b c : Int) : Pv.Fn Try.prog tab.gl 25 [.sl 1 [[.si .i64 a], [.si .i64 b], [.si .i64 c]] false, .fn 24 []] (fun u => u = .si .i64 (idxN a b c)) := by
  refine fn_of tabOK rfl wf Try.func25 rfl Try.call25 rfl ?_
  intro S R hS hR
  cbv
  refine l_rounds tabOK wf hS 4 ?_
  cbv
  refine l_brT hS (by subst hS; simp [Sig.std, stdCmp]) ?_
  cbv
  refine l_idx hS (j := 0) rfl rfl ?_
  cbv
  refine l_callq_b hS (fn24 _) (fun x hx => ?_)
  cbv
  refine l_br hS ?_ ?_ <;> intro h1
  · cbv
    refine hR _ ?_
    simp_all [idxN]
  cbv
  refine l_brT hS (by subst hS; simp [Sig.std, stdCmp]) ?_
  cbv
  refine l_idx hS (j := 1) rfl rfl ?_
  cbv
  refine l_callq_b hS (fn24 _) (fun y hy => ?_)
  cbv
  refine l_br hS ?_ ?_ <;> intro h2
  · cbv
    refine hR _ ?_
    simp_all [idxN]
  cbv
  refine l_brT hS (by subst hS; simp [Sig.std, stdCmp]) ?_
  cbv
  refine l_idx hS (j := 2) rfl rfl ?_
  cbv
  refine l_callq_b hS (fn24 _) (fun z hz => ?_)
  cbv
  refine l_br hS ?_ ?_ <;> intro h3
  · cbv
    refine hR _ ?_
    simp_all [idxN]
  cbv
  refine l_brF hS (by subst hS; simp [Sig.std, stdCmp]) ?_
  cbv
  refine hR _ ?_
  simp_all [idxN]
theorem idxN_ge (a b c : Int) : decide (idxN a b c ≥ 0) = (badN a || badN b || badN c) := by
  unfold idxN
  cases badN a <;> cases badN b <;> cases badN c <;> simp
theorem fn23 (a b c : Int) : Pv.Fn Try.prog tab.gl 23 [.sl 1 [[.si .i64 a], [.si .i64 b], [.si .i64 c]] false, .fn 24 []] (fun u => u = .sb (badN a || badN b || badN c)) := by
  refine fn_of tabOK rfl wf Try.func23 rfl Try.call23 rfl ?_
  intro S R hS hR
  cbv
  refine l_callq_i hS (fn25 _ _ _) (fun x hx => ?_)
  cbv
  refine hR _ ?_
  subst hS hx
  rw [← idxN_ge]
  rfl
def okC (a b c : Int) : Bool := !(badN a || badN b || badN c)
theorem fn21 (a b c : Int) : Pv.Fn Try.prog tab.gl 21 [.agg [.si .i64 a, .si .i64 b, .si .i64 c]] (fun u => u = .sb (okC a b c)) := by
  refine fn_of tabOK rfl wf Try.func21 rfl Try.call21 rfl ?_
  intro S R hS hR
  cbv
  refine l_callq_b hS (fn23 _ _ _) (fun x hx => ?_)
  cbv
  refine hR _ ?_
  subst hS hx
  simp [Sig.std, okC]
theorem fn22 (a b c : Int) : Pv.Fn Try.prog tab.gl 22 [.agg [.si .i64 a, .si .i64 b, .si .i64 c]] (fun u => u = .sb (okC a b c)) := by
  refine fn_of tabOK rfl wf Try.func22 rfl Try.call22 rfl ?_
  intro S R hS hR
  cbv
  refine l_rounds tabOK wf hS 4 ?_
  cbv
  repeat' (first | (refine l_br hS ?_ ?_ <;> (intro _; cbv)))
  all_goals
    refine hR _ ?_
    subst hS
    simp_all [Sig.std, stdCmp, okC, badN]
  all_goals omega
end Go.Proofs.Ytkejjohamlimeaa
