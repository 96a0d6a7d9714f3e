/-
  Functions of this seat as plain functions, each with its walk (written by godec.py).
-/
import Derived.Test.YtlelpgnmmbbfaaaW8a
namespace Go.Proofs.Ytlelpgnmmbbfaaa
open Go Go.Pv
set_option linter.all false
set_option linter.unusedVariables false
set_option linter.unusedSimpArgs false
set_option maxRecDepth 100000
set_option maxHeartbeats 2000000
theorem c3 {M : EncM} (hM : M = mapE) {p : Arr6 Int} {c : GCost} {r : Bool} (hf : law39_CostMost p c = some r) : Pv.Fn Try.prog glF 3 [.agg [.si .i64 p.a0, .si .i64 p.a1, .si .i64 p.a2, .si .i64 p.a3, .si .i64 p.a4, .si .i64 p.a5], .agg (eGCost M c)] (fun u => u = .sb r) := by
  refine fn_dec (T := tab) tabOK rfl wf Try.func3 rfl Try.call3 rfl ?_
  intro S R hS hR
  have q := sf hM hS
  unfold law39_CostMost at hf
  cbv
  refine l_order hS (by kernel_rfl) ?_; cbv
  refine d_call hS hf (fun _ h => c5 hM h) (le_eq rfl) ?_
  intro y1 hf; cbv
  refine d_br hS hf rfl ?_ ?_
  · intro hf; cbv
    refine d_call hS hf (fun _ h => c6 hM h) (le_eq rfl) ?_
    intro y2 hf; cbv
    refine d_call hS hf (fun _ h => c7 hM h) (le_eq rfl) ?_
    intro y3 hf; cbv
    cases hf; exact hR _ (lp_eq (by simp only [q]; try first | rfl | simp [stdCmp, eI, eB, eL, eS, q]))
  intro hf; cbv
  cases hf; exact hR _ (lp_eq rfl)
end Go.Proofs.Ytlelpgnmmbbfaaa
