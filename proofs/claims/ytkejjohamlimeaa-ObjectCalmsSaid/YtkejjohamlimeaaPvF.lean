/-
  The statement on Ended and Calm together: the function returns true.
-/
import Derived.Test.YtkejjohamlimeaaPvD
namespace Go.Proofs.Ytkejjohamlimeaa
open Go Go.Pv
set_option linter.all false
set_option linter.unusedSimpArgs false
set_option maxRecDepth 100000
set_option maxHeartbeats 4000000
theorem fn6 (o : Obj) : Pv.Fn Try.prog tab.gl 6 [o.pv] (fun u => u = .sb true) := by
  refine fn_of tabOK rfl wf Try.func6 rfl Try.call6 rfl ?_
  intro S R hS hR
  cbv
  repeat' (first
    | (exact hR _ rfl)
    | (refine l_order hS (by kernel_rfl) ?_; cbv)
    | (refine l_brT hS ?_ ?_; (focus ((subst hS; simp [Sig.std, stdCmp]) <;> fail)); cbv)
    | (refine l_callq hS (fn14 o) ?_; cbv)
    | (refine l_callq hS (fn16 o) ?_; cbv)
    | (refine l_callq hS (fn14 (endedO o)) ?_; cbv)
    | (refine l_callq hS (fn16 (calmO o)) ?_; cbv)
    | (refine l_callq hS (fn14 (calmO o)) ?_; cbv)
    | (refine l_callq hS (fn16 (endedO o)) ?_; cbv)
    | (refine l_callq hS fn13 ?_; cbv))
end Go.Proofs.Ytkejjohamlimeaa
