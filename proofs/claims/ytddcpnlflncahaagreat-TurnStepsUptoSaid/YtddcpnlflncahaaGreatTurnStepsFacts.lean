/-
  Closed facts of the row of 'TurnSteps'.
-/
import Derived.Test.YtddcpnlflncahaaGreatRows
import Derived.ProofKit
import Derived.OpenShut
import Derived.JoinedCond
namespace Go.Proofs.YtddcpnlflncahaaGreat.turnSteps
open Go Go.ChangeShapes Go.WideShapes Go.ChangeAt
theorem own : ownKnob Tryz.prog.godebug = none := by kernel_rfl
theorem noInit : Tryz.checked.prog.inits.idxOf? 4 = none := by kernel_rfl
theorem fnamed : Tryz.pinned.checked.prog.funcNamed Rows.turnStepsUptoRow.func = some 4 := by kernel_rfl
theorem joined : joinedFacts Tryz.pinned.checked.prog 4 Tryz.f4 (Rows.OpenSpec.upto Rows.turnStepsSpec).bare Rows.turnStepsUptoRow = true := by kernel_rfl
theorem inst : Tryz.f4.isInstance Tryz.pinned.checked.prog Rows.turnStepsUptoRow.origin Rows.turnStepsUptoRow.targs := of_decide_eq_true (by kernel_rfl)
theorem wrap : Tryz.f4.isWrapper Tryz.pinned.checked.prog Rows.turnStepsUptoRow.wrapper Rows.turnStepsUptoRow.mainSum := by unfold Func.isWrapper; first | (rw [if_pos (by decide +kernel)]; kernel_rfl) | (rw [if_neg (by decide +kernel)]; exact ⟨rfl, rfl⟩)
end Go.Proofs.YtddcpnlflncahaaGreat.turnSteps
