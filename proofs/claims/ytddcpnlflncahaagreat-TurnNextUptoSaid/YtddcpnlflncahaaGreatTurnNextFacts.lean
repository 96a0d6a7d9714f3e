/-
  Closed facts of the row of 'TurnNext'.
-/
import Derived.Test.YtddcpnlflncahaaGreatRows
import Derived.ProofKit
import Derived.OpenShut
import Derived.JoinedCond
namespace Go.Proofs.YtddcpnlflncahaaGreat.turnNext
open Go Go.ChangeShapes Go.WideShapes Go.ChangeAt
theorem own : ownKnob Tryz.prog.godebug = none := by kernel_rfl
theorem noInit : Tryz.checked.prog.inits.idxOf? 3 = none := by kernel_rfl
theorem fnamed : Tryz.pinned.checked.prog.funcNamed Rows.turnNextUptoRow.func = some 3 := by kernel_rfl
theorem joined : joinedFacts Tryz.pinned.checked.prog 3 Tryz.f3 (Rows.OpenSpec.upto Rows.turnNextSpec).bare Rows.turnNextUptoRow = true := by kernel_rfl
theorem inst : Tryz.f3.isInstance Tryz.pinned.checked.prog Rows.turnNextUptoRow.origin Rows.turnNextUptoRow.targs := of_decide_eq_true (by kernel_rfl)
theorem wrap : Tryz.f3.isWrapper Tryz.pinned.checked.prog Rows.turnNextUptoRow.wrapper Rows.turnNextUptoRow.mainSum := by unfold Func.isWrapper; first | (rw [if_pos (by decide +kernel)]; kernel_rfl) | (rw [if_neg (by decide +kernel)]; exact ⟨rfl, rfl⟩)
end Go.Proofs.YtddcpnlflncahaaGreat.turnNext
