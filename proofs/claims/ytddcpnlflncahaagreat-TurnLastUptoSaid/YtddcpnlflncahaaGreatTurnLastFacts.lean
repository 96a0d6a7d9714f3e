/-
  Closed facts of the row of 'TurnLast'.
-/
import Derived.Test.YtddcpnlflncahaaGreatRows
import Derived.ProofKit
import Derived.OpenShut
import Derived.JoinedCond
namespace Go.Proofs.YtddcpnlflncahaaGreat.turnLast
open Go Go.ChangeShapes Go.WideShapes Go.ChangeAt
theorem own : ownKnob Tryz.prog.godebug = none := by kernel_rfl
theorem noInit : Tryz.checked.prog.inits.idxOf? 5 = none := by kernel_rfl
theorem fnamed : Tryz.pinned.checked.prog.funcNamed Rows.turnLastUptoRow.func = some 5 := by kernel_rfl
theorem joined : joinedFacts Tryz.pinned.checked.prog 5 Tryz.f5 (Rows.OpenSpec.upto Rows.turnLastSpec).bare Rows.turnLastUptoRow = true := by kernel_rfl
theorem inst : Tryz.f5.isInstance Tryz.pinned.checked.prog Rows.turnLastUptoRow.origin Rows.turnLastUptoRow.targs := of_decide_eq_true (by kernel_rfl)
theorem wrap : Tryz.f5.isWrapper Tryz.pinned.checked.prog Rows.turnLastUptoRow.wrapper Rows.turnLastUptoRow.mainSum := by unfold Func.isWrapper; first | (rw [if_pos (by decide +kernel)]; kernel_rfl) | (rw [if_neg (by decide +kernel)]; exact ⟨rfl, rfl⟩)
end Go.Proofs.YtddcpnlflncahaaGreat.turnLast
