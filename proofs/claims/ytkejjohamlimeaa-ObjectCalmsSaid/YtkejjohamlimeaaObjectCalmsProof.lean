/-
  'ObjectCalms': for every input the law returns true, and its arguments read behind the call as they read before. No condition.
-/
import Derived.Test.YtkejjohamlimeaaPvF
import Derived.Test.YtkejjohamlimeaaPvE
import Derived.WalkKit
import Derived.ProofKit
import Derived.OpenShut
namespace Go.Proofs.Ytkejjohamlimeaa.objectCalms
open Go Go.Pv Go.ChangeShapes Go.WideShapes Go.ChangeAt Go.RowKit
set_option linter.all false

theorem own : ownKnob Try.prog.godebug = none := by kernel_rfl

theorem shaped (pvs : List PV) (h : ShpVL Try.prog Try.f6.params.toList pvs) : Pv.Fn Try.prog tab.gl 6 pvs (fun u => u = .sb true) := by
  rw [Try.params6] at h
  obtain ⟨p0, q0, rfl, h0, h⟩ := ShpVL.inv_cons h
  obtain rfl := h.inv_nil
  obtain ⟨o, rfl⟩ := shpO h0
  exact fn6 o

set_option maxRecDepth 100000 in
theorem lifted (os : Os) (started : os.Started) (H : Type) (enc : TypeId × Value → H) :
    ReturnsInHanded {} Try.checked os 6 .any (Rows.objectCalmsSpec.pre6 enc Try.prog Try.f6 Rows.objectCalmsRow.domain false) (Rows.objectCalmsSpec.post enc Try.prog Try.f6 false true false false) := by
  refine returnsInHanded_of_change (C := Try.checked) own started (by kernel_rfl) Try.func6
    (ChangeSpec.witness6 (enc := enc) (C := Try.checked) false ⟨#[], #[.agg #[.int .i64 0, .int .i64 0, .int .i64 0, .int .i64 0, .int .i64 0, .bool false, .bool false, .bool false, .bool false, .int .i64 0, .int .i64 0, .int .i64 0, .int .i64 0, .int .i64 0, .int .i64 0, .int .i64 0, .bool false, .int .i64 0, .int .i64 0]], []⟩ 8 (by kernel_rfl) (by kernel_rfl) (by kernel_rfl) (by kernel_rfl)) ?_
  intro W base args ds gs before hval hW _ _
  refine law_calls (P := Try.prog) (ts := [24, 25, 33, 22, 3, 4]) (by kernel_rfl) rfl rfl Try.underlying4 ?_ shaped W (fun g cs h => by simp [tab, glF] at h) base args ds gs before hval hW
  intro ds hd
  match ds, hd with
  | [_], _ => exact ⟨rfl, rfl, rfl⟩

theorem over : Rows.objectCalmsRow.holds Try.pinned (OpenSpec.ofChange Rows.objectCalmsSpec) :=
  OpenClaim.holds_of_wide 6 Try.f6 rfl rfl rfl rfl rfl rfl rfl ⟨rfl, rfl, rfl, rfl, rfl⟩ rfl rfl rfl rfl rfl (by kernel_rfl) Try.func6 (by kernel_rfl)
    (of_decide_eq_true (by kernel_rfl)) (by unfold Func.isWrapper; first | (rw [if_pos (by decide +kernel)]; kernel_rfl) | (rw [if_neg (by decide +kernel)]; exact ⟨rfl, rfl⟩))
    (fun os started H enc _ => lifted os started H enc)

theorem proved : Rows.ObjectCalmsSaid :=
  over
end Go.Proofs.Ytkejjohamlimeaa.objectCalms
