/-
  'CostMost': for every input the law returns true, and its arguments read behind the call as they read before. No condition.
-/
import Derived.Test.YtlelpgnmmbbfaaaShp
import Derived.WalkKit
import Derived.ProofKit
import Derived.OpenShut
namespace Go.Proofs.Ytlelpgnmmbbfaaa.costMost
open Go Go.Pv Go.ChangeShapes Go.WideShapes Go.ChangeAt Go.RowKit
set_option linter.all false

theorem own : ownKnob Try.prog.godebug = none := by kernel_rfl

theorem shaped (pvs : List PV) (h : ShpVL Try.prog Try.f3.params.toList pvs) : Pv.Fn Try.prog glF 3 pvs (fun u => u = .sb true) := by
  rw [Try.params3] at h
  obtain ⟨p0, q0, rfl, h0, h⟩ := ShpVL.inv_cons h
  obtain ⟨p1, q1, rfl, h1, h⟩ := ShpVL.inv_cons h
  obtain rfl := h.inv_nil
  obtain ⟨x0, rfl, k0⟩ := sV23 h0
  obtain ⟨x1, rfl, k1⟩ := sV26 h1
  exact c3 rfl (CostMost_true x0 x1 )

set_option maxRecDepth 100000 in
theorem lifted (os : Os) (started : os.Started) (H : Type) (enc : TypeId × Value → H) :
    ReturnsInHanded {} Try.checked os 3 .any (Rows.costMostSpec.pre6 enc Try.prog Try.f3 Rows.costMostRow.domain false) (Rows.costMostSpec.post enc Try.prog Try.f3 false true false false) := by
  refine returnsInHanded_of_change (C := Try.checked) own started (by kernel_rfl) Try.func3
    (ChangeSpec.witness6 (enc := enc) (C := Try.checked) false ⟨#[], #[.agg #[.int .i64 0, .int .i64 0, .int .i64 0, .int .i64 0, .int .i64 0, .int .i64 0], .agg #[.int .i64 0, .int .i64 0, .int .i64 0, .int .i64 0, .int .i64 0, .int .i64 0, .int .i64 0]], []⟩ 8 (by kernel_rfl) (by kernel_rfl) (by kernel_rfl) (by kernel_rfl)) ?_
  intro W base args ds gs before hval hW _ _
  refine law_calls (P := Try.prog) (ts := [3, 4, 23, 24, 26]) (by kernel_rfl) rfl rfl Try.underlying4 ?_ shaped W (fun g cs h => by simp [glF] at h) base args ds gs before hval hW
  intro ds hd
  match ds, hd with
  | [_, _], _ => exact ⟨rfl, rfl, rfl⟩

theorem over : Rows.costMostRow.holds Try.pinned (OpenSpec.ofChange Rows.costMostSpec) :=
  OpenClaim.holds_of_wide 3 Try.f3 rfl rfl rfl rfl rfl rfl rfl ⟨rfl, rfl, rfl, rfl, rfl⟩ rfl rfl rfl rfl rfl (by kernel_rfl) Try.func3 (by kernel_rfl)
    (of_decide_eq_true (by kernel_rfl)) (by unfold Func.isWrapper; first | (rw [if_pos (by decide +kernel)]; kernel_rfl) | (rw [if_neg (by decide +kernel)]; exact ⟨rfl, rfl⟩))
    (fun os started H enc _ => lifted os started H enc)

theorem proved : Rows.CostMostSaid :=
  over
end Go.Proofs.Ytlelpgnmmbbfaaa.costMost
