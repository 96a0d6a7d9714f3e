/-
  'CostPays': for every input the law returns true, and its arguments read behind the call as they read before. No condition.
-/
import Derived.WalkKit
import Derived.ProofKit
import Derived.OpenShut
import Derived.Test.YtddcpnlflncahaaP09
set_option linter.all false
namespace Go.Proofs.Ytddcpnlflncahaa.costPays
open Go Go.Pv Go.ChangeShapes Go.WideShapes Go.ChangeAt Go.RowKit
theorem own : ownKnob Try.prog.godebug = none := by kernel_rfl
theorem shaped (pvs : List PV) (h : ShpVL Try.prog Try.f4.params.toList pvs) : Pv.Fn Try.prog glF 4 pvs (fun u => u = .sb true) := by
  rw [Try.params4] at h
  obtain ⟨p0, q0, rfl, h0, h⟩ := ShpVL.inv_cons h
  obtain ⟨p1, q1, rfl, h1, h⟩ := ShpVL.inv_cons h
  obtain ⟨p2, q2, rfl, h2, h⟩ := ShpVL.inv_cons h
  obtain rfl := h.inv_nil
  obtain ⟨x0, rfl, k0⟩ := sV23 h0
  obtain ⟨x1, rfl, k1⟩ := sV26 h1
  obtain ⟨x2, rfl, k2⟩ := sV3 h2
  exact c4 rfl (CostPays_true x0 x1 x2 )
set_option maxRecDepth 100000 in
theorem lifted (os : Os) (started : os.Started) (H : Type) (enc : TypeId × Value → H) :
    ReturnsInHanded {} Try.checked os 4 .any (Rows.costPaysSpec.pre6 enc Try.prog Try.f4 Rows.costPaysRow.domain false) (Rows.costPaysSpec.post enc Try.prog Try.f4 false true false false) := by
  refine returnsInHanded_of_change (C := Try.checked) own started (by kernel_rfl) Try.func4
    (ChangeSpec.witness6 (enc := enc) (C := Try.checked) false ⟨#[], #[.agg #[.int .i64 0, .int .i64 0, .int .i64 0, .int .i64 0, .int .i64 0, .int .i64 0], .agg #[.int .i64 0, .int .i64 0, .int .i64 0, .int .i64 0, .int .i64 0, .int .i64 0, .int .i64 0], .int .i64 0], []⟩ 8 (by kernel_rfl) (by kernel_rfl) (by kernel_rfl) (by kernel_rfl)) ?_
  intro W base args ds gs before hval hW _ _
  refine law_calls (P := Try.prog) (ts := [3, 4, 23, 24, 26]) (by kernel_rfl) rfl rfl Try.underlying4 ?_ shaped W (fun g cs h => by simp [glF] at h) base args ds gs before hval hW
  intro ds hd
  match ds, hd with
  | [_, _, _], _ => exact ⟨rfl, rfl, rfl⟩
theorem over : Rows.costPaysRow.holds Try.pinned (OpenSpec.ofChange Rows.costPaysSpec) :=
  OpenClaim.holds_of_wide 4 Try.f4 rfl rfl rfl rfl rfl rfl rfl ⟨rfl, rfl, rfl, rfl, rfl⟩ rfl rfl rfl rfl rfl (by kernel_rfl) Try.func4 (by kernel_rfl)
    (of_decide_eq_true (by kernel_rfl)) (by unfold Func.isWrapper; first | (rw [if_pos (by decide +kernel)]; kernel_rfl) | (rw [if_neg (by decide +kernel)]; exact ⟨rfl, rfl⟩))
    (fun os started H enc _ => lifted os started H enc)
theorem proved : Rows.CostPaysSaid :=
  over
end Go.Proofs.Ytddcpnlflncahaa.costPays
