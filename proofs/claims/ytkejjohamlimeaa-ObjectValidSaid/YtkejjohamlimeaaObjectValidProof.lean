/-
  'ObjectValid': for every input the law returns true, and its arguments read behind the call as they read before. No condition.
-/
import Derived.Test.YtkejjohamlimeaaPvE
import Derived.WalkKit
import Derived.ProofKit
import Derived.OpenShut
namespace Go.Proofs.Ytkejjohamlimeaa.objectValid
open Go Go.Pv Go.ChangeShapes Go.WideShapes Go.ChangeAt Go.RowKit
set_option linter.all false

theorem own : ownKnob Try.prog.godebug = none := by kernel_rfl

theorem shaped (pvs : List PV) (h : ShpVL Try.prog Try.f8.params.toList pvs) : Pv.Fn Try.prog 8 pvs (fun u => u = .sb true) := by
  rw [Try.params8] at h
  obtain ⟨p0, q0, rfl, h0, h⟩ := ShpVL.inv_cons h
  obtain ⟨p1, q1, rfl, h1, h⟩ := ShpVL.inv_cons h
  obtain ⟨p2, q2, rfl, h2, h⟩ := ShpVL.inv_cons h
  obtain rfl := h.inv_nil
  obtain ⟨o, rfl⟩ := shpO h0
  obtain ⟨n0, n1, n2, n3, rfl⟩ := shpV25 h1
  obtain ⟨s0, s1, rfl⟩ := shpV33 h2
  exact fn8 o n0 n1 n2 n3 s0 s1

set_option maxRecDepth 100000 in
theorem lifted (os : Os) (started : os.Started) (H : Type) (enc : TypeId × Value → H) :
    ReturnsInHanded {} Try.checked os 8 .any (Rows.objectValidSpec.pre6 enc Try.prog Try.f8 Rows.objectValidRow.domain false) (Rows.objectValidSpec.post enc Try.prog Try.f8 false true false false) := by
  refine returnsInHanded_of_change (C := Try.checked) own started (by kernel_rfl) Try.func8
    (ChangeSpec.witness6 (enc := enc) (C := Try.checked) false ⟨#[], #[.agg #[.int .i64 0, .int .i64 0, .int .i64 0, .int .i64 0, .int .i64 0, .bool false, .bool false, .bool false, .bool false, .int .i64 0, .int .i64 0, .int .i64 0, .int .i64 0, .int .i64 0, .int .i64 0, .int .i64 0, .bool false, .int .i64 0, .int .i64 0], .agg #[.int .i64 0, .int .i64 0, .int .i64 0, .int .i64 0], .agg #[.int .i64 0, .int .i64 0]], []⟩ 8 (by kernel_rfl) (by kernel_rfl) (by kernel_rfl) (by kernel_rfl)) ?_
  intro W base args ds gs before hval hW _ _
  refine law_calls (P := Try.prog) (ts := [24, 25, 33, 22, 3, 4]) (by kernel_rfl) rfl rfl Try.underlying4 ?_ shaped W base args ds gs before hval hW
  intro ds hd
  match ds, hd with
  | [_, _, _], _ => exact ⟨rfl, rfl, rfl⟩

theorem over : Rows.objectValidRow.holds Try.pinned (OpenSpec.ofChange Rows.objectValidSpec) :=
  OpenClaim.holds_of_wide 8 Try.f8 rfl rfl rfl rfl rfl rfl rfl ⟨rfl, rfl, rfl, rfl, rfl⟩ rfl rfl rfl rfl rfl (by kernel_rfl) Try.func8 (by kernel_rfl)
    (of_decide_eq_true (by kernel_rfl)) (by unfold Func.isWrapper; first | (rw [if_pos (by decide +kernel)]; kernel_rfl) | (rw [if_neg (by decide +kernel)]; exact ⟨rfl, rfl⟩))
    (fun os started H enc _ => lifted os started H enc)

theorem proved : Rows.ObjectValidSaid :=
  over
end Go.Proofs.Ytkejjohamlimeaa.objectValid
