/-
  'DependLoops': for every input the law returns true, and its arguments read behind the call as they read before. No condition.
-/
import Derived.Test.YtjdakjnobladaaaShp
import Derived.WalkKit
import Derived.ProofKit
import Derived.OpenShut
namespace Go.Proofs.Ytjdakjnobladaaa.dependLoops
open Go Go.Pv Go.ChangeShapes Go.WideShapes Go.ChangeAt Go.RowKit
set_option linter.all false

theorem own : ownKnob Try.prog.godebug = none := by kernel_rfl

theorem shaped (pvs : List PV) (h : ShpVL Try.prog Try.f8.params.toList pvs) : Pv.Fn Try.prog glF 8 pvs (fun u => u = .sb true) := by
  rw [Try.params8] at h
  obtain ⟨p0, q0, rfl, h0, h⟩ := ShpVL.inv_cons h
  obtain rfl := h.inv_nil
  obtain ⟨x0, rfl, k0⟩ := sV22 h0
  exact c8 rfl (DependLoops_true x0 )

set_option maxRecDepth 100000 in
theorem lifted (os : Os) (started : os.Started) (H : Type) (enc : TypeId × Value → H) :
    ReturnsInHanded {} Try.checked os 8 .any (Rows.dependLoopsSpec.pre6 enc Try.prog Try.f8 Rows.dependLoopsRow.domain false) (Rows.dependLoopsSpec.post enc Try.prog Try.f8 false true false false) := by
  refine returnsInHanded_of_change (C := Try.checked) own started (by kernel_rfl) Try.func8
    (ChangeSpec.witness6 (enc := enc) (C := Try.checked) false ⟨#[], #[.slice none 0 0], []⟩ 8 (by kernel_rfl) (by kernel_rfl) (by kernel_rfl) (by kernel_rfl)) ?_
  intro W base args ds gs before hval hW _ _
  refine law_calls (P := Try.prog) (ts := [3, 4, 22, 23, 31]) (by kernel_rfl) rfl rfl Try.underlying4 ?_ shaped W (fun g cs h => by simp [glF] at h) base args ds gs before hval hW
  intro ds hd
  match ds, hd with
  | [_], _ => exact ⟨rfl, rfl, rfl⟩

theorem over : Rows.dependLoopsRow.holds Try.pinned (OpenSpec.ofChange Rows.dependLoopsSpec) :=
  OpenClaim.holds_of_wide 8 Try.f8 rfl rfl rfl rfl rfl rfl rfl ⟨rfl, rfl, rfl, rfl, rfl⟩ rfl rfl rfl rfl rfl (by kernel_rfl) Try.func8 (by kernel_rfl)
    (of_decide_eq_true (by kernel_rfl)) (by unfold Func.isWrapper; first | (rw [if_pos (by decide +kernel)]; kernel_rfl) | (rw [if_neg (by decide +kernel)]; exact ⟨rfl, rfl⟩))
    (fun os started H enc _ => lifted os started H enc)

theorem proved : Rows.DependLoopsSaid :=
  over
end Go.Proofs.Ytjdakjnobladaaa.dependLoops
