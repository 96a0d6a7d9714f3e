/-
  'CounterCancels': for every input the law returns true, and its arguments read behind the call as they read before. No condition but that the package's table of names holds what the program's text lays there (the card ties it).
-/
import Derived.Test.YtkejjohamlimeaaDoorPvD
import Derived.Test.YtkejjohamlimeaaDoorCards
import Derived.Test.YtkejjohamlimeaaDoorTie
import Derived.ProofKit
import Derived.OpenShut
import Derived.SevenTiedAt
namespace Go.Proofs.YtkejjohamlimeaaDoor.counterCancels
open Go Go.Pv Go.ChangeShapes Go.WideShapes Go.ChangeAt Go.RowKit
set_option linter.all false

theorem shaped (pvs : List PV) (h : ShpVL Tryd.prog Tryd.f6.params.toList pvs) : Pv.Fn Tryd.prog tab.gl 6 pvs (fun u => u = .sb true) := by
  rw [Tryd.params6] at h
  obtain ⟨p0, q0, rfl, h0, h⟩ := ShpVL.inv_cons h
  obtain rfl := h.inv_nil
  obtain ⟨v0, rfl⟩ := shpVC h0
  exact fn6 v0

set_option maxRecDepth 100000 in
theorem lifted (os : Os) (started : os.Started) (H : Type) (enc : TypeId × Value → H) :
    ReturnsInHanded {} Tryd.checked os 6 .any (fun w args => (Rows.counterCancelsSpec.pre enc Tryd.prog Tryd.f6 [] false w args ∧ laidMetH Tryd.prog laid1 w) ∧ sizedMet enc Tryd.prog Tryd.f6 (OpenSpec.ofChange Rows.counterCancelsSpec) false w args)
      (Rows.counterCancelsSpec.post enc Tryd.prog Tryd.f6 false true false false) := by
  refine returnsInHanded_of_change_and (C := Tryd.checked) (X := fun w _ => laidMetH Tryd.prog laid1 w) (fun _ _ _ hh h => h.of_heap hh) own started (by kernel_rfl) Tryd.func6
    (ChangeSpec.witness_shaped (enc := enc) (C := Tryd.checked) (os := os) (X := fun w _ => laidMetH Tryd.prog laid1 w) false (World.doorLaid Tryd.prog 400 os) #[.agg #[.int .i64 0, .int .i64 0, .int .i64 0]] 8 rfl (World.shaped_of_RefB (by kernel_rfl) (by kernel_rfl)) (by kernel_rfl) (by kernel_rfl) (by kernel_rfl) (door_met os _)) ?_
  intro W base args ds gs before hval hW _ _ hL _
  refine law_calls (P := Tryd.prog) (ts := [22, 3, 9]) (by kernel_rfl) rfl rfl Tryd.underlying4 ?_ shaped W (glob_of hL) base args ds gs before hval hW
  intro ds hd
  match ds, hd with
  | [_], _ => exact ⟨rfl, rfl, rfl⟩

theorem over : Rows.CounterCancelsSaid :=
  OpenClaim.holds_of_wide 6 Tryd.f6 rfl rfl rfl rfl rfl rfl rfl ⟨rfl, rfl, rfl, rfl, rfl⟩ rfl rfl rfl rfl rfl (by kernel_rfl) Tryd.func6 (by kernel_rfl)
    (of_decide_eq_true (by kernel_rfl)) (by unfold Func.isWrapper; first | (rw [if_pos (by decide +kernel)]; kernel_rfl) | (rw [if_neg (by decide +kernel)]; exact ⟨rfl, rfl⟩))
    (fun os started H enc _ => lifted os started H enc)

theorem proved : Rows.CounterCancelsCardSaid :=
  Claim7.holds_tied_plain_at .later [] [.widerDeep] true (true, "f62a61ddc6f22cb1b89fb7e59aef264a9f2d72a0844bbd691f862f2888400cb8") false
    over (fun _ h => by cases h) (by kernel_rfl) (fun _ h => by cases h) counterCancels_row_tie rfl ⟨rfl, rfl⟩ (by kernel_rfl) rfl
    (fun f fn hf hfn => by
      obtain rfl : f = 6 := Option.some.inj ((show Tryd.prog.funcNamed "cardgame/cardgamelaw12.CounterCancels" = some 6 by kernel_rfl).symm.trans hf) |>.symm
      obtain rfl : fn = Tryd.f6 := (Option.some.inj (Tryd.func6.symm.trans hfn)).symm
      exact ⟨by kernel_rfl, fun j t ht => by
        rw [Tryd.params6] at ht
        have hm : t ∈ [22] := by simpa using Array.mem_of_getElem? ht
        have hall : ([22].all fun u => !Tryd.prog.wantsStandIn u) = true := by kernel_rfl
        exact (show Tryd.prog.wantsStandIn t = false by simpa using List.all_eq_true.1 hall t hm)⟩)
    (by kernel_rfl)
end Go.Proofs.YtkejjohamlimeaaDoor.counterCancels
