/-
  Functions of this seat as plain functions, each with its walk (written by godec.py).
-/
import Derived.Test.YtjdakjnobladaaaW3a
namespace Go.Proofs.Ytjdakjnobladaaa
open Go Go.Pv
set_option linter.all false
set_option linter.unusedVariables false
set_option linter.unusedSimpArgs false
set_option maxRecDepth 100000
set_option maxHeartbeats 2000000
theorem c15 {M : EncM} (hM : M = mapE) {left : List Int} {stamps : List Int} {needs : List (List Bool)} {r : Int} (hf : r07_Next left stamps needs = some r) : Pv.Fn Try.prog glF 15 [.sl 1 (M.m Int (eI .i64) left) false, .sl 1 (M.m Int (eI .i64) stamps) false, .sl 1 (M.m (List Bool) (eL M 1 eB) needs) false] (fun u => u = .si .i64 r) := by
  refine fn_dec (T := (tabc [11, 14])) (tabcOK [11, 14]) rfl wf Try.func15 rfl Try.call15 rfl ?_
  intro S R hS hR
  have q := sf hM hS
  unfold r07_Next at hf
  cbv
  refine d_callp hS hf (fun _ h => c13 hM h) (le_eq rfl) ?_
  intro y1 hf; cbv
  refine d_loop hS (tabcOK [11, 14]) wf [] [1, 7, 8, 9] (fun s2 => ⟨tpsL 0 55 [(1, .sl 1 (M.m Int (eI .i64) stamps) false), (7, .sl 1 (M.m Int (eI .i64) y1) false), (8, .si .i64 s2.1), (9, .si .i64 s2.2)], [], 0⟩) hf (by (conv => lhs; cbv) <;> (try simp only [q]) <;> (try rfl)) ?_
  intro Ik3 k3 s2 hk3 hf e he; subst he
  unfold r07_Next_l1 at hf
  cbv
  refine d_br hS hf (by simp only [q]; try first | rfl | simp [stdCmp, eI, eB, eL, eS, q]) ?_ ?_
  · intro hf; cbv
    refine d_cut hS [] [1, 7, 8, 9] (fun s5 => ⟨tpsL 0 55 [(1, .sl 1 (M.m Int (eI .i64) stamps) false), (7, .sl 1 (M.m Int (eI .i64) y1) false), (8, .si .i64 s5), (9, .si .i64 s2.2)], [], 0⟩) hf ?_ ?_
    · intro Ik6 k6 hk6 hf; cbv
      refine d_idx hS hM hf rfl rfl ?_
      intro x8 hf; cbv
      refine d_callp hS hf (fun _ h => c29 hM h) (le_eq rfl) ?_
      intro y9 hf; cbv
      refine d_cut hS [] [1, 7, 8, 9, 49] (fun s10 => ⟨tpsL 0 55 [(1, .sl 1 (M.m Int (eI .i64) stamps) false), (7, .sl 1 (M.m Int (eI .i64) y1) false), (8, .si .i64 s2.1), (9, .si .i64 s2.2), (49, .sb s10)], [], 0⟩) hf ?_ ?_
      · intro Ik11 k11 hk11 hf; cbv
        refine d_br hS hf (by simp only [q]; try first | rfl | simp [stdCmp, eI, eB, eL, eS, q]) ?_ ?_
        · intro hf; cbv
          exact ⟨_, hf, by rw [hk11] <;> (conv => lhs; cbv) <;> (try simp only [q]) <;> (try rfl) <;> (try simp only [eL, q]) <;> (try rfl)⟩
        intro hf; cbv
        refine d_callp hS hf (fun _ h => c29 hM h) (le_eq rfl) ?_
        intro y13 hf; cbv
        refine d_br hS hf (by simp only [q]; try first | rfl | simp [stdCmp, eI, eB, eL, eS, q]) ?_ ?_
        · intro hf; cbv
          exact ⟨_, hf, by rw [hk11] <;> (conv => lhs; cbv) <;> (try simp only [q]) <;> (try rfl) <;> (try simp only [eL, q]) <;> (try rfl)⟩
        intro hf; cbv
        refine d_callp hS hf (fun _ h => c29 hM h) (le_eq rfl) ?_
        intro y14 hf; cbv
        refine d_br hS hf (by simp only [q]; try first | rfl | simp [stdCmp, eI, eB, eL, eS, q]) ?_ ?_
        · intro hf; cbv
          refine d_idx hS hM hf rfl rfl ?_
          intro x15 hf; cbv
          exact ⟨_, hf, by rw [hk11] <;> (conv => lhs; cbv) <;> (try simp only [q]) <;> (try rfl) <;> (try simp only [eL, q]) <;> (try rfl)⟩
        intro hf; cbv
        exact ⟨_, hf, by rw [hk11] <;> (conv => lhs; cbv) <;> (try simp only [q]) <;> (try rfl) <;> (try simp only [eL, q]) <;> (try rfl)⟩
      intro s10 hf; cbv
      refine d_br hS hf rfl ?_ ?_
      · intro hf; cbv
        refine d_idx hS hM hf rfl rfl ?_
        intro x16 hf; cbv
        exact ⟨_, hf, by rw [hk6] <;> (conv => lhs; cbv) <;> (try simp only [q]) <;> (try rfl) <;> (try simp only [eL, q]) <;> (try rfl)⟩
      intro hf; cbv
      exact ⟨_, hf, by rw [hk6] <;> (conv => lhs; cbv) <;> (try simp only [q]) <;> (try rfl) <;> (try simp only [eL, q]) <;> (try rfl)⟩
    intro s5 hf; cbv
    exact ⟨_, hf, by rw [hk3] <;> (conv => lhs; cbv) <;> (try simp only [q]) <;> (try rfl) <;> (try simp only [eL, q]) <;> (try rfl)⟩
  intro hf; cbv
  cases hf; exact hR _ (lp_eq rfl)
theorem c35_0 {M : EncM} (hM : M = mapE) {s : List Int} {w1 : Int} {w2 : List (List Bool)} {w3 : List Int} {w4 : List (List Bool)} {r : Int} (hf : slices_IndexFunc_int s (fun a0 => depend_Ready_1 a0 w1 w2 (fun a0 a1 => depend_leads_1 a0 a1 w3 w4)) = some r) : Pv.Fn Try.prog glF 35 [.sl 1 (M.m Int (eI .i64) s) false, .fn 22 [.pp [.si .i64 w1], .pp [.sl 1 (M.m (List Bool) (eL M 1 eB) w2) false], .pp [.fn 33 [.pp [.sl 1 (M.m Int (eI .i64) w3) false], .pp [.sl 1 (M.m (List Bool) (eL M 1 eB) w4) false]]]]] (fun u => u = .si .i64 r) := by
  refine fn_dec (T := tab) tabOK rfl wf Try.func35 rfl Try.call35 rfl ?_
  intro S R hS hR
  have q := sf hM hS
  unfold slices_IndexFunc_int at hf
  cbv
  refine d_loop hS tabOK wf [] [0, 1, 7, 8] (fun s1 => ⟨tpsL 0 19 [(0, .sl 1 (M.m Int (eI .i64) s) false), (1, .fn 22 [.pp [.si .i64 w1], .pp [.sl 1 (M.m (List Bool) (eL M 1 eB) w2) false], .pp [.fn 33 [.pp [.sl 1 (M.m Int (eI .i64) w3) false], .pp [.sl 1 (M.m (List Bool) (eL M 1 eB) w4) false]]]]), (7, .si .i64 (S.len (M.m Int (eI .i64) s))), (8, .si .i64 s1)], [], 0⟩) hf (by (conv => lhs; cbv) <;> (try simp only [q]) <;> (try rfl)) ?_
  intro Ik2 k2 s1 hk2 hf e he; subst he
  unfold slices_IndexFunc_int_l1 at hf
  cbv
  refine d_br hS hf (by simp only [q]; try first | rfl | simp [stdCmp, eI, eB, eL, eS, q]) ?_ ?_
  · intro hf; cbv
    refine d_idx hS hM hf rfl rfl ?_
    intro x4 hf; cbv
    refine d_callp hS hf (fun _ h => c22_0 hM h) (le_eq rfl) ?_
    intro y5 hf; cbv
    refine d_br hS hf rfl ?_ ?_
    · intro hf; cbv
      cases hf; exact hR _ (lp_eq rfl)
    intro hf; cbv
    exact ⟨_, hf, by rw [hk2] <;> (conv => lhs; cbv) <;> (try simp only [q]) <;> (try rfl) <;> (try simp only [eL, q]) <;> (try rfl)⟩
  intro hf; cbv
  cases hf; exact hR _ (lp_eq rfl)
end Go.Proofs.Ytjdakjnobladaaa
