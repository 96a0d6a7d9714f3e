/-
  Functions of this seat as plain functions, each with its walk (written by godec.py).
-/
import Derived.Test.YtjdakjnobladaaaW6a
namespace Go.Proofs.Ytjdakjnobladaaa
open Go Go.Pv
set_option linter.all false
set_option linter.unusedVariables false
set_option linter.unusedSimpArgs false
set_option maxRecDepth 100000
set_option maxHeartbeats 2000000
theorem c14 {M : EncM} (hM : M = mapE) {left : List Int} {stamps : List Int} {needs : List (List Bool)} {r : Int} (hf : depend_Next left stamps needs = some r) : Pv.Fn Try.prog glF 14 [.sl 1 (M.m Int (eI .i64) left) false, .sl 1 (M.m Int (eI .i64) stamps) false, .sl 1 (M.m (List Bool) (eL M 1 eB) needs) false] (fun u => u = .si .i64 r) := by
  refine fn_dec (T := (tabc [16, 21])) (tabcOK [16, 21]) rfl wf Try.func14 rfl Try.call14 rfl ?_
  intro S R hS hR
  have q := sf hM hS
  unfold depend_Next at hf
  cbv
  refine d_callp hS hf (fun _ h => c12 hM h) (le_eq rfl) ?_
  intro y1 hf; cbv
  refine d_loop hS (tabcOK [16, 21]) wf [] [1, 7, 14, 15, 16] (fun s2 => ⟨tpsL 0 45 [(1, .sl 1 (M.m Int (eI .i64) stamps) false), (7, .si .i64 s2.1), (14, .sl 1 (M.m Int (eI .i64) y1) false), (15, .si .i64 (S.len (M.m Int (eI .i64) y1))), (16, .si .i64 s2.2)], [], 0⟩) hf (by (conv => lhs; cbv) <;> (try simp only [q]) <;> (try rfl)) ?_
  intro Ik3 k3 s2 hk3 hf e he; subst he
  unfold depend_Next_l1 at hf
  cbv
  refine d_br hS hf (by simp only [q]; try first | rfl | simp [stdCmp, eI, eB, eL, eS, q]) ?_ ?_
  · intro hf; cbv
    refine d_cut hS [] [1, 7, 14, 15, 16] (fun s5 => ⟨tpsL 0 45 [(1, .sl 1 (M.m Int (eI .i64) stamps) false), (7, .si .i64 s5), (14, .sl 1 (M.m Int (eI .i64) y1) false), (15, .si .i64 (S.len (M.m Int (eI .i64) y1))), (16, .si .i64 s2.2)], [], 0⟩) hf ?_ ?_
    · intro Ik6 k6 hk6 hf; cbv
      refine d_idx hS hM hf rfl rfl ?_
      intro x8 hf; cbv
      refine d_br hS hf (by simp only [q]; try first | rfl | simp [stdCmp, eI, eB, eL, eS, q]) ?_ ?_
      · intro hf; cbv
        exact ⟨_, hf, by rw [hk6] <;> (conv => lhs; cbv) <;> (try simp only [q]) <;> (try rfl) <;> (try simp only [eL, q]) <;> (try rfl)⟩
      intro hf; cbv
      refine d_callp hS hf (fun _ h => c28 hM h) (le_eq rfl) ?_
      intro y9 hf; cbv
      refine d_callp hS hf (fun _ h => c28 hM h) (le_eq rfl) ?_
      intro y10 hf; cbv
      refine d_cut hS [] [1, 7, 9, 14, 15, 16, 41] (fun s11 => ⟨tpsL 0 45 [(1, .sl 1 (M.m Int (eI .i64) stamps) false), (7, .si .i64 s2.1), (9, .si .i64 x8), (14, .sl 1 (M.m Int (eI .i64) y1) false), (15, .si .i64 (S.len (M.m Int (eI .i64) y1))), (16, .si .i64 s2.2), (41, .sb s11)], [], 0⟩) hf ?_ ?_
      · intro Ik12 k12 hk12 hf; cbv
        refine d_br hS hf (by simp only [q]; try first | rfl | simp [stdCmp, eI, eB, eL, eS, q]) ?_ ?_
        · intro hf; cbv
          exact ⟨_, hf, by rw [hk12] <;> (conv => lhs; cbv) <;> (try simp only [q]) <;> (try rfl) <;> (try simp only [eL, q]) <;> (try rfl)⟩
        intro hf; cbv
        refine d_br hS hf (by simp only [q]; try first | rfl | simp [stdCmp, eI, eB, eL, eS, q]) ?_ ?_
        · intro hf; cbv
          exact ⟨_, hf, by rw [hk12] <;> (conv => lhs; cbv) <;> (try simp only [q]) <;> (try rfl) <;> (try simp only [eL, q]) <;> (try rfl)⟩
        intro hf; cbv
        exact ⟨_, hf, by rw [hk12] <;> (conv => lhs; cbv) <;> (try simp only [q]) <;> (try rfl) <;> (try simp only [eL, q]) <;> (try rfl)⟩
      intro s11 hf; cbv
      refine d_br hS hf rfl ?_ ?_
      · intro hf; cbv
        exact ⟨_, hf, by rw [hk6] <;> (conv => lhs; cbv) <;> (try simp only [q]) <;> (try rfl) <;> (try simp only [eL, q]) <;> (try rfl)⟩
      intro hf; cbv
      exact ⟨_, hf, by rw [hk6] <;> (conv => lhs; cbv) <;> (try simp only [q]) <;> (try rfl) <;> (try simp only [eL, q]) <;> (try rfl)⟩
    intro s5 hf; cbv
    exact ⟨_, hf, by rw [hk3] <;> (conv => lhs; cbv) <;> (try simp only [q]) <;> (try rfl) <;> (try simp only [eL, q]) <;> (try rfl)⟩
  intro hf; cbv
  cases hf; exact hR _ (lp_eq rfl)
end Go.Proofs.Ytjdakjnobladaaa
