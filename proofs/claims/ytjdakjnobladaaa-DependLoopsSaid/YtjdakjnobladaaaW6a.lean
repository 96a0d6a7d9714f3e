/-
  Functions of this seat as plain functions, each with its walk (written by godec.py).
-/
import Derived.Test.YtjdakjnobladaaaW5a
namespace Go.Proofs.Ytjdakjnobladaaa
open Go Go.Pv
set_option linter.all false
set_option linter.unusedVariables false
set_option linter.unusedSimpArgs false
set_option maxRecDepth 100000
set_option maxHeartbeats 2000000
theorem c12 {M : EncM} (hM : M = mapE) {left : List Int} {needs : List (List Bool)} {r : List Int} (hf : depend_Ready left needs = some r) : Pv.Fn Try.prog glF 12 [.sl 1 (M.m Int (eI .i64) left) false, .sl 1 (M.m (List Bool) (eL M 1 eB) needs) false] (fun u => u = .sl 1 (M.m Int (eI .i64) r) false) := by
  refine fn_dec (T := (tabc [21])) (tabcOK [21]) rfl wf Try.func12 rfl Try.call12 rfl ?_
  intro S R hS hR
  have q := sf hM hS
  unfold depend_Ready at hf
  cbv
  refine d_callp hS hf (fun _ h => c19 hM h) (le_eq rfl) ?_
  intro y1 hf; cbv
  refine d_callp hS hf (fun _ h => c20 hM h) (le_eq rfl) ?_
  intro y2 hf; cbv
  refine d_loop hS (tabcOK [21]) wf [.tO 7 1] [3, 5, 6, 7, 16, 17, 18] (fun s3 => ⟨tpsL 0 33 [(3, .lv 0 0), (5, .sl 1 (M.m Int (eI .i64) y1) false), (6, .lv 1 0), (7, .os 2 0 (S.lenN (M.m Int (eI .i64) s3.2))), (16, .sl 1 (M.m Int (eI .i64) y1) false), (17, .si .i64 (S.len (M.m Int (eI .i64) y1))), (18, .si .i64 s3.1)], [(0, some (.var false [.sl 1 (M.m (List Bool) (eL M 1 eB) needs) false])), (1, some (.var false [.fn 33 [.pp [.sl 1 (M.m Int (eI .i64) y2.1) false], .pp [.sl 1 (M.m (List Bool) (eL M 1 eB) y2.2) false]]])), (2, some (.arr false 1 (M.m Int (eI .i64) s3.2)))], 3⟩) hf (by (conv => lhs; cbv) <;> (try simp only [q]) <;> (try rfl)) ?_
  intro Ik4 k4 s3 hk4 hf e he; subst he
  unfold depend_Ready_l1 at hf
  cbv
  refine d_br hS hf (by simp only [q]; try first | rfl | simp [stdCmp, eI, eB, eL, eS, q]) ?_ ?_
  · intro hf; cbv
    refine d_cut hS [.tO 7 1] [3, 5, 6, 7, 16, 17, 18] (fun s6 => ⟨tpsL 0 33 [(3, .lv 0 0), (5, .sl 1 (M.m Int (eI .i64) y1) false), (6, .lv 1 0), (7, .os 2 0 (S.lenN (M.m Int (eI .i64) s6))), (16, .sl 1 (M.m Int (eI .i64) y1) false), (17, .si .i64 (S.len (M.m Int (eI .i64) y1))), (18, .si .i64 s3.1)], [(0, some (.var false [.sl 1 (M.m (List Bool) (eL M 1 eB) needs) false])), (1, some (.var false [.fn 33 [.pp [.sl 1 (M.m Int (eI .i64) y2.1) false], .pp [.sl 1 (M.m (List Bool) (eL M 1 eB) y2.2) false]]])), (2, some (.arr false 1 (M.m Int (eI .i64) s6)))], 3⟩) hf ?_ ?_
    · intro Ik7 k7 hk7 hf; cbv
      refine d_idx hS hM hf rfl rfl ?_
      intro x9 hf; cbv
      refine d_callL hS hf (fun _ h => c21_0 hM h) (le_eq rfl) (fun _ => rfl) ?_
      intro y10 hf; cbv
      refine d_br hS hf (by simp only [q]; try first | rfl | simp [stdCmp, eI, eB, eL, eS, q]) ?_ ?_
      · intro hf; cbv
        refine d_room hS hf (by simp only [q]; try first | rfl | simp [stdCmp, eI, eB, eL, eS, q]) ?_
        intro hf; cbv
        exact ⟨_, hf, by rw [hk7] <;> (conv => lhs; cbv) <;> (try simp only [q]) <;> (try rfl) <;> (try simp only [eL, q]) <;> (try rfl)⟩
      intro hf; cbv
      exact ⟨_, hf, by rw [hk7] <;> (conv => lhs; cbv) <;> (try simp only [q]) <;> (try rfl) <;> (try simp only [eL, q]) <;> (try rfl)⟩
    intro s6 hf; cbv
    exact ⟨_, hf, by rw [hk4] <;> (conv => lhs; cbv) <;> (try simp only [q]) <;> (try rfl) <;> (try simp only [eL, q]) <;> (try rfl)⟩
  intro hf; cbv
  cases hf; exact hR _ (lp_eq (by simp only [q]; try first | rfl | simp [stdCmp, eI, eB, eL, eS, q]))
end Go.Proofs.Ytjdakjnobladaaa
