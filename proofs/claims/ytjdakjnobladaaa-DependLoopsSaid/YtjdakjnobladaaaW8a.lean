/-
  Functions of this seat as plain functions, each with its walk (written by godec.py).
-/
import Derived.Test.YtjdakjnobladaaaW7a
namespace Go.Proofs.Ytjdakjnobladaaa
open Go Go.Pv
set_option linter.all false
set_option linter.unusedVariables false
set_option linter.unusedSimpArgs false
set_option maxRecDepth 100000
set_option maxHeartbeats 2000000
theorem c16 {M : EncM} (hM : M = mapE) {stamps : List Int} {needs : List (List Bool)} {r : List Int} (hf : depend_Order stamps needs = some r) : Pv.Fn Try.prog glF 16 [.sl 1 (M.m Int (eI .i64) stamps) false, .sl 1 (M.m (List Bool) (eL M 1 eB) needs) false] (fun u => u = .sl 1 (M.m Int (eI .i64) r) false) := by
  refine fn_dec (T := tab) tabOK rfl wf Try.func16 rfl Try.call16 rfl ?_
  intro S R hS hR
  have q := sf hM hS
  unfold depend_Order at hf
  cbv
  refine d_loop hS tabOK wf [.tO 5 1] [0, 1, 5, 6, 10, 11] (fun s1 => ⟨tpsL 0 34 [(0, .sl 1 (M.m Int (eI .i64) stamps) false), (1, .sl 1 (M.m (List Bool) (eL M 1 eB) needs) false), (5, .os 0 0 (S.lenN (M.m Int (eI .i64) s1.2))), (6, .sl 0 [] true), (10, .si .i64 (S.len (M.m Int (eI .i64) stamps))), (11, .si .i64 s1.1)], [(0, some (.arr false 1 (M.m Int (eI .i64) s1.2)))], 1⟩) hf (by (conv => lhs; cbv) <;> (try simp only [q]) <;> (try rfl)) ?_
  intro Ik2 k2 s1 hk2 hf e he; subst he
  unfold depend_Order_l2 at hf
  cbv
  refine d_br hS hf (by simp only [q]; try first | rfl | simp [stdCmp, eI, eB, eL, eS, q]) ?_ ?_
  · intro hf; cbv
    refine d_room hS hf (by simp only [q]; try first | rfl | simp [stdCmp, eI, eB, eL, eS, q]) ?_
    intro hf; cbv
    exact ⟨_, hf, by rw [hk2] <;> (conv => lhs; cbv) <;> (try simp only [q]) <;> (try rfl) <;> (try simp only [eL, q]) <;> (try rfl)⟩
  intro hf; cbv
  refine d_loop hS tabOK wf [.tO 6 1] [0, 1, 5, 6] (fun s4 => ⟨tpsL 0 34 [(0, .sl 1 (M.m Int (eI .i64) stamps) false), (1, .sl 1 (M.m (List Bool) (eL M 1 eB) needs) false), (5, .os 0 0 (S.lenN (M.m Int (eI .i64) s4.1))), (6, .os 1 0 (S.lenN (M.m Int (eI .i64) s4.2)))], [(0, some (.arr false 1 (M.m Int (eI .i64) s4.1))), (1, some (.arr false 1 (M.m Int (eI .i64) s4.2)))], 2⟩) hf (by (conv => lhs; cbv) <;> (try simp only [q]) <;> (try rfl)) ?_
  intro Ik5 k5 s4 hk5 hf e he; subst he
  unfold depend_Order_l1 at hf
  cbv
  refine d_br hS hf (by simp only [q]; try first | rfl | simp [stdCmp, eI, eB, eL, eS, q]) ?_ ?_
  · intro hf; cbv
    refine d_callL hS hf (fun _ h => c14 hM h) (le_eq (by simp only [q]; try first | rfl | simp [stdCmp, eI, eB, eL, eS, q])) (fun _ => rfl) ?_
    intro y7 hf; cbv
    refine d_room hS hf (by simp only [q]; try first | rfl | simp [stdCmp, eI, eB, eL, eS, q]) ?_
    intro hf; cbv
    refine d_pre hS [(1, false), (0, true)] rfl ?_; cbv
    refine d_callS hS hf (fun _ h => s30_0 hM h) (by (try simp only [q]); repeat' constructor) (by (try simp only [q]); repeat' constructor) rfl rfl rfl rfl ?_
    intro y8 hf; cbv
    exact ⟨_, hf, by rw [hk5] <;> (conv => lhs; cbv) <;> (try simp only [q]) <;> (try rfl) <;> (try simp only [eL, q]) <;> (try rfl)⟩
  intro hf; cbv
  cases hf; exact hR _ (lp_eq (by simp only [q]; try first | rfl | simp [stdCmp, eI, eB, eL, eS, q]))
end Go.Proofs.Ytjdakjnobladaaa
