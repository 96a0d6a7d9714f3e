/-
  Functions of this seat as plain functions, each with its walk (written by godec.py).
-/
import Derived.Test.YtjdakjnobladaaaW4a
namespace Go.Proofs.Ytjdakjnobladaaa
open Go Go.Pv
set_option linter.all false
set_option linter.unusedVariables false
set_option linter.unusedSimpArgs false
set_option maxRecDepth 100000
set_option maxHeartbeats 2000000
theorem c17 {M : EncM} (hM : M = mapE) {stamps : List Int} {needs : List (List Bool)} {r : List Int} (hf : r07_Order stamps needs = some r) : Pv.Fn Try.prog glF 17 [.sl 1 (M.m Int (eI .i64) stamps) false, .sl 1 (M.m (List Bool) (eL M 1 eB) needs) false] (fun u => u = .sl 1 (M.m Int (eI .i64) r) false) := by
  refine fn_dec (T := (tabc [29])) (tabcOK [29]) rfl wf Try.func17 rfl Try.call17 rfl ?_
  intro S R hS hR
  have q := sf hM hS
  unfold r07_Order at hf
  cbv
  refine d_loop hS (tabcOK [29]) wf [.tO 5 1] [0, 1, 5, 6, 7] (fun s1 => ⟨tpsL 0 57 [(0, .sl 1 (M.m Int (eI .i64) stamps) false), (1, .sl 1 (M.m (List Bool) (eL M 1 eB) needs) false), (5, .os 0 0 (S.lenN (M.m Int (eI .i64) s1.2))), (6, .sl 0 [] true), (7, .si .i64 s1.1)], [(0, some (.arr false 1 (M.m Int (eI .i64) s1.2)))], 1⟩) hf (by (conv => lhs; cbv) <;> (try simp only [q]) <;> (try rfl)) ?_
  intro Ik2 k2 s1 hk2 hf e he; subst he
  unfold r07_Order_l3 at hf
  cbv
  refine d_br hS hf (by simp only [q]; try first | rfl | simp [stdCmp, eI, eB, eL, eS, q]) ?_ ?_
  · intro hf; cbv
    refine d_room hS hf (by simp only [q]; try first | rfl | simp [stdCmp, eI, eB, eL, eS, q]) ?_
    intro hf; cbv
    exact ⟨_, hf, by rw [hk2] <;> (conv => lhs; cbv) <;> (try simp only [q]) <;> (try rfl) <;> (try simp only [eL, q]) <;> (try rfl)⟩
  intro hf; cbv
  refine d_loop hS (tabcOK [29]) wf [.tO 6 1] [0, 1, 5, 6, 8] (fun s4 => ⟨tpsL 0 57 [(0, .sl 1 (M.m Int (eI .i64) stamps) false), (1, .sl 1 (M.m (List Bool) (eL M 1 eB) needs) false), (5, .os 0 0 (S.lenN (M.m Int (eI .i64) s4.2.1))), (6, .os 1 0 (S.lenN (M.m Int (eI .i64) s4.2.2))), (8, .si .i64 s4.1)], [(0, some (.arr false 1 (M.m Int (eI .i64) s4.2.1))), (1, some (.arr false 1 (M.m Int (eI .i64) s4.2.2)))], 2⟩) hf (by (conv => lhs; cbv) <;> (try simp only [q]) <;> (try rfl)) ?_
  intro Ik5 k5 s4 hk5 hf e he; subst he
  unfold r07_Order_l2 at hf
  cbv
  refine d_br hS hf (by simp only [q]; try first | rfl | simp [stdCmp, eI, eB, eL, eS, q]) ?_ ?_
  · intro hf; cbv
    refine d_callL hS hf (fun _ h => c15 hM h) (le_eq (by simp only [q]; try first | rfl | simp [stdCmp, eI, eB, eL, eS, q])) (fun _ => rfl) ?_
    intro y7 hf; cbv
    refine d_room hS hf (by simp only [q]; try first | rfl | simp [stdCmp, eI, eB, eL, eS, q]) ?_
    intro hf; cbv
    refine d_loop hS (tabcOK [29]) wf [.tO 10 1] [0, 1, 5, 6, 8, 9, 10, 11] (fun s8 => ⟨tpsL 0 57 [(0, .sl 1 (M.m Int (eI .i64) stamps) false), (1, .sl 1 (M.m (List Bool) (eL M 1 eB) needs) false), (5, .os 0 0 (S.lenN (M.m Int (eI .i64) s4.2.1))), (6, .os 1 0 (S.lenN (S.app (S.sub (M.m Int (eI .i64) s4.2.2) 0 (S.lenN (M.m Int (eI .i64) s4.2.2))) (S.sub ([[.si .i64 y7]]) 0 1)))), (8, .si .i64 s4.1), (9, .si .i64 y7), (10, .os 2 0 (S.lenN (M.m Int (eI .i64) s8.2))), (11, .si .i64 s8.1)], [(0, some (.arr false 1 (M.m Int (eI .i64) s4.2.1))), (1, some (.arr false 1 (S.app (S.sub (M.m Int (eI .i64) s4.2.2) 0 (S.lenN (M.m Int (eI .i64) s4.2.2))) (S.sub ([[.si .i64 y7]]) 0 1)))), (2, some (.arr false 1 (M.m Int (eI .i64) s8.2)))], 3⟩) hf (by (conv => lhs; cbv) <;> (try simp only [q]) <;> (try rfl)) ?_
    intro Ik9 k9 s8 hk9 hf e he; subst he
    unfold r07_Order_l1 at hf
    cbv
    refine d_br hS hf (by simp only [q]; try first | rfl | simp [stdCmp, eI, eB, eL, eS, q]) ?_ ?_
    · intro hf; cbv
      refine d_cut hS [.tO 10 1] [0, 1, 5, 6, 8, 9, 10, 11] (fun s11 => ⟨tpsL 0 57 [(0, .sl 1 (M.m Int (eI .i64) stamps) false), (1, .sl 1 (M.m (List Bool) (eL M 1 eB) needs) false), (5, .os 0 0 (S.lenN (M.m Int (eI .i64) s4.2.1))), (6, .os 1 0 (S.lenN (S.app (S.sub (M.m Int (eI .i64) s4.2.2) 0 (S.lenN (M.m Int (eI .i64) s4.2.2))) (S.sub ([[.si .i64 y7]]) 0 1)))), (8, .si .i64 s4.1), (9, .si .i64 y7), (10, .os 2 0 (S.lenN (M.m Int (eI .i64) s11))), (11, .si .i64 s8.1)], [(0, some (.arr false 1 (M.m Int (eI .i64) s4.2.1))), (1, some (.arr false 1 (S.app (S.sub (M.m Int (eI .i64) s4.2.2) 0 (S.lenN (M.m Int (eI .i64) s4.2.2))) (S.sub ([[.si .i64 y7]]) 0 1)))), (2, some (.arr false 1 (M.m Int (eI .i64) s11)))], 3⟩) hf ?_ ?_
      · intro Ik12 k12 hk12 hf; cbv
        refine d_ix hS hf (by simp only [q]; try first | rfl | simp [stdCmp, eI, eB, eL, eS, q]) rfl ?_
        intro j14 _ hf; cbv
        refine d_row hS hM hf rfl (by simp only [q]; try first | rfl | simp [stdCmp, eI, eB, eL, eS, q]) ?_
        intro x15 hf; cbv
        refine d_br hS hf (by simp only [q]; try first | rfl | simp [stdCmp, eI, eB, eL, eS, q]) ?_ ?_
        · intro hf; cbv
          refine d_ix hS hf (by simp only [q]; try first | rfl | simp [stdCmp, eI, eB, eL, eS, q]) rfl ?_
          intro j16 _ hf; cbv
          refine d_row hS hM hf rfl (by simp only [q]; try first | rfl | simp [stdCmp, eI, eB, eL, eS, q]) ?_
          intro x17 hf; cbv
          refine d_room hS hf (by simp only [q]; try first | rfl | simp [stdCmp, eI, eB, eL, eS, q]) ?_
          intro hf; cbv
          exact ⟨_, hf, by rw [hk12] <;> (conv => lhs; cbv) <;> (try simp only [q]) <;> (try rfl) <;> (try simp only [eL, q]) <;> (try rfl)⟩
        intro hf; cbv
        exact ⟨_, hf, by rw [hk12] <;> (conv => lhs; cbv) <;> (try simp only [q]) <;> (try rfl) <;> (try simp only [eL, q]) <;> (try rfl)⟩
      intro s11 hf; cbv
      exact ⟨_, hf, by rw [hk9] <;> (conv => lhs; cbv) <;> (try simp only [q]) <;> (try rfl) <;> (try simp only [eL, q]) <;> (try rfl)⟩
    intro hf; cbv
    exact ⟨_, hf, by rw [hk5] <;> (conv => lhs; cbv) <;> (try simp only [q]) <;> (try rfl) <;> (try simp only [eL, q]) <;> (try rfl)⟩
  intro hf; cbv
  cases hf; exact hR _ (lp_eq (by simp only [q]; try first | rfl | simp [stdCmp, eI, eB, eL, eS, q]))
theorem c21_0 {M : EncM} (hM : M = mapE) {s : List Int} {w1 : Int} {w2 : List (List Bool)} {w3 : List Int} {w4 : List (List Bool)} {r : Bool} (hf : slices_ContainsFunc_int s (fun a0 => depend_Ready_1 a0 w1 w2 (fun a0 a1 => depend_leads_1 a0 a1 w3 w4)) = some r) : Pv.Fn Try.prog glF 21 [.sl 1 (M.m Int (eI .i64) s) false, .fn 22 [.pp [.si .i64 w1], .pp [.sl 1 (M.m (List Bool) (eL M 1 eB) w2) false], .pp [.fn 33 [.pp [.sl 1 (M.m Int (eI .i64) w3) false], .pp [.sl 1 (M.m (List Bool) (eL M 1 eB) w4) false]]]]] (fun u => u = .sb r) := by
  refine fn_dec (T := tab) tabOK rfl wf Try.func21 rfl Try.call21 rfl ?_
  intro S R hS hR
  have q := sf hM hS
  unfold slices_ContainsFunc_int at hf
  cbv
  refine d_callp hS hf (fun _ h => c35_0 hM h) (le_eq rfl) ?_
  intro y1 hf; cbv
  cases hf; exact hR _ (lp_eq (by simp only [q]; try first | rfl | simp [stdCmp, eI, eB, eL, eS, q]))
end Go.Proofs.Ytjdakjnobladaaa
