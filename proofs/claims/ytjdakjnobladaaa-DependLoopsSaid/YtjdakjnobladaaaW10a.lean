/-
  Functions of this seat as plain functions, each with its walk (written by godec.py).
-/
import Derived.Test.YtjdakjnobladaaaW9a
namespace Go.Proofs.Ytjdakjnobladaaa
open Go Go.Pv
set_option linter.all false
set_option linter.unusedVariables false
set_option linter.unusedSimpArgs false
set_option maxRecDepth 100000
set_option maxHeartbeats 2000000
theorem c7 {M : EncM} (hM : M = mapE) {stamps : List Int} {needs : List (List Bool)} {r : Bool} (hf : law07_DependOrders stamps needs = some r) : Pv.Fn Try.prog glF 7 [.sl 1 (M.m Int (eI .i64) stamps) false, .sl 1 (M.m (List Bool) (eL M 1 eB) needs) false] (fun u => u = .sb r) := by
  refine fn_dec (T := (tabc [58])) (tabcOK [58]) rfl wf Try.func7 rfl Try.call7 rfl ?_
  intro S R hS hR
  have q := sf hM hS
  unfold law07_DependOrders at hf
  cbv
  refine d_callp hS hf (fun _ h => c9 hM h) (le_eq (by simp only [q]; try first | rfl | simp [stdCmp, eI, eB, eL, eS, q])) ?_
  intro y1 hf; cbv
  refine d_br hS hf (by simp only [q]; try first | rfl | simp [stdCmp, eI, eB, eL, eS, q]) ?_ ?_
  · intro hf; cbv
    refine d_callp hS hf (fun _ h => c10 hM h) (le_eq rfl) ?_
    intro y2 hf; cbv
    cases hf; exact hR _ (lp_eq rfl)
  intro hf; cbv
  refine d_loop hS (tabcOK [58]) wf [.tO 5 1] [0, 1, 5, 22, 23] (fun s3 => ⟨tpsL 0 136 [(0, .sl 1 (M.m Int (eI .i64) stamps) false), (1, .sl 1 (M.m (List Bool) (eL M 1 eB) needs) false), (5, .os 0 0 (S.lenN (M.m (List Bool) (eL M 1 eB) s3.2))), (22, .si .i64 (S.len (M.m Int (eI .i64) stamps))), (23, .si .i64 s3.1)], [(0, some (.arr false 1 (M.m (List Bool) (eL M 1 eB) s3.2)))], 1⟩) hf (by (conv => lhs; cbv) <;> (try simp only [q]) <;> (try rfl)) ?_
  intro Ik4 k4 s3 hk4 hf e he; subst he
  unfold law07_DependOrders_l5 at hf
  cbv
  refine d_br hS hf (by simp only [q]; try first | rfl | simp [stdCmp, eI, eB, eL, eS, q]) ?_ ?_
  · intro hf; cbv
    refine d_mks hS hf (by simp only [q]; try first | rfl | simp [stdCmp, eI, eB, eL, eS, q]) (by simp only [q]; try first | rfl | simp [stdCmp, eI, eB, eL, eS, q]) ?_
    intro j6 hf; cbv
    refine d_wk hS (e := eB) hf (by (try simp only [q]); repeat' constructor) ?_
    intro x7 hf; cbv
    refine d_loop hS (tabcOK [58]) wf [] [0, 1, 5, 6, 7, 8, 22, 23] (fun s8 => ⟨tpsL 0 136 [(0, .sl 1 (M.m Int (eI .i64) stamps) false), (1, .sl 1 (M.m (List Bool) (eL M 1 eB) needs) false), (5, .os 0 0 (S.lenN (M.m (List Bool) (eL M 1 eB) s8.2.1))), (6, .si .i64 s3.1), (7, .os 1 0 (S.lenN (M.m Bool eB s8.2.2))), (8, .si .i64 s8.1), (22, .si .i64 (S.len (M.m Int (eI .i64) stamps))), (23, .si .i64 s3.1)], [(0, some (.arr false 1 (M.m (List Bool) (eL M 1 eB) s8.2.1))), (1, some (.arr false 1 (M.m Bool eB s8.2.2)))], 2⟩) hf (by (conv => lhs; cbv) <;> (try simp only [q]) <;> (try rfl)) ?_
    intro Ik9 k9 s8 hk9 hf e he; subst he
    unfold law07_DependOrders_l1 at hf
    cbv
    refine d_br hS hf (by simp only [q]; try first | rfl | simp [stdCmp, eI, eB, eL, eS, q]) ?_ ?_
    · intro hf; cbv
      refine d_callp hS hf (fun _ h => c18 hM h) (le_eq rfl) ?_
      intro y11 hf; cbv
      refine d_ix hS hf (by simp only [q]; try first | rfl | simp [stdCmp, eI, eB, eL, eS, q]) rfl ?_
      intro j12 _ hf; cbv
      refine d_row hS hM hf rfl (by simp only [q]; try first | rfl | simp [stdCmp, eI, eB, eL, eS, q]) ?_
      intro x13 hf; cbv
      exact ⟨_, hf, by rw [hk9] <;> (conv => lhs; cbv) <;> (try simp only [q]) <;> (try rfl) <;> (try simp only [eL, q]) <;> (try rfl)⟩
    intro hf; cbv
    refine d_room hS hf (by simp only [q]; try first | rfl | simp [stdCmp, eI, eB, eL, eS, q]) ?_
    intro hf; cbv
    exact ⟨_, hf, by rw [hk4] <;> (conv => lhs; cbv) <;> (try simp only [q]) <;> (try rfl) <;> (try simp only [eL, q]) <;> (try rfl)⟩
  intro hf; cbv
  refine d_callF hS hf (fun _ h => c16 hM h) (le_eq (by simp only [q]; try first | rfl | simp [stdCmp, eI, eB, eL, eS, q])) ?_
  intro y14 hf; cbv
  refine d_br hS hf (by simp only [q]; try first | rfl | simp [stdCmp, eI, eB, eL, eS, q]) ?_ ?_
  · intro hf; cbv
    cases hf; exact hR _ (lp_eq rfl)
  intro hf; cbv
  refine d_loop hS (tabcOK [58]) wf [] [0, 5, 9, 57, 58, 59] (fun s15 => ⟨tpsL 0 136 [(0, .sl 1 (M.m Int (eI .i64) stamps) false), (5, .os 0 0 (S.lenN (M.m (List Bool) (eL M 1 eB) s3.2))), (9, .sl 1 (M.m Int (eI .i64) y14) false), (57, .sl 1 (M.m Int (eI .i64) y14) false), (58, .si .i64 (S.len (M.m Int (eI .i64) y14))), (59, .si .i64 s15)], [(0, some (.arr true 1 (M.m (List Bool) (eL M 1 eB) s3.2)))], 1⟩) hf (by (conv => lhs; cbv) <;> (try simp only [q]) <;> (try rfl)) ?_
  intro Ik16 k16 s15 hk16 hf e he; subst he
  unfold law07_DependOrders_l4 at hf
  cbv
  refine d_br hS hf (by simp only [q]; try first | rfl | simp [stdCmp, eI, eB, eL, eS, q]) ?_ ?_
  · intro hf; cbv
    refine d_idx hS hM hf rfl rfl ?_
    intro x18 hf; cbv
    refine d_slc hS hf (by simp only [q]; try first | rfl | simp [stdCmp, eI, eB, eL, eS, q]) (by simp only [q]; try first | rfl | simp [stdCmp, eI, eB, eL, eS, q]) (by simp only [q]; try first | rfl | simp [stdCmp, eI, eB, eL, eS, q]) ?_
    intro x19 bx19 hf; cbv
    refine d_loop hS (tabcOK [58]) wf [] [0, 5, 9, 10, 11, 57, 58, 59, 67, 68, 69] (fun s20 => ⟨tpsL 0 136 [(0, .sl 1 (M.m Int (eI .i64) stamps) false), (5, .os 0 0 (S.lenN (M.m (List Bool) (eL M 1 eB) s3.2))), (9, .sl 1 (M.m Int (eI .i64) y14) false), (10, .si .i64 s15), (11, .si .i64 x18), (57, .sl 1 (M.m Int (eI .i64) y14) false), (58, .si .i64 (S.len (M.m Int (eI .i64) y14))), (59, .si .i64 s15), (67, .sl 1 (S.sub (M.m Int (eI .i64) y14) x19.1 (S.nsub x19.2 x19.1)) false), (68, .si .i64 (S.len (S.sub (M.m Int (eI .i64) y14) x19.1 (S.nsub x19.2 x19.1)))), (69, .si .i64 s20)], [(0, some (.arr true 1 (M.m (List Bool) (eL M 1 eB) s3.2)))], 1⟩) hf (by (conv => lhs; cbv) <;> (try simp only [q]) <;> (try rfl)) ?_
    intro Ik21 k21 s20 hk21 hf e he; subst he
    unfold law07_DependOrders_l3 at hf
    cbv
    refine d_br hS hf (by simp only [q]; try first | rfl | simp [stdCmp, eI, eB, eL, eS, q]) ?_ ?_
    · intro hf; cbv
      refine d_idx hS hM (e := (eI .i64)) hf (by simp only [q]; try first | rfl | simp [stdCmp, eI, eB, eL, eS, q]) rfl ?_
      intro x23 hf; cbv
      refine d_callp hS hf (fun _ h => c18 hM h) (le_eq (by simp only [q]; try first | rfl | simp [stdCmp, eI, eB, eL, eS, q])) ?_
      intro y24 hf; cbv
      refine d_br hS hf rfl ?_ ?_
      · intro hf; cbv
        cases hf; exact hR _ (lp_eq rfl)
      intro hf; cbv
      exact ⟨_, hf, by rw [hk21] <;> (conv => lhs; cbv) <;> (try simp only [q]) <;> (try rfl) <;> (try simp only [eL, q]) <;> (try rfl)⟩
    intro hf; cbv
    refine d_slc hS hf (by simp only [q]; try first | rfl | simp [stdCmp, eI, eB, eL, eS, q]) rfl (by simp only [q]; try first | rfl | simp [stdCmp, eI, eB, eL, eS, q]) ?_
    intro x25 bx25 hf; cbv
    refine d_callp hS hf (fun _ h => c12 hM h) (le_eq (by simp only [q]; try first | rfl | simp [stdCmp, eI, eB, eL, eS, q])) ?_
    intro y26 hf; cbv
    refine d_loop hS (tabcOK [58]) wf [] [0, 5, 9, 11, 57, 58, 59, 82, 83, 84] (fun s27 => ⟨tpsL 0 136 [(0, .sl 1 (M.m Int (eI .i64) stamps) false), (5, .os 0 0 (S.lenN (M.m (List Bool) (eL M 1 eB) s3.2))), (9, .sl 1 (M.m Int (eI .i64) y14) false), (11, .si .i64 x18), (57, .sl 1 (M.m Int (eI .i64) y14) false), (58, .si .i64 (S.len (M.m Int (eI .i64) y14))), (59, .si .i64 s15), (82, .sl 1 (M.m Int (eI .i64) y26) false), (83, .si .i64 (S.len (M.m Int (eI .i64) y26))), (84, .si .i64 s27)], [(0, some (.arr true 1 (M.m (List Bool) (eL M 1 eB) s3.2)))], 1⟩) hf (by (conv => lhs; cbv) <;> (try simp only [q]) <;> (try rfl)) ?_
    intro Ik28 k28 s27 hk28 hf e he; subst he
    unfold law07_DependOrders_l2 at hf
    cbv
    refine d_br hS hf (by simp only [q]; try first | rfl | simp [stdCmp, eI, eB, eL, eS, q]) ?_ ?_
    · intro hf; cbv
      refine d_idx hS hM hf rfl rfl ?_
      intro x30 hf; cbv
      refine d_cut hS [] [0, 5, 9, 11, 57, 58, 59, 82, 83, 84, 132] (fun s31 => ⟨tpsL 0 136 [(0, .sl 1 (M.m Int (eI .i64) stamps) false), (5, .os 0 0 (S.lenN (M.m (List Bool) (eL M 1 eB) s3.2))), (9, .sl 1 (M.m Int (eI .i64) y14) false), (11, .si .i64 x18), (57, .sl 1 (M.m Int (eI .i64) y14) false), (58, .si .i64 (S.len (M.m Int (eI .i64) y14))), (59, .si .i64 s15), (82, .sl 1 (M.m Int (eI .i64) y26) false), (83, .si .i64 (S.len (M.m Int (eI .i64) y26))), (84, .si .i64 s27), (132, .sb s31)], [(0, some (.arr true 1 (M.m (List Bool) (eL M 1 eB) s3.2)))], 1⟩) hf ?_ ?_
      · intro Ik32 k32 hk32 hf; cbv
        refine l_order hS (by kernel_rfl) ?_; cbv
        refine d_br hS hf (by simp only [q]; try first | rfl | simp [stdCmp, eI, eB, eL, eS, q]) ?_ ?_
        · intro hf; cbv
          exact ⟨_, hf, by rw [hk32] <;> (conv => lhs; cbv) <;> (try simp only [q]) <;> (try rfl) <;> (try simp only [eL, q]) <;> (try rfl)⟩
        intro hf; cbv
        refine d_br hS hf (by simp only [q]; try first | rfl | simp [stdCmp, eI, eB, eL, eS, q]) ?_ ?_
        · intro hf; cbv
          exact ⟨_, hf, by rw [hk32] <;> (conv => lhs; cbv) <;> (try simp only [q]) <;> (try rfl) <;> (try simp only [eL, q]) <;> (try rfl)⟩
        intro hf; cbv
        refine d_br hS hf (by simp only [q]; try first | rfl | simp [stdCmp, eI, eB, eL, eS, q]) ?_ ?_
        · intro hf; cbv
          exact ⟨_, hf, by rw [hk32] <;> (conv => lhs; cbv) <;> (try simp only [q]) <;> (try rfl) <;> (try simp only [eL, q]) <;> (try rfl)⟩
        intro hf; cbv
        refine d_br hS hf (by simp only [q]; try first | rfl | simp [stdCmp, eI, eB, eL, eS, q]) ?_ ?_
        · intro hf; cbv
          exact ⟨_, hf, by rw [hk32] <;> (conv => lhs; cbv) <;> (try simp only [q]) <;> (try rfl) <;> (try simp only [eL, q]) <;> (try rfl)⟩
        intro hf; cbv
        refine d_idx hS hM hf rfl rfl ?_
        intro x34 hf; cbv
        refine d_idx hS hM hf rfl rfl ?_
        intro x35 hf; cbv
        refine d_br hS hf (by simp only [q]; try first | rfl | simp [stdCmp, eI, eB, eL, eS, q]) ?_ ?_
        · intro hf; cbv
          exact ⟨_, hf, by rw [hk32] <;> (conv => lhs; cbv) <;> (try simp only [q]) <;> (try rfl) <;> (try simp only [eL, q]) <;> (try rfl)⟩
        intro hf; cbv
        refine d_idx hS hM hf rfl rfl ?_
        intro x36 hf; cbv
        refine d_idx hS hM hf rfl rfl ?_
        intro x37 hf; cbv
        refine d_br hS hf (by simp only [q]; try first | rfl | simp [stdCmp, eI, eB, eL, eS, q]) ?_ ?_
        · intro hf; cbv
          exact ⟨_, hf, by rw [hk32] <;> (conv => lhs; cbv) <;> (try simp only [q]) <;> (try rfl) <;> (try simp only [eL, q]) <;> (try rfl)⟩
        intro hf; cbv
        exact ⟨_, hf, by rw [hk32] <;> (conv => lhs; cbv) <;> (try simp only [q]) <;> (try rfl) <;> (try simp only [eL, q]) <;> (try rfl)⟩
      intro s31 hf; cbv
      refine d_br hS hf rfl ?_ ?_
      · intro hf; cbv
        cases hf; exact hR _ (lp_eq rfl)
      intro hf; cbv
      exact ⟨_, hf, by rw [hk28] <;> (conv => lhs; cbv) <;> (try simp only [q]) <;> (try rfl) <;> (try simp only [eL, q]) <;> (try rfl)⟩
    intro hf; cbv
    exact ⟨_, hf, by rw [hk16] <;> (conv => lhs; cbv) <;> (try simp only [q]) <;> (try rfl) <;> (try simp only [eL, q]) <;> (try rfl)⟩
  intro hf; cbv
  refine d_callp hS hf (fun _ h => c10 hM h) (le_eq rfl) ?_
  intro y38 hf; cbv
  cases hf; exact hR _ (lp_eq rfl)
theorem c8 {M : EncM} (hM : M = mapE) {stamps : List Int} {r : Bool} (hf : law07_DependLoops stamps = some r) : Pv.Fn Try.prog glF 8 [.sl 1 (M.m Int (eI .i64) stamps) false] (fun u => u = .sb r) := by
  refine fn_dec (T := (tabc [42])) (tabcOK [42]) rfl wf Try.func8 rfl Try.call8 rfl ?_
  intro S R hS hR
  have q := sf hM hS
  unfold law07_DependLoops at hf
  cbv
  refine d_callp hS hf (fun _ h => c9 hM h) (le_eq (by simp only [q]; try first | rfl | simp [stdCmp, eI, eB, eL, eS, q])) ?_
  intro y1 hf; cbv
  refine d_br hS hf (by simp only [q]; try first | rfl | simp [stdCmp, eI, eB, eL, eS, q]) ?_ ?_
  · intro hf; cbv
    refine d_callp hS hf (fun _ h => c10 hM h) (le_eq rfl) ?_
    intro y2 hf; cbv
    cases hf; exact hR _ (lp_eq rfl)
  intro hf; cbv
  refine d_loop hS (tabcOK [42]) wf [.tO 5 1, .tO 4 1] [0, 3, 4, 5, 20, 21] (fun s3 => ⟨tpsL 0 114 [(0, .sl 1 (M.m Int (eI .i64) stamps) false), (3, .si .i64 (S.len (M.m Int (eI .i64) stamps))), (4, .os 0 0 (S.lenN (M.m (List Bool) (eL M 1 eB) s3.2.1))), (5, .os 1 0 (S.lenN (M.m Int (eI .i64) s3.2.2))), (20, .si .i64 (S.len (M.m Int (eI .i64) stamps))), (21, .si .i64 s3.1)], [(0, some (.arr false 1 (M.m (List Bool) (eL M 1 eB) s3.2.1))), (1, some (.arr false 1 (M.m Int (eI .i64) s3.2.2)))], 2⟩) hf (by (conv => lhs; cbv) <;> (try simp only [q]) <;> (try rfl)) ?_
  intro Ik4 k4 s3 hk4 hf e he; subst he
  unfold law07_DependLoops_l2 at hf
  cbv
  refine d_br hS hf (by simp only [q]; try first | rfl | simp [stdCmp, eI, eB, eL, eS, q]) ?_ ?_
  · intro hf; cbv
    refine d_mks hS hf (by simp only [q]; try first | rfl | simp [stdCmp, eI, eB, eL, eS, q]) (by simp only [q]; try first | rfl | simp [stdCmp, eI, eB, eL, eS, q]) ?_
    intro j6 hf; cbv
    refine d_wk hS (e := eB) hf (by (try simp only [q]); repeat' constructor) ?_
    intro x7 hf; cbv
    refine d_div hS hf (by simp only [q]; try first | rfl | simp [stdCmp, eI, eB, eL, eS, q]) (by simp only [q]; try first | rfl | simp [stdCmp, eI, eB, eL, eS, q]) ?_
    intro x8 hf; cbv
    refine d_ix hS hf rfl rfl ?_
    intro j9 _ hf; cbv
    refine d_wk hS (e := eB) hf (by (try simp only [q]); repeat' constructor) ?_
    intro x10 hf; cbv
    refine d_row hS hM (e := eB) hf (by simp only [q]; try first | rfl | simp [stdCmp, eI, eB, eL, eS, q]) (by simp only [q]; try first | rfl | simp [stdCmp, eI, eB, eL, eS, q]) ?_
    intro x11 hf; cbv
    refine d_room hS hf (by simp only [q]; try first | rfl | simp [stdCmp, eI, eB, eL, eS, q]) ?_
    intro hf; cbv
    refine d_room hS hf (by simp only [q]; try first | rfl | simp [stdCmp, eI, eB, eL, eS, q]) ?_
    intro hf; cbv
    exact ⟨_, hf, by rw [hk4] <;> (conv => lhs; cbv) <;> (try simp only [q]) <;> (try rfl) <;> (try simp only [eL, q]) <;> (try rfl)⟩
  intro hf; cbv
  refine d_callF hS hf (fun _ h => c12 hM h) (le_eq (by simp only [q]; try first | rfl | simp [stdCmp, eI, eB, eL, eS, q])) ?_
  intro y12 hf; cbv
  refine d_callp hS hf (fun _ h => c11 hM h) (le_eq (by simp only [q]; try first | rfl | simp [stdCmp, eI, eB, eL, eS, q])) ?_
  intro y13 hf; cbv
  refine d_br hS hf (by simp only [q]; try first | rfl | simp [stdCmp, eI, eB, eL, eS, q]) ?_ ?_
  · intro hf; cbv
    cases hf; exact hR _ (lp_eq rfl)
  intro hf; cbv
  refine d_callp hS hf (fun _ h => c16 hM h) (by (try simp only [q]); repeat' constructor) ?_
  intro y14 hf; cbv
  refine d_loop hS (tabcOK [42]) wf [] [0, 3, 8, 9] (fun s15 => ⟨tpsL 0 114 [(0, .sl 1 (M.m Int (eI .i64) stamps) false), (3, .si .i64 (S.len (M.m Int (eI .i64) stamps))), (8, .sl 1 (M.m Int (eI .i64) y14) false), (9, .si .i64 s15)], [], 0⟩) hf (by (conv => lhs; cbv) <;> (try simp only [q]) <;> (try rfl)) ?_
  intro Ik16 k16 s15 hk16 hf e he; subst he
  unfold law07_DependLoops_l1 at hf
  cbv
  refine d_br hS hf (by simp only [q]; try first | rfl | simp [stdCmp, eI, eB, eL, eS, q]) ?_ ?_
  · intro hf; cbv
    refine l_order hS (by kernel_rfl) ?_; cbv
    refine d_idx hS hM hf rfl (by simp only [q]; try first | rfl | simp [stdCmp, eI, eB, eL, eS, q]) ?_
    intro x18 hf; cbv
    refine d_idx hS hM hf rfl rfl ?_
    intro x19 hf; cbv
    refine d_cut hS [] [0, 3, 8, 9, 106] (fun s20 => ⟨tpsL 0 114 [(0, .sl 1 (M.m Int (eI .i64) stamps) false), (3, .si .i64 (S.len (M.m Int (eI .i64) stamps))), (8, .sl 1 (M.m Int (eI .i64) y14) false), (9, .si .i64 s15), (106, .sb s20)], [], 0⟩) hf ?_ ?_
    · intro Ik21 k21 hk21 hf; cbv
      refine l_order hS (by kernel_rfl) ?_; cbv
      refine d_br hS hf (by simp only [q]; try first | rfl | simp [stdCmp, eI, eB, eL, eS, q]) ?_ ?_
      · intro hf; cbv
        exact ⟨_, hf, by rw [hk21] <;> (conv => lhs; cbv) <;> (try simp only [q]) <;> (try rfl) <;> (try simp only [eL, q]) <;> (try rfl)⟩
      intro hf; cbv
      refine d_br hS hf (by simp only [q]; try first | rfl | simp [stdCmp, eI, eB, eL, eS, q]) ?_ ?_
      · intro hf; cbv
        exact ⟨_, hf, by rw [hk21] <;> (conv => lhs; cbv) <;> (try simp only [q]) <;> (try rfl) <;> (try simp only [eL, q]) <;> (try rfl)⟩
      intro hf; cbv
      refine d_br hS hf (by simp only [q]; try first | rfl | simp [stdCmp, eI, eB, eL, eS, q]) ?_ ?_
      · intro hf; cbv
        exact ⟨_, hf, by rw [hk21] <;> (conv => lhs; cbv) <;> (try simp only [q]) <;> (try rfl) <;> (try simp only [eL, q]) <;> (try rfl)⟩
      intro hf; cbv
      refine d_br hS hf (by simp only [q]; try first | rfl | simp [stdCmp, eI, eB, eL, eS, q]) ?_ ?_
      · intro hf; cbv
        exact ⟨_, hf, by rw [hk21] <;> (conv => lhs; cbv) <;> (try simp only [q]) <;> (try rfl) <;> (try simp only [eL, q]) <;> (try rfl)⟩
      intro hf; cbv
      refine d_idx hS hM hf rfl rfl ?_
      intro x23 hf; cbv
      refine d_idx hS hM hf rfl rfl ?_
      intro x24 hf; cbv
      refine d_br hS hf (by simp only [q]; try first | rfl | simp [stdCmp, eI, eB, eL, eS, q]) ?_ ?_
      · intro hf; cbv
        exact ⟨_, hf, by rw [hk21] <;> (conv => lhs; cbv) <;> (try simp only [q]) <;> (try rfl) <;> (try simp only [eL, q]) <;> (try rfl)⟩
      intro hf; cbv
      refine d_idx hS hM hf rfl rfl ?_
      intro x25 hf; cbv
      refine d_idx hS hM hf rfl rfl ?_
      intro x26 hf; cbv
      refine d_br hS hf (by simp only [q]; try first | rfl | simp [stdCmp, eI, eB, eL, eS, q]) ?_ ?_
      · intro hf; cbv
        exact ⟨_, hf, by rw [hk21] <;> (conv => lhs; cbv) <;> (try simp only [q]) <;> (try rfl) <;> (try simp only [eL, q]) <;> (try rfl)⟩
      intro hf; cbv
      exact ⟨_, hf, by rw [hk21] <;> (conv => lhs; cbv) <;> (try simp only [q]) <;> (try rfl) <;> (try simp only [eL, q]) <;> (try rfl)⟩
    intro s20 hf; cbv
    refine d_br hS hf rfl ?_ ?_
    · intro hf; cbv
      cases hf; exact hR _ (lp_eq rfl)
    intro hf; cbv
    exact ⟨_, hf, by rw [hk16] <;> (conv => lhs; cbv) <;> (try simp only [q]) <;> (try rfl) <;> (try simp only [eL, q]) <;> (try rfl)⟩
  intro hf; cbv
  refine d_callp hS hf (fun _ h => c10 hM h) (le_eq rfl) ?_
  intro y27 hf; cbv
  refine d_br hS hf rfl ?_ ?_
  · intro hf; cbv
    cases hf; exact hR _ (lp_eq (by simp only [q]; try first | rfl | simp [stdCmp, eI, eB, eL, eS, q]))
  intro hf; cbv
  cases hf; exact hR _ (lp_eq rfl)
theorem c6 {M : EncM} (hM : M = mapE) {stamps : List Int} {needs : List (List Bool)} {r : Bool} (hf : law07_DependAll stamps needs = some r) : Pv.Fn Try.prog glF 6 [.sl 1 (M.m Int (eI .i64) stamps) false, .sl 1 (M.m (List Bool) (eL M 1 eB) needs) false] (fun u => u = .sb r) := by
  refine fn_dec (T := (tabc [20])) (tabcOK [20]) rfl wf Try.func6 rfl Try.call6 rfl ?_
  intro S R hS hR
  have q := sf hM hS
  unfold law07_DependAll at hf
  cbv
  refine d_callp hS hf (fun _ h => c9 hM h) (le_eq (by simp only [q]; try first | rfl | simp [stdCmp, eI, eB, eL, eS, q])) ?_
  intro y1 hf; cbv
  refine d_br hS hf (by simp only [q]; try first | rfl | simp [stdCmp, eI, eB, eL, eS, q]) ?_ ?_
  · intro hf; cbv
    refine d_callp hS hf (fun _ h => c10 hM h) (le_eq rfl) ?_
    intro y2 hf; cbv
    cases hf; exact hR _ (lp_eq rfl)
  intro hf; cbv
  refine d_callp hS hf (fun _ h => c16 hM h) (le_eq rfl) ?_
  intro y3 hf; cbv
  refine d_br hS hf (by simp only [q]; try first | rfl | simp [stdCmp, eI, eB, eL, eS, q]) ?_ ?_
  · intro hf; cbv
    cases hf; exact hR _ (lp_eq rfl)
  intro hf; cbv
  refine d_mks hS hf (by simp only [q]; try first | rfl | simp [stdCmp, eI, eB, eL, eS, q]) (by simp only [q]; try first | rfl | simp [stdCmp, eI, eB, eL, eS, q]) ?_
  intro j4 hf; cbv
  refine d_wk hS (e := eB) hf (by (try simp only [q]); repeat' constructor) ?_
  intro x5 hf; cbv
  refine d_loop hS (tabcOK [20]) wf [] [1, 5, 6, 25, 26, 27] (fun s6 => ⟨tpsL 0 60 [(1, .sl 1 (M.m (List Bool) (eL M 1 eB) needs) false), (5, .sl 1 (M.m Int (eI .i64) y3) false), (6, .os 0 0 (S.lenN (M.m Bool eB s6.2))), (25, .sl 1 (M.m Int (eI .i64) y3) false), (26, .si .i64 (S.len (M.m Int (eI .i64) y3))), (27, .si .i64 s6.1)], [(0, some (.arr false 1 (M.m Bool eB s6.2)))], 1⟩) hf (by (conv => lhs; cbv) <;> (try simp only [q]) <;> (try rfl)) ?_
  intro Ik7 k7 s6 hk7 hf e he; subst he
  unfold law07_DependAll_l1 at hf
  cbv
  refine d_br hS hf (by simp only [q]; try first | rfl | simp [stdCmp, eI, eB, eL, eS, q]) ?_ ?_
  · intro hf; cbv
    refine d_idx hS hM hf rfl rfl ?_
    intro x9 hf; cbv
    refine d_cut hS [] [1, 5, 6, 8, 25, 26, 27, 54] (fun s10 => ⟨tpsL 0 60 [(1, .sl 1 (M.m (List Bool) (eL M 1 eB) needs) false), (5, .sl 1 (M.m Int (eI .i64) y3) false), (6, .os 0 0 (S.lenN (M.m Bool eB s6.2))), (8, .si .i64 x9), (25, .sl 1 (M.m Int (eI .i64) y3) false), (26, .si .i64 (S.len (M.m Int (eI .i64) y3))), (27, .si .i64 s6.1), (54, .sb s10)], [(0, some (.arr false 1 (M.m Bool eB s6.2)))], 1⟩) hf ?_ ?_
    · intro Ik11 k11 hk11 hf; cbv
      refine d_br hS hf (by simp only [q]; try first | rfl | simp [stdCmp, eI, eB, eL, eS, q]) ?_ ?_
      · intro hf; cbv
        exact ⟨_, hf, by rw [hk11] <;> (conv => lhs; cbv) <;> (try simp only [q]) <;> (try rfl) <;> (try simp only [eL, q]) <;> (try rfl)⟩
      intro hf; cbv
      refine d_br hS hf (by simp only [q]; try first | rfl | simp [stdCmp, eI, eB, eL, eS, q]) ?_ ?_
      · intro hf; cbv
        exact ⟨_, hf, by rw [hk11] <;> (conv => lhs; cbv) <;> (try simp only [q]) <;> (try rfl) <;> (try simp only [eL, q]) <;> (try rfl)⟩
      intro hf; cbv
      refine d_ix hS hf (by simp only [q]; try first | rfl | simp [stdCmp, eI, eB, eL, eS, q]) rfl ?_
      intro j13 _ hf; cbv
      refine d_row hS hM hf rfl (by simp only [q]; try first | rfl | simp [stdCmp, eI, eB, eL, eS, q]) ?_
      intro x14 hf; cbv
      refine d_br hS hf rfl ?_ ?_
      · intro hf; cbv
        exact ⟨_, hf, by rw [hk11] <;> (conv => lhs; cbv) <;> (try simp only [q]) <;> (try rfl) <;> (try simp only [eL, q]) <;> (try rfl)⟩
      intro hf; cbv
      refine d_slc hS hf (by simp only [q]; try first | rfl | simp [stdCmp, eI, eB, eL, eS, q]) rfl (by simp only [q]; try first | rfl | simp [stdCmp, eI, eB, eL, eS, q]) ?_
      intro x15 bx15 hf; cbv
      refine d_callp hS hf (fun _ h => c12 hM h) (le_eq (by simp only [q]; try first | rfl | simp [stdCmp, eI, eB, eL, eS, q])) ?_
      intro y16 hf; cbv
      exact ⟨_, hf, by rw [hk11] <;> (conv => lhs; cbv) <;> (try simp only [q]) <;> (try rfl) <;> (try simp only [eL, q]) <;> (try rfl)⟩
    intro s10 hf; cbv
    refine d_br hS hf rfl ?_ ?_
    · intro hf; cbv
      cases hf; exact hR _ (lp_eq rfl)
    intro hf; cbv
    refine d_ix hS hf (by simp only [q]; try first | rfl | simp [stdCmp, eI, eB, eL, eS, q]) rfl ?_
    intro j17 _ hf; cbv
    refine d_wk hS (e := eB) hf (by (try simp only [q]); repeat' constructor) ?_
    intro x18 hf; cbv
    refine d_row hS hM hf rfl (by simp only [q]; try first | rfl | simp [stdCmp, eI, eB, eL, eS, q]) ?_
    intro x19 hf; cbv
    exact ⟨_, hf, by rw [hk7] <;> (conv => lhs; cbv) <;> (try simp only [q]) <;> (try rfl) <;> (try simp only [eL, q]) <;> (try rfl)⟩
  intro hf; cbv
  refine d_callp hS hf (fun _ h => c10 hM h) (le_eq rfl) ?_
  intro y20 hf; cbv
  cases hf; exact hR _ (lp_eq rfl)
theorem c4 {M : EncM} (hM : M = mapE) {left : List Int} {stamps : List Int} {needs : List (List Bool)} {r : Bool} (hf : law07_DependNext left stamps needs = some r) : Pv.Fn Try.prog glF 4 [.sl 1 (M.m Int (eI .i64) left) false, .sl 1 (M.m Int (eI .i64) stamps) false, .sl 1 (M.m (List Bool) (eL M 1 eB) needs) false] (fun u => u = .sb r) := by
  refine fn_dec (T := tab) tabOK rfl wf Try.func4 rfl Try.call4 rfl ?_
  intro S R hS hR
  have q := sf hM hS
  unfold law07_DependNext at hf
  cbv
  refine d_callp hS hf (fun _ h => c9 hM h) (le_eq (by simp only [q]; try first | rfl | simp [stdCmp, eI, eB, eL, eS, q])) ?_
  intro y1 hf; cbv
  refine d_br hS hf (by simp only [q]; try first | rfl | simp [stdCmp, eI, eB, eL, eS, q]) ?_ ?_
  · intro hf; cbv
    cases hf; exact hR _ (lp_eq rfl)
  intro hf; cbv
  refine d_callp hS hf (fun _ h => c10 hM h) (le_eq rfl) ?_
  intro y2 hf; cbv
  refine d_br hS hf rfl ?_ ?_
  · intro hf; cbv
    refine d_callp hS hf (fun _ h => c14 hM h) (le_eq rfl) ?_
    intro y3 hf; cbv
    refine d_callp hS hf (fun _ h => c15 hM h) (le_eq rfl) ?_
    intro y4 hf; cbv
    cases hf; exact hR _ (lp_eq (by simp only [q]; try first | rfl | simp [stdCmp, eI, eB, eL, eS, q]))
  intro hf; cbv
  cases hf; exact hR _ (lp_eq rfl)
theorem c5 {M : EncM} (hM : M = mapE) {stamps : List Int} {needs : List (List Bool)} {r : Bool} (hf : law07_DependOrder stamps needs = some r) : Pv.Fn Try.prog glF 5 [.sl 1 (M.m Int (eI .i64) stamps) false, .sl 1 (M.m (List Bool) (eL M 1 eB) needs) false] (fun u => u = .sb r) := by
  refine fn_dec (T := tab) tabOK rfl wf Try.func5 rfl Try.call5 rfl ?_
  intro S R hS hR
  have q := sf hM hS
  unfold law07_DependOrder at hf
  cbv
  refine d_callp hS hf (fun _ h => c9 hM h) (le_eq (by simp only [q]; try first | rfl | simp [stdCmp, eI, eB, eL, eS, q])) ?_
  intro y1 hf; cbv
  refine d_br hS hf (by simp only [q]; try first | rfl | simp [stdCmp, eI, eB, eL, eS, q]) ?_ ?_
  · intro hf; cbv
    cases hf; exact hR _ (lp_eq rfl)
  intro hf; cbv
  refine d_callp hS hf (fun _ h => c10 hM h) (le_eq rfl) ?_
  intro y2 hf; cbv
  refine d_br hS hf rfl ?_ ?_
  · intro hf; cbv
    refine d_callp hS hf (fun _ h => c16 hM h) (le_eq rfl) ?_
    intro y3 hf; cbv
    refine d_callp hS hf (fun _ h => c17 hM h) (le_eq rfl) ?_
    intro y4 hf; cbv
    refine d_callp hS hf (fun _ h => c11 hM h) (le_eq rfl) ?_
    intro y5 hf; cbv
    cases hf; exact hR _ (lp_eq rfl)
  intro hf; cbv
  cases hf; exact hR _ (lp_eq rfl)
theorem c3 {M : EncM} (hM : M = mapE) {left : List Int} {needs : List (List Bool)} {r : Bool} (hf : law07_DependReady left needs = some r) : Pv.Fn Try.prog glF 3 [.sl 1 (M.m Int (eI .i64) left) false, .sl 1 (M.m (List Bool) (eL M 1 eB) needs) false] (fun u => u = .sb r) := by
  refine fn_dec (T := tab) tabOK rfl wf Try.func3 rfl Try.call3 rfl ?_
  intro S R hS hR
  have q := sf hM hS
  unfold law07_DependReady at hf
  cbv
  refine d_callp hS hf (fun _ h => c9 hM h) (le_eq (by simp only [q]; try first | rfl | simp [stdCmp, eI, eB, eL, eS, q])) ?_
  intro y1 hf; cbv
  refine d_br hS hf (by simp only [q]; try first | rfl | simp [stdCmp, eI, eB, eL, eS, q]) ?_ ?_
  · intro hf; cbv
    cases hf; exact hR _ (lp_eq rfl)
  intro hf; cbv
  refine d_callp hS hf (fun _ h => c10 hM h) (le_eq rfl) ?_
  intro y2 hf; cbv
  refine d_br hS hf rfl ?_ ?_
  · intro hf; cbv
    refine d_callp hS hf (fun _ h => c12 hM h) (le_eq rfl) ?_
    intro y3 hf; cbv
    refine d_callp hS hf (fun _ h => c13 hM h) (le_eq rfl) ?_
    intro y4 hf; cbv
    refine d_callp hS hf (fun _ h => c11 hM h) (le_eq rfl) ?_
    intro y5 hf; cbv
    cases hf; exact hR _ (lp_eq rfl)
  intro hf; cbv
  cases hf; exact hR _ (lp_eq rfl)
end Go.Proofs.Ytjdakjnobladaaa
