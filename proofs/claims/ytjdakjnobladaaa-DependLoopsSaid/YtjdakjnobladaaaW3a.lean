/-
  Functions of this seat as plain functions, each with its walk (written by godec.py).
-/
import Derived.Test.YtjdakjnobladaaaW2a
namespace Go.Proofs.Ytjdakjnobladaaa
open Go Go.Pv
set_option linter.all false
set_option linter.unusedVariables false
set_option linter.unusedSimpArgs false
set_option maxRecDepth 100000
set_option maxHeartbeats 2000000
theorem c13 {M : EncM} (hM : M = mapE) {left : List Int} {needs : List (List Bool)} {r : List Int} (hf : r07_Ready left needs = some r) : Pv.Fn Try.prog glF 13 [.sl 1 (M.m Int (eI .i64) left) false, .sl 1 (M.m (List Bool) (eL M 1 eB) needs) false] (fun u => u = .sl 1 (M.m Int (eI .i64) r) false) := by
  refine fn_dec (T := (tabc [11, 19, 20])) (tabcOK [11, 19, 20]) rfl wf Try.func13 rfl Try.call13 rfl ?_
  intro S R hS hR
  have q := sf hM hS
  unfold r07_Ready at hf
  cbv
  refine d_callp hS hf (fun _ h => c24 hM h) (le_eq rfl) ?_
  intro y1 hf; cbv
  refine d_loop hS (tabcOK [11, 19, 20]) wf [.tO 6 1] [1, 5, 6, 7] (fun s2 => ⟨tpsL 0 63 [(1, .sl 1 (M.m (List Bool) (eL M 1 eB) needs) false), (5, .sl 1 (M.m Int (eI .i64) y1) false), (6, .os 0 0 (S.lenN (M.m Int (eI .i64) s2.2))), (7, .si .i64 s2.1)], [(0, some (.arr false 1 (M.m Int (eI .i64) s2.2)))], 1⟩) hf (by (conv => lhs; cbv) <;> (try simp only [q]) <;> (try rfl)) ?_
  intro Ik3 k3 s2 hk3 hf e he; subst he
  unfold r07_Ready_l2 at hf
  cbv
  refine d_br hS hf (by simp only [q]; try first | rfl | simp [stdCmp, eI, eB, eL, eS, q]) ?_ ?_
  · intro hf; cbv
    refine d_cut hS [.tO 6 1] [1, 5, 6, 7] (fun s5 => ⟨tpsL 0 63 [(1, .sl 1 (M.m (List Bool) (eL M 1 eB) needs) false), (5, .sl 1 (M.m Int (eI .i64) y1) false), (6, .os 0 0 (S.lenN (M.m Int (eI .i64) s5))), (7, .si .i64 s2.1)], [(0, some (.arr false 1 (M.m Int (eI .i64) s5)))], 1⟩) hf ?_ ?_
    · intro Ik6 k6 hk6 hf; cbv
      refine d_loop hS (tabcOK [11, 19, 20]) wf [] [1, 5, 6, 7, 8, 9] (fun s8 => ⟨tpsL 0 63 [(1, .sl 1 (M.m (List Bool) (eL M 1 eB) needs) false), (5, .sl 1 (M.m Int (eI .i64) y1) false), (6, .os 0 0 (S.lenN (M.m Int (eI .i64) s2.2))), (7, .si .i64 s2.1), (8, .sb s8.1), (9, .si .i64 s8.2)], [(0, some (.arr false 1 (M.m Int (eI .i64) s2.2)))], 1⟩) hf (by (conv => lhs; cbv) <;> (try simp only [q]) <;> (try rfl)) ?_
      intro Ik9 k9 s8 hk9 hf e he; subst he
      unfold r07_Ready_l1 at hf
      cbv
      refine d_br hS hf (by simp only [q]; try first | rfl | simp [stdCmp, eI, eB, eL, eS, q]) ?_ ?_
      · intro hf; cbv
        refine d_cut hS [] [1, 5, 6, 7, 8, 9] (fun s11 => ⟨tpsL 0 63 [(1, .sl 1 (M.m (List Bool) (eL M 1 eB) needs) false), (5, .sl 1 (M.m Int (eI .i64) y1) false), (6, .os 0 0 (S.lenN (M.m Int (eI .i64) s2.2))), (7, .si .i64 s2.1), (8, .sb s11), (9, .si .i64 s8.2)], [(0, some (.arr false 1 (M.m Int (eI .i64) s2.2)))], 1⟩) hf ?_ ?_
        · intro Ik12 k12 hk12 hf; cbv
          refine d_cut hS [] [1, 5, 6, 7, 8, 9, 53] (fun s14 => ⟨tpsL 0 63 [(1, .sl 1 (M.m (List Bool) (eL M 1 eB) needs) false), (5, .sl 1 (M.m Int (eI .i64) y1) false), (6, .os 0 0 (S.lenN (M.m Int (eI .i64) s2.2))), (7, .si .i64 s2.1), (8, .sb s8.1), (9, .si .i64 s8.2), (53, .sb s14)], [(0, some (.arr false 1 (M.m Int (eI .i64) s2.2)))], 1⟩) hf ?_ ?_
          · intro Ik15 k15 hk15 hf; cbv
            refine l_order hS (by kernel_rfl) ?_; cbv
            refine d_br hS hf (by simp only [q]; try first | rfl | simp [stdCmp, eI, eB, eL, eS, q]) ?_ ?_
            · intro hf; cbv
              refine d_idx hS hM hf rfl rfl ?_
              intro x17 hf; cbv
              refine d_idx hS hM hf rfl rfl ?_
              intro x18 hf; cbv
              refine d_call hS hf (fun _ h => c25 hM h) (le_eq rfl) ?_
              intro y19 hf; cbv
              refine d_br hS hf rfl ?_ ?_
              · intro hf; cbv
                refine d_idx hS hM hf rfl rfl ?_
                intro x20 hf; cbv
                refine d_call hS hf (fun _ h => c27 hM h) (le_eq rfl) ?_
                intro y21 hf; cbv
                refine d_idx hS hM hf rfl rfl ?_
                intro x22 hf; cbv
                refine d_call hS hf (fun _ h => c26 hM h) (le_eq rfl) ?_
                intro y23 hf; cbv
                exact ⟨_, hf, by rw [hk15] <;> (conv => lhs; cbv) <;> (try simp only [q]) <;> (try rfl) <;> (try simp only [eL, q]) <;> (try rfl)⟩
              intro hf; cbv
              exact ⟨_, hf, by rw [hk15] <;> (conv => lhs; cbv) <;> (try simp only [q]) <;> (try rfl) <;> (try simp only [eL, q]) <;> (try rfl)⟩
            intro hf; cbv
            exact ⟨_, hf, by rw [hk15] <;> (conv => lhs; cbv) <;> (try simp only [q]) <;> (try rfl) <;> (try simp only [eL, q]) <;> (try rfl)⟩
          intro s14 hf; cbv
          refine d_br hS hf rfl ?_ ?_
          · intro hf; cbv
            exact ⟨_, hf, by rw [hk12] <;> (conv => lhs; cbv) <;> (try simp only [q]) <;> (try rfl) <;> (try simp only [eL, q]) <;> (try rfl)⟩
          intro hf; cbv
          exact ⟨_, hf, by rw [hk12] <;> (conv => lhs; cbv) <;> (try simp only [q]) <;> (try rfl) <;> (try simp only [eL, q]) <;> (try rfl)⟩
        intro s11 hf; cbv
        exact ⟨_, hf, by rw [hk9] <;> (conv => lhs; cbv) <;> (try simp only [q]) <;> (try rfl) <;> (try simp only [eL, q]) <;> (try rfl)⟩
      intro hf; cbv
      refine d_br hS hf rfl ?_ ?_
      · intro hf; cbv
        refine d_idx hS hM hf rfl rfl ?_
        intro x24 hf; cbv
        refine d_room hS hf (by simp only [q]; try first | rfl | simp [stdCmp, eI, eB, eL, eS, q]) ?_
        intro hf; cbv
        exact ⟨_, hf, by rw [hk6] <;> (conv => lhs; cbv) <;> (try simp only [q]) <;> (try rfl) <;> (try simp only [eL, q]) <;> (try rfl)⟩
      intro hf; cbv
      exact ⟨_, hf, by rw [hk6] <;> (conv => lhs; cbv) <;> (try simp only [q]) <;> (try rfl) <;> (try simp only [eL, q]) <;> (try rfl)⟩
    intro s5 hf; cbv
    exact ⟨_, hf, by rw [hk3] <;> (conv => lhs; cbv) <;> (try simp only [q]) <;> (try rfl) <;> (try simp only [eL, q]) <;> (try rfl)⟩
  intro hf; cbv
  cases hf; exact hR _ (lp_eq (by simp only [q]; try first | rfl | simp [stdCmp, eI, eB, eL, eS, q]))
theorem s30_0 {M : EncM} (hM : M = mapE) {s : List Int} {w1 : Int} {r : List Int} (hf : slices_DeleteFunc_int s (fun a0 => depend_Order_1 a0 w1) = some r) : Pv.FnS Try.prog glF 30 [.os 0 0 (M.n Int s), .fn 31 [.pp [.si .i64 w1]]] [(0, some (.arr false 1 (M.m Int (eI .i64) s)))] 1 (fun u s n => u = .os 1 0 (M.n Int r) ∧ s = [(0, none), (1, some (.arr false 1 (M.m Int (eI .i64) r)))] ∧ n = 2) := by
  refine fnS_dec (T := (tabx 1 [13] [[(1, true)]])) (tabxOK 1 [13] [[(1, true)]]) wf Try.func30 rfl Try.call30 rfl ?_
  intro S R hS hR
  have q := sf hM hS
  unfold slices_DeleteFunc_int at hf
  cbv
  refine d_callL hS hf (fun _ h => c35_1 hM h) (le_eq (by simp only [q]; try first | rfl | simp [stdCmp, eI, eB, eL, eS, q])) (fun _ => rfl) ?_
  intro y1 hf; cbv
  refine d_br hS hf (by simp only [q]; try first | rfl | simp [stdCmp, eI, eB, eL, eS, q]) ?_ ?_
  · intro hf; cbv
    cases hf; exact hR _ _ _ (by (try simp only [q]); repeat' constructor) (by (try simp only [q]); repeat' constructor) rfl
  intro hf; cbv
  refine d_loop hS (tabxOK 1 [13] [[(1, true)]]) wf [] [0, 1, 5, 6] (fun s2 => ⟨tpsL 0 42 [(0, .os 0 0 (S.lenN (M.m Int (eI .i64) s2.2.2))), (1, .fn 31 [.pp [.si .i64 w1]]), (5, .si .i64 s2.1), (6, .si .i64 s2.2.1)], [(0, some (.arr false 1 (M.m Int (eI .i64) s2.2.2)))], 1⟩) hf (by (conv => lhs; cbv) <;> (try simp only [q]) <;> (try rfl)) ?_
  intro Ik3 k3 s2 hk3 hf e he; subst he
  unfold slices_DeleteFunc_int_l1 at hf
  cbv
  refine d_br hS hf (by simp only [q]; try first | rfl | simp [stdCmp, eI, eB, eL, eS, q]) ?_ ?_
  · intro hf; cbv
    refine d_cut hS [] [0, 1, 5, 6] (fun s5 => ⟨tpsL 0 42 [(0, .os 0 0 (S.lenN (M.m Int (eI .i64) s5.2))), (1, .fn 31 [.pp [.si .i64 w1]]), (5, .si .i64 s5.1), (6, .si .i64 s2.2.1)], [(0, some (.arr false 1 (M.m Int (eI .i64) s5.2)))], 1⟩) hf ?_ ?_
    · intro Ik6 k6 hk6 hf; cbv
      refine d_ix hS hf (by simp only [q]; try first | rfl | simp [stdCmp, eI, eB, eL, eS, q]) rfl ?_
      intro j8 _ hf; cbv
      refine d_row hS hM hf rfl (by simp only [q]; try first | rfl | simp [stdCmp, eI, eB, eL, eS, q]) ?_
      intro x9 hf; cbv
      refine d_callp hS hf (fun _ h => c31 hM h) (le_eq rfl) ?_
      intro y10 hf; cbv
      refine d_br hS hf (by simp only [q]; try first | rfl | simp [stdCmp, eI, eB, eL, eS, q]) ?_ ?_
      · intro hf; cbv
        refine d_ix hS hf (by simp only [q]; try first | rfl | simp [stdCmp, eI, eB, eL, eS, q]) rfl ?_
        intro j11 _ hf; cbv
        refine d_row hS hM hf rfl (by simp only [q]; try first | rfl | simp [stdCmp, eI, eB, eL, eS, q]) ?_
        intro x12 hf; cbv
        exact ⟨_, hf, by rw [hk6] <;> (conv => lhs; cbv) <;> (try simp only [q]) <;> (try rfl) <;> (try simp only [eL, q]) <;> (try rfl)⟩
      intro hf; cbv
      exact ⟨_, hf, by rw [hk6] <;> (conv => lhs; cbv) <;> (try simp only [q]) <;> (try rfl) <;> (try simp only [eL, q]) <;> (try rfl)⟩
    intro s5 hf; cbv
    exact ⟨_, hf, by rw [hk3] <;> (conv => lhs; cbv) <;> (try simp only [q]) <;> (try rfl) <;> (try simp only [eL, q]) <;> (try rfl)⟩
  intro hf; cbv
  refine d_slc hS hf (by simp only [q]; try first | rfl | simp [stdCmp, eI, eB, eL, eS, q]) rfl (by simp only [q]; try first | rfl | simp [stdCmp, eI, eB, eL, eS, q]) ?_
  intro x13 bx13 hf; cbv
  refine d_wk hS (e := (eI .i64)) hf (by (try simp only [q]); repeat' constructor) ?_
  intro x14 hf; cbv
  refine d_slc hS hf (by simp only [q]; try first | rfl | simp [stdCmp, eI, eB, eL, eS, q]) rfl rfl ?_
  intro x15 bx15 hf; cbv
  cases hf; exact hR _ _ _ (by (try simp only [q]); repeat' first | constructor | exact lp_os rfl rfl (by have lbx13 := bx13.le; have tbx13 := bx13.lt; have lbx15 := bx15.le; have tbx15 := bx15.lt; clear hf bx13 bx15; cases x13; cases x15; simp only [subL, splL, List.length_append, List.length_take, List.length_drop, List.length_replicate] at *; omega)) (by (try simp only [q]); repeat' first | constructor | exact lp_os rfl rfl (by have lbx13 := bx13.le; have tbx13 := bx13.lt; have lbx15 := bx15.le; have tbx15 := bx15.lt; clear hf bx13 bx15; cases x13; cases x15; simp only [subL, splL, List.length_append, List.length_take, List.length_drop, List.length_replicate] at *; omega)) rfl
theorem c19 {M : EncM} (hM : M = mapE) {left : List Int} {r : List Int} (hf : depend_elements left = some r) : Pv.Fn Try.prog glF 19 [.sl 1 (M.m Int (eI .i64) left) false] (fun u => u = .sl 1 (M.m Int (eI .i64) r) false) := by
  refine fn_dec (T := (tabc [10, 15])) (tabcOK [10, 15]) rfl wf Try.func19 rfl Try.call19 rfl ?_
  intro S R hS hR
  have q := sf hM hS
  unfold depend_elements at hf
  cbv
  refine d_loop hS (tabcOK [10, 15]) wf [.tO 3 1] [3, 6, 7, 8] (fun s1 => ⟨tpsL 0 26 [(3, .os 0 0 (S.lenN (M.m Int (eI .i64) s1.2))), (6, .sl 1 (M.m Int (eI .i64) left) false), (7, .si .i64 (S.len (M.m Int (eI .i64) left))), (8, .si .i64 s1.1)], [(0, some (.arr false 1 (M.m Int (eI .i64) s1.2)))], 1⟩) hf (by (conv => lhs; cbv) <;> (try simp only [q]) <;> (try rfl)) ?_
  intro Ik2 k2 s1 hk2 hf e he; subst he
  unfold depend_elements_l1 at hf
  cbv
  refine d_br hS hf (by simp only [q]; try first | rfl | simp [stdCmp, eI, eB, eL, eS, q]) ?_ ?_
  · intro hf; cbv
    refine d_cut hS [.tO 3 1] [3, 6, 7, 8] (fun s4 => ⟨tpsL 0 26 [(3, .os 0 0 (S.lenN (M.m Int (eI .i64) s4))), (6, .sl 1 (M.m Int (eI .i64) left) false), (7, .si .i64 (S.len (M.m Int (eI .i64) left))), (8, .si .i64 s1.1)], [(0, some (.arr false 1 (M.m Int (eI .i64) s4)))], 1⟩) hf ?_ ?_
    · intro Ik5 k5 hk5 hf; cbv
      refine d_idx hS hM hf rfl rfl ?_
      intro x7 hf; cbv
      refine d_cut hS [] [3, 5, 6, 7, 8, 19] (fun s8 => ⟨tpsL 0 26 [(3, .os 0 0 (S.lenN (M.m Int (eI .i64) s1.2))), (5, .si .i64 x7), (6, .sl 1 (M.m Int (eI .i64) left) false), (7, .si .i64 (S.len (M.m Int (eI .i64) left))), (8, .si .i64 s1.1), (19, .sb s8)], [(0, some (.arr false 1 (M.m Int (eI .i64) s1.2)))], 1⟩) hf ?_ ?_
      · intro Ik9 k9 hk9 hf; cbv
        refine d_br hS hf (by simp only [q]; try first | rfl | simp [stdCmp, eI, eB, eL, eS, q]) ?_ ?_
        · intro hf; cbv
          refine d_callL hS hf (fun _ h => c32 hM h) (le_eq (by simp only [q]; try first | rfl | simp [stdCmp, eI, eB, eL, eS, q])) (fun _ => rfl) ?_
          intro y11 hf; cbv
          exact ⟨_, hf, by rw [hk9] <;> (conv => lhs; cbv) <;> (try simp only [q]) <;> (try rfl) <;> (try simp only [eL, q]) <;> (try rfl)⟩
        intro hf; cbv
        exact ⟨_, hf, by rw [hk9] <;> (conv => lhs; cbv) <;> (try simp only [q]) <;> (try rfl) <;> (try simp only [eL, q]) <;> (try rfl)⟩
      intro s8 hf; cbv
      refine d_br hS hf rfl ?_ ?_
      · intro hf; cbv
        refine d_room hS hf (by simp only [q]; try first | rfl | simp [stdCmp, eI, eB, eL, eS, q]) ?_
        intro hf; cbv
        exact ⟨_, hf, by rw [hk5] <;> (conv => lhs; cbv) <;> (try simp only [q]) <;> (try rfl) <;> (try simp only [eL, q]) <;> (try rfl)⟩
      intro hf; cbv
      exact ⟨_, hf, by rw [hk5] <;> (conv => lhs; cbv) <;> (try simp only [q]) <;> (try rfl) <;> (try simp only [eL, q]) <;> (try rfl)⟩
    intro s4 hf; cbv
    exact ⟨_, hf, by rw [hk2] <;> (conv => lhs; cbv) <;> (try simp only [q]) <;> (try rfl) <;> (try simp only [eL, q]) <;> (try rfl)⟩
  intro hf; cbv
  cases hf; exact hR _ (lp_eq (by simp only [q]; try first | rfl | simp [stdCmp, eI, eB, eL, eS, q]))
theorem c22_0 {M : EncM} (hM : M = mapE) {j : Int} {c1 : Int} {c2 : List (List Bool)} {w1 : List Int} {w2 : List (List Bool)} {r : Bool} (hf : depend_Ready_1 j c1 c2 (fun a0 a1 => depend_leads_1 a0 a1 w1 w2) = some r) : Pv.Fn Try.prog glF 22 [.si .i64 j, .pp [.si .i64 c1], .pp [.sl 1 (M.m (List Bool) (eL M 1 eB) c2) false], .pp [.fn 33 [.pp [.sl 1 (M.m Int (eI .i64) w1) false], .pp [.sl 1 (M.m (List Bool) (eL M 1 eB) w2) false]]]] (fun u => u = .sb r) := by
  refine fn_dec (T := tab) tabOK rfl wf Try.func22 rfl Try.call22 rfl ?_
  intro S R hS hR
  have q := sf hM hS
  unfold depend_Ready_1 at hf
  cbv
  refine d_br hS hf (by simp only [q]; try first | rfl | simp [stdCmp, eI, eB, eL, eS, q]) ?_ ?_
  · intro hf; cbv
    refine d_callp hS hf (fun _ h => c23 hM h) (le_eq rfl) ?_
    intro y1 hf; cbv
    refine d_br hS hf rfl ?_ ?_
    · intro hf; cbv
      refine d_callp hS hf (fun _ h => c33 hM h) (le_eq rfl) ?_
      intro y2 hf; cbv
      cases hf; exact hR _ (lp_eq (by simp only [q]; try first | rfl | simp [stdCmp, eI, eB, eL, eS, q]))
    intro hf; cbv
    cases hf; exact hR _ (lp_eq rfl)
  intro hf; cbv
  cases hf; exact hR _ (lp_eq rfl)
end Go.Proofs.Ytjdakjnobladaaa
