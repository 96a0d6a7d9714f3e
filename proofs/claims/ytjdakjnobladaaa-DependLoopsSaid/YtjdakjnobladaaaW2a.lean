/-
  Functions of this seat as plain functions, each with its walk (written by godec.py).
-/
import Derived.Test.YtjdakjnobladaaaW1a
namespace Go.Proofs.Ytjdakjnobladaaa
open Go Go.Pv
set_option linter.all false
set_option linter.unusedVariables false
set_option linter.unusedSimpArgs false
set_option maxRecDepth 100000
set_option maxHeartbeats 2000000
theorem c20 {M : EncM} (hM : M = mapE) {l : List Int} {needs : List (List Bool)} {r : (List Int) × (List (List Bool))} (hf : depend_leads l needs = some r) : Pv.Fn Try.prog glF 20 [.sl 1 (M.m Int (eI .i64) l) false, .sl 1 (M.m (List Bool) (eL M 1 eB) needs) false] (fun u => u = .fn 33 [.pp [.sl 1 (M.m Int (eI .i64) r.1) false], .pp [.sl 1 (M.m (List Bool) (eL M 1 eB) r.2) false]]) := by
  refine fn_dec (T := (tabn [44, 49] 2)) (tabnOK [44, 49] 2) rfl wf Try.func20 rfl Try.call20 rfl ?_
  intro S R hS hR
  have q := sf hM hS; have q1 := sfh1 hM hS; have q2 := sfh2 hM hS
  unfold depend_leads at hf
  cbv
  refine d_mks hS hf (by (try simp only [q1]); (try simp only [q2, eO, q]); try first | rfl | simp [stdCmp, eI, eB, eL, eS, q]) (by (try simp only [q1]); (try simp only [q2, eO, q]); try first | rfl | simp [stdCmp, eI, eB, eL, eS, q]) ?_
  intro j1 hf; cbv
  refine d_loopG hS (tabnOK [44, 49] 2) wf [] [1, 2, 5, 6, 17, 18] (fun s2 (g4 : (Nat → Hdr)) => ⟨tpsL 0 86 [(1, .sl 1 (M.m (List Bool) (eL M 1 eB) needs) false), (2, .lv 0 0), (5, .si .i64 (S.len (M.m Int (eI .i64) l))), (6, .lv 1 0), (17, .si .i64 (S.nint j1)), (18, .si .i64 s2.1)], [(0, some (.var false [.sl 1 (M.m Int (eI .i64) l) false])), (1, some (.var false [.os 2 0 (S.lenN (M.h g4 (List Bool) (eO M 1 eB) s2.2))])), (2, some (.nar 1 (M.h g4 (List Bool) (eO M 1 eB) s2.2)))], 3⟩) ((fun _ => hd0)) hf (by (conv => lhs; cbv) <;> (try simp only [q1]) <;> (try simp only [q2, eO, q]) <;> (try rfl)) ?_
  intro Ik3 k3 s2 g4 hk3 hf e he; subst he
  unfold depend_leads_l5 at hf
  cbv
  replace hf := d_lt hf
  refine d_br hS hf (by (try simp only [q1]); (try simp only [q2, eO, q]); try first | rfl | simp [stdCmp, eI, eB, eL, eS, q]) ?_ ?_
  · intro hf; cbv
    refine l_order hS (by kernel_rfl) ?_; cbv
    refine d_mks hS hf (by (try simp only [q1]); (try simp only [q2, eO, q]); try first | rfl | simp [stdCmp, eI, eB, eL, eS, q]) (by (try simp only [q1]); (try simp only [q2, eO, q]); try first | rfl | simp [stdCmp, eI, eB, eL, eS, q]) ?_
    intro j6 hf; cbv
    refine d_wk hS (e := eB) hf (by (try simp only [q1]) <;> (try simp only [q2, eO, q]); repeat' constructor) ?_
    intro x7 hf; cbv
    refine d_ix hS hf (by (try simp only [q1]); (try simp only [q2, eO, q]); try first | rfl | simp [stdCmp, eI, eB, eL, eS, q]) rfl ?_
    intro j8 _ hf; cbv
    refine l_last hS (by kernel_rfl) ?_; cbv
    refine d_rowH hS hM hf rfl (by (try simp only [q1]); (try simp only [q2, eO, q]); try first | rfl | simp [stdCmp, eI, eB, eL, eS, q]) ?_
    intro x10 hf; cbv
    refine l_nu hS ?_; intro h9; cbv
    refine d_loop hS (tabnOK [44, 49] 2) wf [] [1, 2, 5, 6, 7, 17, 18, 26, 27] (fun s11 => ⟨tpsL 0 86 [(1, .sl 1 (M.m (List Bool) (eL M 1 eB) needs) false), (2, .lv 0 0), (5, .si .i64 (S.len (M.m Int (eI .i64) l))), (6, .lv 1 0), (7, .si .i64 s2.1), (17, .si .i64 (S.nint j1)), (18, .si .i64 s2.1), (26, .si .i64 (S.len (M.m Int (eI .i64) l))), (27, .si .i64 s11.1)], [(0, some (.var false [.sl 1 (M.m Int (eI .i64) l) false])), (1, some (.var false [.os 2 0 (S.lenN (M.h (M.up g4 j8 h9) (List Bool) (eO M 1 eB) s11.2))])), (2, some (.nar 1 (M.h (M.up g4 j8 h9) (List Bool) (eO M 1 eB) s11.2)))], 3⟩) hf (by (conv => lhs; cbv) <;> (try simp only [q1]) <;> (try simp only [q2, eO, q]) <;> (try rfl)) ?_
    intro Ik12 k12 s11 hk12 hf e he; subst he
    unfold depend_leads_l1 at hf
    cbv
    refine d_br hS hf (by (try simp only [q1]); (try simp only [q2, eO, q]); try first | rfl | simp [stdCmp, eI, eB, eL, eS, q]) ?_ ?_
    · intro hf; cbv
      refine l_order hS (by kernel_rfl) ?_; cbv
      refine d_ix hS hf (by (try simp only [q1]); (try simp only [q2, eO, q]); try first | rfl | simp [stdCmp, eI, eB, eL, eS, q]) rfl ?_
      intro j14 _ hf; cbv
      refine d_rowH hS hM hf rfl (by (try simp only [q1]); (try simp only [q2, eO, q]); try first | rfl | simp [stdCmp, eI, eB, eL, eS, q]) ?_
      intro x15 hf; cbv
      refine d_idx hS hM hf rfl rfl ?_
      intro x16 hf; cbv
      refine d_idx hS hM hf rfl rfl ?_
      intro x17 hf; cbv
      refine d_call hS hf (fun _ h => c23 hM h) (le_eq rfl) ?_
      intro y18 hf; cbv
      refine d_ix hS hf (by (try simp only [q1]); (try simp only [q2, eO, q]); try first | rfl | simp [stdCmp, eI, eB, eL, eS, q]) rfl ?_
      intro j19 _ hf; cbv
      refine l_last hS (by kernel_rfl) ?_; cbv
      refine d_rowH hS hM hf rfl (by (try simp only [q1]); (try simp only [q2, eO, q]); try first | rfl | simp [stdCmp, eI, eB, eL, eS, q]) ?_
      intro x20 hf; cbv
      refine l_same hS rfl ?_; cbv
      refine d_row hS hM hf rfl rfl ?_
      intro x21 hf; cbv
      exact ⟨_, hf, by rw [hk12] <;> (conv => lhs; cbv) <;> (try simp only [q1]) <;> (try simp only [q2, eO, q]) <;> (try rfl) <;> (try simp only [eL, q]) <;> (try rfl)⟩
    intro hf; cbv
    exact ⟨_, ((M.up g4 j8 h9)), hf, by rw [hk3] <;> (conv => lhs; cbv) <;> (try simp only [q1]) <;> (try simp only [q2, eO, q]) <;> (try rfl) <;> (try simp only [eL, q]) <;> (try rfl)⟩
  intro hf; cbv
  refine d_loop hS (tabnOK [44, 49] 2) wf [] [2, 5, 6, 48, 49] (fun s22 => ⟨tpsL 0 86 [(2, .lv 0 0), (5, .si .i64 (S.len (M.m Int (eI .i64) l))), (6, .lv 1 0), (48, .si .i64 (S.len (M.m Int (eI .i64) l))), (49, .si .i64 s22.1)], [(0, some (.var false [.sl 1 (M.m Int (eI .i64) l) false])), (1, some (.var false [.os 2 0 (S.lenN (M.h g4 (List Bool) (eO M 1 eB) s22.2))])), (2, some (.nar 1 (M.h g4 (List Bool) (eO M 1 eB) s22.2)))], 3⟩) hf (by (conv => lhs; cbv) <;> (try simp only [q1]) <;> (try simp only [q2, eO, q]) <;> (try rfl)) ?_
  intro Ik23 k23 s22 hk23 hf e he; subst he
  unfold depend_leads_l4 at hf
  cbv
  refine d_br hS hf (by (try simp only [q1]); (try simp only [q2, eO, q]); try first | rfl | simp [stdCmp, eI, eB, eL, eS, q]) ?_ ?_
  · intro hf; cbv
    refine d_loop hS (tabnOK [44, 49] 2) wf [] [2, 5, 6, 9, 48, 49, 52, 53] (fun s25 => ⟨tpsL 0 86 [(2, .lv 0 0), (5, .si .i64 (S.len (M.m Int (eI .i64) l))), (6, .lv 1 0), (9, .si .i64 s22.1), (48, .si .i64 (S.len (M.m Int (eI .i64) l))), (49, .si .i64 s22.1), (52, .si .i64 (S.len (M.m Int (eI .i64) l))), (53, .si .i64 s25.1)], [(0, some (.var false [.sl 1 (M.m Int (eI .i64) l) false])), (1, some (.var false [.os 2 0 (S.lenN (M.h g4 (List Bool) (eO M 1 eB) s25.2))])), (2, some (.nar 1 (M.h g4 (List Bool) (eO M 1 eB) s25.2)))], 3⟩) hf (by (conv => lhs; cbv) <;> (try simp only [q1]) <;> (try simp only [q2, eO, q]) <;> (try rfl)) ?_
    intro Ik26 k26 s25 hk26 hf e he; subst he
    unfold depend_leads_l3 at hf
    cbv
    refine d_br hS hf (by (try simp only [q1]); (try simp only [q2, eO, q]); try first | rfl | simp [stdCmp, eI, eB, eL, eS, q]) ?_ ?_
    · intro hf; cbv
      refine d_loop hS (tabnOK [44, 49] 2) wf [] [2, 5, 6, 9, 10, 48, 49, 52, 53, 56, 57] (fun s28 => ⟨tpsL 0 86 [(2, .lv 0 0), (5, .si .i64 (S.len (M.m Int (eI .i64) l))), (6, .lv 1 0), (9, .si .i64 s22.1), (10, .si .i64 s25.1), (48, .si .i64 (S.len (M.m Int (eI .i64) l))), (49, .si .i64 s22.1), (52, .si .i64 (S.len (M.m Int (eI .i64) l))), (53, .si .i64 s25.1), (56, .si .i64 (S.len (M.m Int (eI .i64) l))), (57, .si .i64 s28.1)], [(0, some (.var false [.sl 1 (M.m Int (eI .i64) l) false])), (1, some (.var false [.os 2 0 (S.lenN (M.h g4 (List Bool) (eO M 1 eB) s28.2))])), (2, some (.nar 1 (M.h g4 (List Bool) (eO M 1 eB) s28.2)))], 3⟩) hf (by (conv => lhs; cbv) <;> (try simp only [q1]) <;> (try simp only [q2, eO, q]) <;> (try rfl)) ?_
      intro Ik29 k29 s28 hk29 hf e he; subst he
      unfold depend_leads_l2 at hf
      cbv
      refine d_br hS hf (by (try simp only [q1]); (try simp only [q2, eO, q]); try first | rfl | simp [stdCmp, eI, eB, eL, eS, q]) ?_ ?_
      · intro hf; cbv
        refine d_cut hS [] [2, 5, 6, 9, 10, 48, 49, 52, 53, 56, 57] (fun s31 => ⟨tpsL 0 86 [(2, .lv 0 0), (5, .si .i64 (S.len (M.m Int (eI .i64) l))), (6, .lv 1 0), (9, .si .i64 s22.1), (10, .si .i64 s25.1), (48, .si .i64 (S.len (M.m Int (eI .i64) l))), (49, .si .i64 s22.1), (52, .si .i64 (S.len (M.m Int (eI .i64) l))), (53, .si .i64 s25.1), (56, .si .i64 (S.len (M.m Int (eI .i64) l))), (57, .si .i64 s28.1)], [(0, some (.var false [.sl 1 (M.m Int (eI .i64) l) false])), (1, some (.var false [.os 2 0 (S.lenN (M.h g4 (List Bool) (eO M 1 eB) s31))])), (2, some (.nar 1 (M.h g4 (List Bool) (eO M 1 eB) s31)))], 3⟩) hf ?_ ?_
        · intro Ik32 k32 hk32 hf; cbv
          refine d_cut hS [] [2, 5, 6, 9, 10, 11, 48, 49, 52, 53, 56, 57, 75] (fun s34 => ⟨tpsL 0 86 [(2, .lv 0 0), (5, .si .i64 (S.len (M.m Int (eI .i64) l))), (6, .lv 1 0), (9, .si .i64 s22.1), (10, .si .i64 s25.1), (11, .si .i64 s28.1), (48, .si .i64 (S.len (M.m Int (eI .i64) l))), (49, .si .i64 s22.1), (52, .si .i64 (S.len (M.m Int (eI .i64) l))), (53, .si .i64 s25.1), (56, .si .i64 (S.len (M.m Int (eI .i64) l))), (57, .si .i64 s28.1), (75, .sb s34)], [(0, some (.var false [.sl 1 (M.m Int (eI .i64) l) false])), (1, some (.var false [.os 2 0 (S.lenN (M.h g4 (List Bool) (eO M 1 eB) s28.2))])), (2, some (.nar 1 (M.h g4 (List Bool) (eO M 1 eB) s28.2)))], 3⟩) hf ?_ ?_
          · intro Ik35 k35 hk35 hf; cbv
            refine d_ix hS hf (by (try simp only [q1]); (try simp only [q2, eO, q]); try first | rfl | simp [stdCmp, eI, eB, eL, eS, q]) rfl ?_
            intro j37 _ hf; cbv
            refine d_rowH hS hM hf rfl (by (try simp only [q1]); (try simp only [q2, eO, q]); try first | rfl | simp [stdCmp, eI, eB, eL, eS, q]) ?_
            intro x38 hf; cbv
            refine d_ix hS hf (by (try simp only [q1]); (try simp only [q2, eO, q]); try first | rfl | simp [stdCmp, eI, eB, eL, eS, q]) rfl ?_
            intro j39 _ hf; cbv
            refine d_rowH hS hM hf rfl (by (try simp only [q1]); (try simp only [q2, eO, q]); try first | rfl | simp [stdCmp, eI, eB, eL, eS, q]) ?_
            intro x40 hf; cbv
            refine l_same hS rfl ?_; cbv
            refine d_row hS hM hf rfl rfl ?_
            intro x41 hf; cbv
            refine d_br hS hf rfl ?_ ?_
            · intro hf; cbv
              refine d_ix hS hf (by (try simp only [q1]); (try simp only [q2, eO, q]); try first | rfl | simp [stdCmp, eI, eB, eL, eS, q]) rfl ?_
              intro j42 _ hf; cbv
              refine d_rowH hS hM hf rfl (by (try simp only [q1]); (try simp only [q2, eO, q]); try first | rfl | simp [stdCmp, eI, eB, eL, eS, q]) ?_
              intro x43 hf; cbv
              refine d_ix hS hf (by (try simp only [q1]); (try simp only [q2, eO, q]); try first | rfl | simp [stdCmp, eI, eB, eL, eS, q]) rfl ?_
              intro j44 _ hf; cbv
              refine d_rowH hS hM hf rfl (by (try simp only [q1]); (try simp only [q2, eO, q]); try first | rfl | simp [stdCmp, eI, eB, eL, eS, q]) ?_
              intro x45 hf; cbv
              refine l_same hS rfl ?_; cbv
              refine d_row hS hM hf rfl rfl ?_
              intro x46 hf; cbv
              exact ⟨_, hf, by rw [hk35] <;> (conv => lhs; cbv) <;> (try simp only [q1]) <;> (try simp only [q2, eO, q]) <;> (try rfl) <;> (try simp only [eL, q]) <;> (try rfl)⟩
            intro hf; cbv
            exact ⟨_, hf, by rw [hk35] <;> (conv => lhs; cbv) <;> (try simp only [q1]) <;> (try simp only [q2, eO, q]) <;> (try rfl) <;> (try simp only [eL, q]) <;> (try rfl)⟩
          intro s34 hf; cbv
          refine d_br hS hf rfl ?_ ?_
          · intro hf; cbv
            refine d_ix hS hf (by (try simp only [q1]); (try simp only [q2, eO, q]); try first | rfl | simp [stdCmp, eI, eB, eL, eS, q]) rfl ?_
            intro j47 _ hf; cbv
            refine d_rowH hS hM hf rfl (by (try simp only [q1]); (try simp only [q2, eO, q]); try first | rfl | simp [stdCmp, eI, eB, eL, eS, q]) ?_
            intro x48 hf; cbv
            refine d_ix hS hf (by (try simp only [q1]); (try simp only [q2, eO, q]); try first | rfl | simp [stdCmp, eI, eB, eL, eS, q]) rfl ?_
            intro j49 _ hf; cbv
            refine d_wk hS (e := eB) hf (by (try simp only [q1]) <;> (try simp only [q2, eO, q]); repeat' constructor) ?_
            intro x50 hf; cbv
            refine d_rowH hS hM hf rfl (by (try simp only [q1]); (try simp only [q2, eO, q]); try first | rfl | simp [stdCmp, eI, eB, eL, eS, q]) ?_
            intro x51 hf; cbv
            refine l_same hS rfl ?_; cbv
            refine d_row hS hM hf rfl rfl ?_
            intro x52 hf; cbv
            exact ⟨_, hf, by rw [hk32] <;> (conv => lhs; cbv) <;> (try simp only [q1]) <;> (try simp only [q2, eO, q]) <;> (try rfl) <;> (try simp only [eL, q]) <;> (try rfl)⟩
          intro hf; cbv
          exact ⟨_, hf, by rw [hk32] <;> (conv => lhs; cbv) <;> (try simp only [q1]) <;> (try simp only [q2, eO, q]) <;> (try rfl) <;> (try simp only [eL, q]) <;> (try rfl)⟩
        intro s31 hf; cbv
        exact ⟨_, hf, by rw [hk29] <;> (conv => lhs; cbv) <;> (try simp only [q1]) <;> (try simp only [q2, eO, q]) <;> (try rfl) <;> (try simp only [eL, q]) <;> (try rfl)⟩
      intro hf; cbv
      exact ⟨_, hf, by rw [hk26] <;> (conv => lhs; cbv) <;> (try simp only [q1]) <;> (try simp only [q2, eO, q]) <;> (try rfl) <;> (try simp only [eL, q]) <;> (try rfl)⟩
    intro hf; cbv
    exact ⟨_, hf, by rw [hk23] <;> (conv => lhs; cbv) <;> (try simp only [q1]) <;> (try simp only [q2, eO, q]) <;> (try rfl) <;> (try simp only [eL, q]) <;> (try rfl)⟩
  intro hf; cbv
  cases hf; exact hR _ (lp_eq (by (try simp only [q1]); (try simp only [q2, eO, q]); try first | rfl | simp [stdCmp, eI, eB, eL, eS, q]))
theorem c27 {M : EncM} (hM : M = mapE) {l : List Int} {needs : List (List Bool)} {i : Int} {r : List Int} (hf : r07_reached l needs i = some r) : Pv.Fn Try.prog glF 27 [.sl 1 (M.m Int (eI .i64) l) false, .sl 1 (M.m (List Bool) (eL M 1 eB) needs) false, .si .i64 i] (fun u => u = .sl 1 (M.m Int (eI .i64) r) false) := by
  refine fn_dec (T := (tabc [9, 25, 26])) (tabcOK [9, 25, 26]) rfl wf Try.func27 rfl Try.call27 rfl ?_
  intro S R hS hR
  have q := sf hM hS
  unfold r07_reached at hf
  cbv
  refine d_loop hS (tabcOK [9, 25, 26]) wf [.tO 7 1] [0, 1, 2, 7, 8] (fun s1 => ⟨tpsL 0 70 [(0, .sl 1 (M.m Int (eI .i64) l) false), (1, .sl 1 (M.m (List Bool) (eL M 1 eB) needs) false), (2, .si .i64 i), (7, .os 0 0 (S.lenN (M.m Int (eI .i64) s1.2))), (8, .si .i64 s1.1)], [(0, some (.arr false 1 (M.m Int (eI .i64) s1.2)))], 1⟩) hf (by (conv => lhs; cbv) <;> (try simp only [q]) <;> (try rfl)) ?_
  intro Ik2 k2 s1 hk2 hf e he; subst he
  unfold r07_reached_l3 at hf
  cbv
  refine d_br hS hf (by simp only [q]; try first | rfl | simp [stdCmp, eI, eB, eL, eS, q]) ?_ ?_
  · intro hf; cbv
    refine d_cut hS [.tO 7 1] [0, 1, 2, 7, 8] (fun s4 => ⟨tpsL 0 70 [(0, .sl 1 (M.m Int (eI .i64) l) false), (1, .sl 1 (M.m (List Bool) (eL M 1 eB) needs) false), (2, .si .i64 i), (7, .os 0 0 (S.lenN (M.m Int (eI .i64) s4))), (8, .si .i64 s1.1)], [(0, some (.arr false 1 (M.m Int (eI .i64) s4)))], 1⟩) hf ?_ ?_
    · intro Ik5 k5 hk5 hf; cbv
      refine d_idx hS hM hf rfl rfl ?_
      intro x7 hf; cbv
      refine d_callp hS hf (fun _ h => c25 hM h) (le_eq rfl) ?_
      intro y8 hf; cbv
      refine d_br hS hf rfl ?_ ?_
      · intro hf; cbv
        refine d_idx hS hM hf rfl rfl ?_
        intro x9 hf; cbv
        refine d_room hS hf (by simp only [q]; try first | rfl | simp [stdCmp, eI, eB, eL, eS, q]) ?_
        intro hf; cbv
        exact ⟨_, hf, by rw [hk5] <;> (conv => lhs; cbv) <;> (try simp only [q]) <;> (try rfl) <;> (try simp only [eL, q]) <;> (try rfl)⟩
      intro hf; cbv
      exact ⟨_, hf, by rw [hk5] <;> (conv => lhs; cbv) <;> (try simp only [q]) <;> (try rfl) <;> (try simp only [eL, q]) <;> (try rfl)⟩
    intro s4 hf; cbv
    exact ⟨_, hf, by rw [hk2] <;> (conv => lhs; cbv) <;> (try simp only [q]) <;> (try rfl) <;> (try simp only [eL, q]) <;> (try rfl)⟩
  intro hf; cbv
  refine d_loop hS (tabcOK [9, 25, 26]) wf [] [0, 1, 7, 9] (fun s10 => ⟨tpsL 0 70 [(0, .sl 1 (M.m Int (eI .i64) l) false), (1, .sl 1 (M.m (List Bool) (eL M 1 eB) needs) false), (7, .os 0 0 (S.lenN (M.m Int (eI .i64) s10.2))), (9, .si .i64 s10.1)], [(0, some (.arr false 1 (M.m Int (eI .i64) s10.2)))], 1⟩) hf (by (conv => lhs; cbv) <;> (try simp only [q]) <;> (try rfl)) ?_
  intro Ik11 k11 s10 hk11 hf e he; subst he
  unfold r07_reached_l2 at hf
  cbv
  refine d_br hS hf (by simp only [q]; try first | rfl | simp [stdCmp, eI, eB, eL, eS, q]) ?_ ?_
  · intro hf; cbv
    refine d_loop hS (tabcOK [9, 25, 26]) wf [] [0, 1, 7, 9, 10] (fun s13 => ⟨tpsL 0 70 [(0, .sl 1 (M.m Int (eI .i64) l) false), (1, .sl 1 (M.m (List Bool) (eL M 1 eB) needs) false), (7, .os 0 0 (S.lenN (M.m Int (eI .i64) s13.2))), (9, .si .i64 s10.1), (10, .si .i64 s13.1)], [(0, some (.arr false 1 (M.m Int (eI .i64) s13.2)))], 1⟩) hf (by (conv => lhs; cbv) <;> (try simp only [q]) <;> (try rfl)) ?_
    intro Ik14 k14 s13 hk14 hf e he; subst he
    unfold r07_reached_l1 at hf
    cbv
    refine d_br hS hf (by simp only [q]; try first | rfl | simp [stdCmp, eI, eB, eL, eS, q]) ?_ ?_
    · intro hf; cbv
      refine d_cut hS [] [0, 1, 7, 9, 10] (fun s16 => ⟨tpsL 0 70 [(0, .sl 1 (M.m Int (eI .i64) l) false), (1, .sl 1 (M.m (List Bool) (eL M 1 eB) needs) false), (7, .os 0 0 (S.lenN (M.m Int (eI .i64) s16))), (9, .si .i64 s10.1), (10, .si .i64 s13.1)], [(0, some (.arr false 1 (M.m Int (eI .i64) s16)))], 1⟩) hf ?_ ?_
      · intro Ik17 k17 hk17 hf; cbv
        refine d_cut hS [] [0, 1, 7, 9, 10, 61] (fun s19 => ⟨tpsL 0 70 [(0, .sl 1 (M.m Int (eI .i64) l) false), (1, .sl 1 (M.m (List Bool) (eL M 1 eB) needs) false), (7, .os 0 0 (S.lenN (M.m Int (eI .i64) s13.2))), (9, .si .i64 s10.1), (10, .si .i64 s13.1), (61, .sb s19)], [(0, some (.arr false 1 (M.m Int (eI .i64) s13.2)))], 1⟩) hf ?_ ?_
        · intro Ik20 k20 hk20 hf; cbv
          refine l_order hS (by kernel_rfl) ?_; cbv
          refine d_ix hS hf (by simp only [q]; try first | rfl | simp [stdCmp, eI, eB, eL, eS, q]) rfl ?_
          intro j22 _ hf; cbv
          refine d_row hS hM hf rfl (by simp only [q]; try first | rfl | simp [stdCmp, eI, eB, eL, eS, q]) ?_
          intro x23 hf; cbv
          refine d_idx hS hM hf rfl rfl ?_
          intro x24 hf; cbv
          refine d_call hS hf (fun _ h => c25 hM h) (le_eq rfl) ?_
          intro y25 hf; cbv
          refine d_br hS hf rfl ?_ ?_
          · intro hf; cbv
            refine d_idx hS hM hf rfl rfl ?_
            intro x26 hf; cbv
            refine d_callf hS hf (fun _ h => c26 hM h) (le_eq (by simp only [q]; try first | rfl | simp [stdCmp, eI, eB, eL, eS, q])) (fun _ => rfl) ?_
            intro y27 hf; cbv
            exact ⟨_, hf, by rw [hk20] <;> (conv => lhs; cbv) <;> (try simp only [q]) <;> (try rfl) <;> (try simp only [eL, q]) <;> (try rfl)⟩
          intro hf; cbv
          exact ⟨_, hf, by rw [hk20] <;> (conv => lhs; cbv) <;> (try simp only [q]) <;> (try rfl) <;> (try simp only [eL, q]) <;> (try rfl)⟩
        intro s19 hf; cbv
        refine d_br hS hf rfl ?_ ?_
        · intro hf; cbv
          refine d_idx hS hM hf rfl rfl ?_
          intro x28 hf; cbv
          refine d_room hS hf (by simp only [q]; try first | rfl | simp [stdCmp, eI, eB, eL, eS, q]) ?_
          intro hf; cbv
          exact ⟨_, hf, by rw [hk17] <;> (conv => lhs; cbv) <;> (try simp only [q]) <;> (try rfl) <;> (try simp only [eL, q]) <;> (try rfl)⟩
        intro hf; cbv
        exact ⟨_, hf, by rw [hk17] <;> (conv => lhs; cbv) <;> (try simp only [q]) <;> (try rfl) <;> (try simp only [eL, q]) <;> (try rfl)⟩
      intro s16 hf; cbv
      exact ⟨_, hf, by rw [hk14] <;> (conv => lhs; cbv) <;> (try simp only [q]) <;> (try rfl) <;> (try simp only [eL, q]) <;> (try rfl)⟩
    intro hf; cbv
    exact ⟨_, hf, by rw [hk11] <;> (conv => lhs; cbv) <;> (try simp only [q]) <;> (try rfl) <;> (try simp only [eL, q]) <;> (try rfl)⟩
  intro hf; cbv
  cases hf; exact hR _ (lp_eq (by simp only [q]; try first | rfl | simp [stdCmp, eI, eB, eL, eS, q]))
theorem c24 {M : EncM} (hM : M = mapE) {left : List Int} {r : List Int} (hf : r07_elements left = some r) : Pv.Fn Try.prog glF 24 [.sl 1 (M.m Int (eI .i64) left) false] (fun u => u = .sl 1 (M.m Int (eI .i64) r) false) := by
  refine fn_dec (T := (tabc [9, 10])) (tabcOK [9, 10]) rfl wf Try.func24 rfl Try.call24 rfl ?_
  intro S R hS hR
  have q := sf hM hS
  unfold r07_elements at hf
  cbv
  refine d_loop hS (tabcOK [9, 10]) wf [.tO 3 1] [0, 3, 4] (fun s1 => ⟨tpsL 0 33 [(0, .sl 1 (M.m Int (eI .i64) left) false), (3, .os 0 0 (S.lenN (M.m Int (eI .i64) s1.2))), (4, .si .i64 s1.1)], [(0, some (.arr false 1 (M.m Int (eI .i64) s1.2)))], 1⟩) hf (by (conv => lhs; cbv) <;> (try simp only [q]) <;> (try rfl)) ?_
  intro Ik2 k2 s1 hk2 hf e he; subst he
  unfold r07_elements_l1 at hf
  cbv
  refine d_br hS hf (by simp only [q]; try first | rfl | simp [stdCmp, eI, eB, eL, eS, q]) ?_ ?_
  · intro hf; cbv
    refine d_cut hS [.tO 3 1] [0, 3, 4] (fun s4 => ⟨tpsL 0 33 [(0, .sl 1 (M.m Int (eI .i64) left) false), (3, .os 0 0 (S.lenN (M.m Int (eI .i64) s4))), (4, .si .i64 s1.1)], [(0, some (.arr false 1 (M.m Int (eI .i64) s4)))], 1⟩) hf ?_ ?_
    · intro Ik5 k5 hk5 hf; cbv
      refine d_cut hS [] [0, 3, 4, 24] (fun s7 => ⟨tpsL 0 33 [(0, .sl 1 (M.m Int (eI .i64) left) false), (3, .os 0 0 (S.lenN (M.m Int (eI .i64) s1.2))), (4, .si .i64 s1.1), (24, .sb s7)], [(0, some (.arr false 1 (M.m Int (eI .i64) s1.2)))], 1⟩) hf ?_ ?_
      · intro Ik8 k8 hk8 hf; cbv
        refine d_idx hS hM hf rfl rfl ?_
        intro x10 hf; cbv
        refine d_br hS hf (by simp only [q]; try first | rfl | simp [stdCmp, eI, eB, eL, eS, q]) ?_ ?_
        · intro hf; cbv
          refine d_idx hS hM hf rfl rfl ?_
          intro x11 hf; cbv
          refine d_callL hS hf (fun _ h => c26 hM h) (le_eq (by simp only [q]; try first | rfl | simp [stdCmp, eI, eB, eL, eS, q])) (fun _ => rfl) ?_
          intro y12 hf; cbv
          exact ⟨_, hf, by rw [hk8] <;> (conv => lhs; cbv) <;> (try simp only [q]) <;> (try rfl) <;> (try simp only [eL, q]) <;> (try rfl)⟩
        intro hf; cbv
        exact ⟨_, hf, by rw [hk8] <;> (conv => lhs; cbv) <;> (try simp only [q]) <;> (try rfl) <;> (try simp only [eL, q]) <;> (try rfl)⟩
      intro s7 hf; cbv
      refine d_br hS hf rfl ?_ ?_
      · intro hf; cbv
        refine d_idx hS hM hf rfl rfl ?_
        intro x13 hf; cbv
        refine d_room hS hf (by simp only [q]; try first | rfl | simp [stdCmp, eI, eB, eL, eS, q]) ?_
        intro hf; cbv
        exact ⟨_, hf, by rw [hk5] <;> (conv => lhs; cbv) <;> (try simp only [q]) <;> (try rfl) <;> (try simp only [eL, q]) <;> (try rfl)⟩
      intro hf; cbv
      exact ⟨_, hf, by rw [hk5] <;> (conv => lhs; cbv) <;> (try simp only [q]) <;> (try rfl) <;> (try simp only [eL, q]) <;> (try rfl)⟩
    intro s4 hf; cbv
    exact ⟨_, hf, by rw [hk2] <;> (conv => lhs; cbv) <;> (try simp only [q]) <;> (try rfl) <;> (try simp only [eL, q]) <;> (try rfl)⟩
  intro hf; cbv
  cases hf; exact hR _ (lp_eq (by simp only [q]; try first | rfl | simp [stdCmp, eI, eB, eL, eS, q]))
theorem c35_1 {M : EncM} (hM : M = mapE) {s : List Int} {w1 : Int} {r : Int} (hf : slices_IndexFunc_int s (fun a0 => depend_Order_1 a0 w1) = some r) : Pv.Fn Try.prog glF 35 [.sl 1 (M.m Int (eI .i64) s) false, .fn 31 [.pp [.si .i64 w1]]] (fun u => u = .si .i64 r) := by
  refine fn_dec (T := tab) tabOK rfl wf Try.func35 rfl Try.call35 rfl ?_
  intro S R hS hR
  have q := sf hM hS
  unfold slices_IndexFunc_int at hf
  cbv
  refine d_loop hS tabOK wf [] [0, 1, 7, 8] (fun s1 => ⟨tpsL 0 19 [(0, .sl 1 (M.m Int (eI .i64) s) false), (1, .fn 31 [.pp [.si .i64 w1]]), (7, .si .i64 (S.len (M.m Int (eI .i64) s))), (8, .si .i64 s1)], [], 0⟩) hf (by (conv => lhs; cbv) <;> (try simp only [q]) <;> (try rfl)) ?_
  intro Ik2 k2 s1 hk2 hf e he; subst he
  unfold slices_IndexFunc_int_l1 at hf
  cbv
  refine d_br hS hf (by simp only [q]; try first | rfl | simp [stdCmp, eI, eB, eL, eS, q]) ?_ ?_
  · intro hf; cbv
    refine d_idx hS hM hf rfl rfl ?_
    intro x4 hf; cbv
    refine d_callp hS hf (fun _ h => c31 hM h) (le_eq rfl) ?_
    intro y5 hf; cbv
    refine d_br hS hf rfl ?_ ?_
    · intro hf; cbv
      cases hf; exact hR _ (lp_eq rfl)
    intro hf; cbv
    exact ⟨_, hf, by rw [hk2] <;> (conv => lhs; cbv) <;> (try simp only [q]) <;> (try rfl) <;> (try simp only [eL, q]) <;> (try rfl)⟩
  intro hf; cbv
  cases hf; exact hR _ (lp_eq rfl)
theorem c33 {M : EncM} (hM : M = mapE) {i : Int} {j : Int} {c2 : List Int} {c3 : List (List Bool)} {r : Bool} (hf : depend_leads_1 i j c2 c3 = some r) : Pv.Fn Try.prog glF 33 [.si .i64 i, .si .i64 j, .pp [.sl 1 (M.m Int (eI .i64) c2) false], .pp [.sl 1 (M.m (List Bool) (eL M 1 eB) c3) false]] (fun u => u = .sb r) := by
  refine fn_dec (T := tab) tabOK rfl wf Try.func33 rfl Try.call33 rfl ?_
  intro S R hS hR
  have q := sf hM hS
  unfold depend_leads_1 at hf
  cbv
  refine l_order hS (by kernel_rfl) ?_; cbv
  refine d_call hS hf (fun _ h => c34 hM h) (le_eq rfl) ?_
  intro y1 hf; cbv
  refine d_call hS hf (fun _ h => c34 hM h) (le_eq rfl) ?_
  intro y2 hf; cbv
  refine d_br hS hf (by simp only [q]; try first | rfl | simp [stdCmp, eI, eB, eL, eS, q]) ?_ ?_
  · intro hf; cbv
    refine d_br hS hf (by simp only [q]; try first | rfl | simp [stdCmp, eI, eB, eL, eS, q]) ?_ ?_
    · intro hf; cbv
      refine d_idx hS hM hf rfl rfl ?_
      intro x3 hf; cbv
      refine d_idx hS hM hf rfl rfl ?_
      intro x4 hf; cbv
      cases hf; exact hR _ (lp_eq rfl)
    intro hf; cbv
    cases hf; exact hR _ (lp_eq rfl)
  intro hf; cbv
  cases hf; exact hR _ (lp_eq rfl)
theorem c32 {M : EncM} (hM : M = mapE) {s : List Int} {v : Int} {r : Bool} (hf : slices_Contains_int s v = some r) : Pv.Fn Try.prog glF 32 [.sl 1 (M.m Int (eI .i64) s) false, .si .i64 v] (fun u => u = .sb r) := by
  refine fn_dec (T := tab) tabOK rfl wf Try.func32 rfl Try.call32 rfl ?_
  intro S R hS hR
  have q := sf hM hS
  unfold slices_Contains_int at hf
  cbv
  refine d_callp hS hf (fun _ h => c34 hM h) (le_eq rfl) ?_
  intro y1 hf; cbv
  cases hf; exact hR _ (lp_eq (by simp only [q]; try first | rfl | simp [stdCmp, eI, eB, eL, eS, q]))
end Go.Proofs.Ytjdakjnobladaaa
