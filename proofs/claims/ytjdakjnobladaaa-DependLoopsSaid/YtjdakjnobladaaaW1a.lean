/-
  Functions of this seat as plain functions, each with its walk (written by godec.py).
-/
import Derived.Test.YtjdakjnobladaaaWF
namespace Go.Proofs.Ytjdakjnobladaaa
open Go Go.Pv
set_option linter.all false
set_option linter.unusedVariables false
set_option linter.unusedSimpArgs false
set_option maxRecDepth 100000
set_option maxHeartbeats 2000000
theorem c11 {M : EncM} (hM : M = mapE) {a : List Int} {b : List Int} {r : Bool} (hf : law07_same a b = some r) : Pv.Fn Try.prog glF 11 [.sl 1 (M.m Int (eI .i64) a) false, .sl 1 (M.m Int (eI .i64) b) false] (fun u => u = .sb r) := by
  refine fn_dec (T := tab) tabOK rfl wf Try.func11 rfl Try.call11 rfl ?_
  intro S R hS hR
  have q := sf hM hS
  unfold law07_same at hf
  cbv
  refine d_br hS hf (by simp only [q]; try first | rfl | simp [stdCmp, eI, eB, eL, eS, q]) ?_ ?_
  · intro hf; cbv
    cases hf; exact hR _ (lp_eq rfl)
  intro hf; cbv
  refine d_loop hS tabOK wf [] [0, 1, 12, 13] (fun s1 => ⟨tpsL 0 26 [(0, .sl 1 (M.m Int (eI .i64) a) false), (1, .sl 1 (M.m Int (eI .i64) b) false), (12, .si .i64 (S.len (M.m Int (eI .i64) a))), (13, .si .i64 s1)], [], 0⟩) hf (by (conv => lhs; cbv) <;> (try simp only [q]) <;> (try rfl)) ?_
  intro Ik2 k2 s1 hk2 hf e he; subst he
  unfold law07_same_l1 at hf
  cbv
  refine d_br hS hf (by simp only [q]; try first | rfl | simp [stdCmp, eI, eB, eL, eS, q]) ?_ ?_
  · intro hf; cbv
    refine l_order hS (by kernel_rfl) ?_; cbv
    refine d_idx hS hM hf rfl rfl ?_
    intro x4 hf; cbv
    refine d_idx hS hM hf rfl rfl ?_
    intro x5 hf; cbv
    refine d_br hS hf (by simp only [q]; try first | rfl | simp [stdCmp, eI, eB, eL, eS, q]) ?_ ?_
    · intro hf; cbv
      cases hf; exact hR _ (lp_eq rfl)
    intro hf; cbv
    exact ⟨_, hf, by rw [hk2] <;> (conv => lhs; cbv) <;> (try simp only [q]) <;> (try rfl) <;> (try simp only [eL, q]) <;> (try rfl)⟩
  intro hf; cbv
  cases hf; exact hR _ (lp_eq rfl)
theorem c23 {M : EncM} (hM : M = mapE) {needs : List (List Bool)} {i : Int} {j : Int} {r : Bool} (hf : depend_needed needs i j = some r) : Pv.Fn Try.prog glF 23 [.sl 1 (M.m (List Bool) (eL M 1 eB) needs) false, .si .i64 i, .si .i64 j] (fun u => u = .sb r) := by
  refine fn_dec (T := tab) tabOK rfl wf Try.func23 rfl Try.call23 rfl ?_
  intro S R hS hR
  have q := sf hM hS
  unfold depend_needed at hf
  cbv
  refine d_br hS hf (by simp only [q]; try first | rfl | simp [stdCmp, eI, eB, eL, eS, q]) ?_ ?_
  · intro hf; cbv
    refine d_br hS hf (by simp only [q]; try first | rfl | simp [stdCmp, eI, eB, eL, eS, q]) ?_ ?_
    · intro hf; cbv
      refine d_br hS hf (by simp only [q]; try first | rfl | simp [stdCmp, eI, eB, eL, eS, q]) ?_ ?_
      · intro hf; cbv
        refine d_idx hS hM hf rfl rfl ?_
        intro x1 hf; cbv
        refine d_br hS hf (by simp only [q]; try first | rfl | simp [stdCmp, eI, eB, eL, eS, q]) ?_ ?_
        · intro hf; cbv
          refine d_idx hS hM hf rfl rfl ?_
          intro x2 hf; cbv
          refine d_idx hS hM hf rfl rfl ?_
          intro x3 hf; cbv
          cases hf; exact hR _ (lp_eq rfl)
        intro hf; cbv
        cases hf; exact hR _ (lp_eq rfl)
      intro hf; cbv
      cases hf; exact hR _ (lp_eq rfl)
    intro hf; cbv
    cases hf; exact hR _ (lp_eq rfl)
  intro hf; cbv
  cases hf; exact hR _ (lp_eq rfl)
theorem c18 {M : EncM} (hM : M = mapE) {needs : List (List Bool)} {i : Int} {j : Int} {r : Bool} (hf : law07_need needs i j = some r) : Pv.Fn Try.prog glF 18 [.sl 1 (M.m (List Bool) (eL M 1 eB) needs) false, .si .i64 i, .si .i64 j] (fun u => u = .sb r) := by
  refine fn_dec (T := tab) tabOK rfl wf Try.func18 rfl Try.call18 rfl ?_
  intro S R hS hR
  have q := sf hM hS
  unfold law07_need at hf
  cbv
  refine d_br hS hf (by simp only [q]; try first | rfl | simp [stdCmp, eI, eB, eL, eS, q]) ?_ ?_
  · intro hf; cbv
    refine d_br hS hf (by simp only [q]; try first | rfl | simp [stdCmp, eI, eB, eL, eS, q]) ?_ ?_
    · intro hf; cbv
      refine d_br hS hf (by simp only [q]; try first | rfl | simp [stdCmp, eI, eB, eL, eS, q]) ?_ ?_
      · intro hf; cbv
        refine d_idx hS hM hf rfl rfl ?_
        intro x1 hf; cbv
        refine d_br hS hf (by simp only [q]; try first | rfl | simp [stdCmp, eI, eB, eL, eS, q]) ?_ ?_
        · intro hf; cbv
          refine d_idx hS hM hf rfl rfl ?_
          intro x2 hf; cbv
          refine d_idx hS hM hf rfl rfl ?_
          intro x3 hf; cbv
          cases hf; exact hR _ (lp_eq rfl)
        intro hf; cbv
        cases hf; exact hR _ (lp_eq rfl)
      intro hf; cbv
      cases hf; exact hR _ (lp_eq rfl)
    intro hf; cbv
    cases hf; exact hR _ (lp_eq rfl)
  intro hf; cbv
  cases hf; exact hR _ (lp_eq rfl)
theorem c34 {M : EncM} (hM : M = mapE) {s : List Int} {v : Int} {r : Int} (hf : slices_Index_int s v = some r) : Pv.Fn Try.prog glF 34 [.sl 1 (M.m Int (eI .i64) s) false, .si .i64 v] (fun u => u = .si .i64 r) := by
  refine fn_dec (T := tab) tabOK rfl wf Try.func34 rfl Try.call34 rfl ?_
  intro S R hS hR
  have q := sf hM hS
  unfold slices_Index_int at hf
  cbv
  refine d_loop hS tabOK wf [] [0, 1, 7, 8] (fun s1 => ⟨tpsL 0 19 [(0, .sl 1 (M.m Int (eI .i64) s) false), (1, .si .i64 v), (7, .si .i64 (S.len (M.m Int (eI .i64) s))), (8, .si .i64 s1)], [], 0⟩) hf (by (conv => lhs; cbv) <;> (try simp only [q]) <;> (try rfl)) ?_
  intro Ik2 k2 s1 hk2 hf e he; subst he
  unfold slices_Index_int_l1 at hf
  cbv
  refine d_br hS hf (by simp only [q]; try first | rfl | simp [stdCmp, eI, eB, eL, eS, q]) ?_ ?_
  · intro hf; cbv
    refine d_idx hS hM hf rfl rfl ?_
    intro x4 hf; cbv
    refine d_br hS hf (by simp only [q]; try first | rfl | simp [stdCmp, eI, eB, eL, eS, q]) ?_ ?_
    · intro hf; cbv
      cases hf; exact hR _ (lp_eq rfl)
    intro hf; cbv
    exact ⟨_, hf, by rw [hk2] <;> (conv => lhs; cbv) <;> (try simp only [q]) <;> (try rfl) <;> (try simp only [eL, q]) <;> (try rfl)⟩
  intro hf; cbv
  cases hf; exact hR _ (lp_eq rfl)
theorem c26 {M : EncM} (hM : M = mapE) {l : List Int} {i : Int} {r : Bool} (hf : r07_has l i = some r) : Pv.Fn Try.prog glF 26 [.sl 1 (M.m Int (eI .i64) l) false, .si .i64 i] (fun u => u = .sb r) := by
  refine fn_dec (T := tab) tabOK rfl wf Try.func26 rfl Try.call26 rfl ?_
  intro S R hS hR
  have q := sf hM hS
  unfold r07_has at hf
  cbv
  refine d_loop hS tabOK wf [] [0, 1, 5] (fun s1 => ⟨tpsL 0 18 [(0, .sl 1 (M.m Int (eI .i64) l) false), (1, .si .i64 i), (5, .si .i64 s1)], [], 0⟩) hf (by (conv => lhs; cbv) <;> (try simp only [q]) <;> (try rfl)) ?_
  intro Ik2 k2 s1 hk2 hf e he; subst he
  unfold r07_has_l1 at hf
  cbv
  refine d_br hS hf (by simp only [q]; try first | rfl | simp [stdCmp, eI, eB, eL, eS, q]) ?_ ?_
  · intro hf; cbv
    refine d_idx hS hM hf rfl rfl ?_
    intro x4 hf; cbv
    refine d_br hS hf (by simp only [q]; try first | rfl | simp [stdCmp, eI, eB, eL, eS, q]) ?_ ?_
    · intro hf; cbv
      cases hf; exact hR _ (lp_eq rfl)
    intro hf; cbv
    exact ⟨_, hf, by rw [hk2] <;> (conv => lhs; cbv) <;> (try simp only [q]) <;> (try rfl) <;> (try simp only [eL, q]) <;> (try rfl)⟩
  intro hf; cbv
  cases hf; exact hR _ (lp_eq rfl)
theorem c25 {M : EncM} (hM : M = mapE) {needs : List (List Bool)} {i : Int} {j : Int} {r : Bool} (hf : r07_need needs i j = some r) : Pv.Fn Try.prog glF 25 [.sl 1 (M.m (List Bool) (eL M 1 eB) needs) false, .si .i64 i, .si .i64 j] (fun u => u = .sb r) := by
  refine fn_dec (T := tab) tabOK rfl wf Try.func25 rfl Try.call25 rfl ?_
  intro S R hS hR
  have q := sf hM hS
  unfold r07_need at hf
  cbv
  refine d_br hS hf (by simp only [q]; try first | rfl | simp [stdCmp, eI, eB, eL, eS, q]) ?_ ?_
  · intro hf; cbv
    refine d_idx hS hM hf rfl rfl ?_
    intro x1 hf; cbv
    refine d_br hS hf (by simp only [q]; try first | rfl | simp [stdCmp, eI, eB, eL, eS, q]) ?_ ?_
    · intro hf; cbv
      refine d_idx hS hM hf rfl rfl ?_
      intro x2 hf; cbv
      refine d_idx hS hM hf rfl rfl ?_
      intro x3 hf; cbv
      cases hf; exact hR _ (lp_eq rfl)
    intro hf; cbv
    cases hf; exact hR _ (lp_eq rfl)
  intro hf; cbv
  cases hf; exact hR _ (lp_eq rfl)
theorem c28 {M : EncM} (hM : M = mapE) {stamps : List Int} {i : Int} {r : Int} (hf : depend_stamp stamps i = some r) : Pv.Fn Try.prog glF 28 [.sl 1 (M.m Int (eI .i64) stamps) false, .si .i64 i] (fun u => u = .si .i64 r) := by
  refine fn_dec (T := tab) tabOK rfl wf Try.func28 rfl Try.call28 rfl ?_
  intro S R hS hR
  have q := sf hM hS
  unfold depend_stamp at hf
  cbv
  refine d_br hS hf (by simp only [q]; try first | rfl | simp [stdCmp, eI, eB, eL, eS, q]) ?_ ?_
  · intro hf; cbv
    refine d_idx hS hM hf rfl rfl ?_
    intro x1 hf; cbv
    cases hf; exact hR _ (lp_eq rfl)
  intro hf; cbv
  cases hf; exact hR _ (lp_eq rfl)
theorem c29 {M : EncM} (hM : M = mapE) {stamps : List Int} {i : Int} {r : Int} (hf : r07_stamp stamps i = some r) : Pv.Fn Try.prog glF 29 [.sl 1 (M.m Int (eI .i64) stamps) false, .si .i64 i] (fun u => u = .si .i64 r) := by
  refine fn_dec (T := tab) tabOK rfl wf Try.func29 rfl Try.call29 rfl ?_
  intro S R hS hR
  have q := sf hM hS
  unfold r07_stamp at hf
  cbv
  refine d_br hS hf (by simp only [q]; try first | rfl | simp [stdCmp, eI, eB, eL, eS, q]) ?_ ?_
  · intro hf; cbv
    refine d_idx hS hM hf rfl rfl ?_
    intro x1 hf; cbv
    cases hf; exact hR _ (lp_eq rfl)
  intro hf; cbv
  cases hf; exact hR _ (lp_eq rfl)
theorem c31 {M : EncM} (hM : M = mapE) {j : Int} {c1 : Int} {r : Bool} (hf : depend_Order_1 j c1 = some r) : Pv.Fn Try.prog glF 31 [.si .i64 j, .pp [.si .i64 c1]] (fun u => u = .sb r) := by
  refine fn_dec (T := tab) tabOK rfl wf Try.func31 rfl Try.call31 rfl ?_
  intro S R hS hR
  have q := sf hM hS
  unfold depend_Order_1 at hf
  cbv
  cases hf; exact hR _ (lp_eq (by simp only [q]; try first | rfl | simp [stdCmp, eI, eB, eL, eS, q]))
theorem c9 {M : EncM} (hM : M = mapE) {n : Int} {r : Bool} (hf : law07_few n = some r) : Pv.Fn Try.prog glF 9 [.si .i64 n] (fun u => u = .sb r) := by
  refine fn_dec (T := tab) tabOK rfl wf Try.func9 rfl Try.call9 rfl ?_
  intro S R hS hR
  have q := sf hM hS
  unfold law07_few at hf
  cbv
  cases hf; exact hR _ (lp_eq (by simp only [q]; try first | rfl | simp [stdCmp, eI, eB, eL, eS, q]))
end Go.Proofs.Ytjdakjnobladaaa
