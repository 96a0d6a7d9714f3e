/-
  Functions of this seat as plain functions, each with its walk (written by godec.py).
-/
import Derived.Test.YtlelpgnmmbbfaaaWF
namespace Go.Proofs.Ytlelpgnmmbbfaaa
open Go Go.Pv
set_option linter.all false
set_option linter.unusedVariables false
set_option linter.unusedSimpArgs false
set_option maxRecDepth 100000
set_option maxHeartbeats 2000000
theorem c33 {M : EncM} (hM : M = mapE) {c : GChoice} {r : Bool} (hf : ask_Forced c = some r) : Pv.Fn Try.prog glF 33 [.agg (eGChoice M c)] (fun u => u = .sb r) := by
  refine fn_dec (T := tab) tabOK rfl wf Try.func33 rfl Try.call33 rfl ?_
  intro S R hS hR
  have q := sf hM hS
  unfold ask_Forced at hf
  cbv
  refine d_br hS hf (by simp only [q]; try first | rfl | simp [stdCmp, eI, eB, eL, eS, q]) ?_ ?_
  · intro hf; cbv
    cases hf; exact hR _ (lp_eq (by simp only [q]; try first | rfl | simp [stdCmp, eI, eB, eL, eS, q]))
  intro hf; cbv
  refine d_br hS hf (by simp only [q]; try first | rfl | simp [stdCmp, eI, eB, eL, eS, q]) ?_ ?_
  · intro hf; cbv
    cases hf; exact hR _ (lp_eq (by simp only [q]; try first | rfl | simp [stdCmp, eI, eB, eL, eS, q]))
  intro hf; cbv
  refine d_br hS hf (by simp only [q]; try first | rfl | simp [stdCmp, eI, eB, eL, eS, q]) ?_ ?_
  · intro hf; cbv
    cases hf; exact hR _ (lp_eq (by simp only [q]; try first | rfl | simp [stdCmp, eI, eB, eL, eS, q]))
  intro hf; cbv
  refine d_br hS hf (by simp only [q]; try first | rfl | simp [stdCmp, eI, eB, eL, eS, q]) ?_ ?_
  · intro hf; cbv
    cases hf; exact hR _ (lp_eq (by simp only [q]; try first | rfl | simp [stdCmp, eI, eB, eL, eS, q]))
  intro hf; cbv
  refine d_br hS hf (by simp only [q]; try first | rfl | simp [stdCmp, eI, eB, eL, eS, q]) ?_ ?_
  · intro hf; cbv
    cases hf; exact hR _ (lp_eq (by simp only [q]; try first | rfl | simp [stdCmp, eI, eB, eL, eS, q]))
  intro hf; cbv
  refine d_br hS hf (by simp only [q]; try first | rfl | simp [stdCmp, eI, eB, eL, eS, q]) ?_ ?_
  · intro hf; cbv
    cases hf; exact hR _ (lp_eq (by simp only [q]; try first | rfl | simp [stdCmp, eI, eB, eL, eS, q]))
  intro hf; cbv
  refine d_br hS hf (by simp only [q]; try first | rfl | simp [stdCmp, eI, eB, eL, eS, q]) ?_ ?_
  · intro hf; cbv
    cases hf; exact hR _ (lp_eq (by simp only [q]; try first | rfl | simp [stdCmp, eI, eB, eL, eS, q]))
  intro hf; cbv
  refine d_br hS hf (by simp only [q]; try first | rfl | simp [stdCmp, eI, eB, eL, eS, q]) ?_ ?_
  · intro hf; cbv
    cases hf; exact hR _ (lp_eq (by simp only [q]; try first | rfl | simp [stdCmp, eI, eB, eL, eS, q]))
  intro hf; cbv
  refine d_br hS hf (by simp only [q]; try first | rfl | simp [stdCmp, eI, eB, eL, eS, q]) ?_ ?_
  · intro hf; cbv
    cases hf; exact hR _ (lp_eq (by simp only [q]; try first | rfl | simp [stdCmp, eI, eB, eL, eS, q]))
  intro hf; cbv
  refine d_br hS hf (by simp only [q]; try first | rfl | simp [stdCmp, eI, eB, eL, eS, q]) ?_ ?_
  · intro hf; cbv
    refine d_br hS hf (by simp only [q]; try first | rfl | simp [stdCmp, eI, eB, eL, eS, q]) ?_ ?_
    · intro hf; cbv
      refine d_br hS hf (by simp only [q]; try first | rfl | simp [stdCmp, eI, eB, eL, eS, q]) ?_ ?_
      · intro hf; cbv
        cases hf; exact hR _ (lp_eq rfl)
      intro hf; cbv
      cases hf; exact hR _ (lp_eq (by simp only [q]; try first | rfl | simp [stdCmp, eI, eB, eL, eS, q]))
    intro hf; cbv
    cases hf; exact hR _ (lp_eq rfl)
  intro hf; cbv
  refine d_br hS hf (by simp only [q]; try first | rfl | simp [stdCmp, eI, eB, eL, eS, q]) ?_ ?_
  · intro hf; cbv
    cases hf; exact hR _ (lp_eq (by simp only [q]; try first | rfl | simp [stdCmp, eI, eB, eL, eS, q]))
  intro hf; cbv
  cases hf; exact hR _ (lp_eq rfl)
theorem c38 {M : EncM} (hM : M = mapE) {p : Arr6 Int} {r : Bool} (hf : mana_Whole p = some r) : Pv.Fn Try.prog glF 38 [.agg [.si .i64 p.a0, .si .i64 p.a1, .si .i64 p.a2, .si .i64 p.a3, .si .i64 p.a4, .si .i64 p.a5]] (fun u => u = .sb r) := by
  refine fn_dec (T := (tabc [4, 6, 8])) (tabcOK [4, 6, 8]) rfl wf Try.func38 rfl Try.call38 rfl ?_
  intro S R hS hR
  have q := sf hM hS
  unfold mana_Whole at hf
  cbv
  refine d_loop hS (tabcOK [4, 6, 8]) wf [] [5, 6] (fun s1 => ⟨tpsL 0 16 [(5, .agg [.si .i64 p.a0, .si .i64 p.a1, .si .i64 p.a2, .si .i64 p.a3, .si .i64 p.a4, .si .i64 p.a5]), (6, .si .i64 s1)], [], 0⟩) hf (by (conv => lhs; cbv) <;> (try simp only [q]) <;> (try rfl)) ?_
  intro Ik2 k2 s1 hk2 hf e he; subst he
  unfold mana_Whole_l1 at hf
  cbv
  refine l_seq hS ?_; cbv
  refine d_br hS hf (by simp only [q]; try first | rfl | simp [stdCmp, eI, eB, eL, eS, q]) ?_ ?_
  · intro hf; cbv
    refine d_cut hS [] [4, 5, 6] (fun s4 => ⟨tpsL 0 16 [(4, .si .i64 s4), (5, .agg [.si .i64 p.a0, .si .i64 p.a1, .si .i64 p.a2, .si .i64 p.a3, .si .i64 p.a4, .si .i64 p.a5]), (6, .si .i64 s1)], [], 0⟩) hf ?_ ?_
    · intro Ik5 k5 hk5 hf; cbv
      obtain ⟨j7, hj7, ej7, hf⟩ := d_cases hf
      refine d_ixa hS rfl ⟨j7, hj7, ej7, ?_⟩
      rcases lt6 hj7 with rfl | rfl | rfl | rfl | rfl | rfl
      · cbv
        exact ⟨_, hf, by rw [hk5] <;> (conv => lhs; cbv) <;> (try simp only [q]) <;> (try rfl) <;> (try simp only [eL, q]) <;> (try rfl)⟩
      · cbv
        exact ⟨_, hf, by rw [hk5] <;> (conv => lhs; cbv) <;> (try simp only [q]) <;> (try rfl) <;> (try simp only [eL, q]) <;> (try rfl)⟩
      · cbv
        exact ⟨_, hf, by rw [hk5] <;> (conv => lhs; cbv) <;> (try simp only [q]) <;> (try rfl) <;> (try simp only [eL, q]) <;> (try rfl)⟩
      · cbv
        exact ⟨_, hf, by rw [hk5] <;> (conv => lhs; cbv) <;> (try simp only [q]) <;> (try rfl) <;> (try simp only [eL, q]) <;> (try rfl)⟩
      · cbv
        exact ⟨_, hf, by rw [hk5] <;> (conv => lhs; cbv) <;> (try simp only [q]) <;> (try rfl) <;> (try simp only [eL, q]) <;> (try rfl)⟩
      cbv
      exact ⟨_, hf, by rw [hk5] <;> (conv => lhs; cbv) <;> (try simp only [q]) <;> (try rfl) <;> (try simp only [eL, q]) <;> (try rfl)⟩
    intro s4 hf; cbv
    refine d_cut hS [] [5, 6, 14] (fun s8 => ⟨tpsL 0 16 [(5, .agg [.si .i64 p.a0, .si .i64 p.a1, .si .i64 p.a2, .si .i64 p.a3, .si .i64 p.a4, .si .i64 p.a5]), (6, .si .i64 s1), (14, .sb s8)], [], 0⟩) hf ?_ ?_
    · intro Ik9 k9 hk9 hf; cbv
      refine d_br hS hf (by simp only [q]; try first | rfl | simp [stdCmp, eI, eB, eL, eS, q]) ?_ ?_
      · intro hf; cbv
        exact ⟨_, hf, by rw [hk9] <;> (conv => lhs; cbv) <;> (try simp only [q]) <;> (try rfl) <;> (try simp only [eL, q]) <;> (try rfl)⟩
      intro hf; cbv
      exact ⟨_, hf, by rw [hk9] <;> (conv => lhs; cbv) <;> (try simp only [q]) <;> (try rfl) <;> (try simp only [eL, q]) <;> (try rfl)⟩
    intro s8 hf; cbv
    refine d_br hS hf rfl ?_ ?_
    · intro hf; cbv
      cases hf; exact hR _ (lp_eq rfl)
    intro hf; cbv
    exact ⟨_, hf, by rw [hk2] <;> (conv => lhs; cbv) <;> (try simp only [q]) <;> (try rfl) <;> (try simp only [eL, q]) <;> (try rfl)⟩
  intro hf; cbv
  cases hf; exact hR _ (lp_eq rfl)
theorem c50 {M : EncM} (hM : M = mapE) {c : GChoice} {a : List Int} {r : Bool} (hf : ask_assigned c a = some r) : Pv.Fn Try.prog glF 50 [.agg (eGChoice M c), .sl 1 (M.m Int (eI .i64) a) false] (fun u => u = .sb r) := by
  refine fn_dec (T := (tabc [10])) (tabcOK [10]) rfl wf Try.func50 rfl Try.call50 rfl ?_
  intro S R hS hR
  have q := sf hM hS
  unfold ask_assigned at hf
  cbv
  refine d_loop hS (tabcOK [10]) wf [] [1, 2, 5, 8, 9, 10] (fun s1 => ⟨tpsL 0 36 [(1, .sl 1 (M.m Int (eI .i64) a) false), (2, .lv 0 0), (5, .si .i64 s1.1), (8, .sl 1 (M.m Int (eI .i64) a) false), (9, .si .i64 (S.len (M.m Int (eI .i64) a))), (10, .si .i64 s1.2)], [(0, some (.var false (eGChoice M c)))], 1⟩) hf (by (conv => lhs; cbv) <;> (try simp only [q]) <;> (try rfl)) ?_
  intro Ik2 k2 s1 hk2 hf e he; subst he
  unfold ask_assigned_l1 at hf
  cbv
  refine d_br hS hf (by simp only [q]; try first | rfl | simp [stdCmp, eI, eB, eL, eS, q]) ?_ ?_
  · intro hf; cbv
    refine d_idx hS hM hf rfl rfl ?_
    intro x4 hf; cbv
    refine d_cut hS [] [1, 2, 5, 7, 8, 9, 10, 19] (fun s5 => ⟨tpsL 0 36 [(1, .sl 1 (M.m Int (eI .i64) a) false), (2, .lv 0 0), (5, .si .i64 s1.1), (7, .si .i64 x4), (8, .sl 1 (M.m Int (eI .i64) a) false), (9, .si .i64 (S.len (M.m Int (eI .i64) a))), (10, .si .i64 s1.2), (19, .sb s5)], [(0, some (.var false (eGChoice M c)))], 1⟩) hf ?_ ?_
    · intro Ik6 k6 hk6 hf; cbv
      refine d_br hS hf (by simp only [q]; try first | rfl | simp [stdCmp, eI, eB, eL, eS, q]) ?_ ?_
      · intro hf; cbv
        exact ⟨_, hf, by rw [hk6] <;> (conv => lhs; cbv) <;> (try simp only [q]) <;> (try rfl) <;> (try simp only [eL, q]) <;> (try rfl)⟩
      intro hf; cbv
      exact ⟨_, hf, by rw [hk6] <;> (conv => lhs; cbv) <;> (try simp only [q]) <;> (try rfl) <;> (try simp only [eL, q]) <;> (try rfl)⟩
    intro s5 hf; cbv
    refine d_br hS hf rfl ?_ ?_
    · intro hf; cbv
      cases hf; exact hR _ (lp_eq rfl)
    intro hf; cbv
    exact ⟨_, hf, by rw [hk2] <;> (conv => lhs; cbv) <;> (try simp only [q]) <;> (try rfl) <;> (try simp only [eL, q]) <;> (try rfl)⟩
  intro hf; cbv
  refine d_br hS hf (by simp only [q]; try first | rfl | simp [stdCmp, eI, eB, eL, eS, q]) ?_ ?_
  · intro hf; cbv
    cases hf; exact hR _ (lp_eq (by simp only [q]; try first | rfl | simp [stdCmp, eI, eB, eL, eS, q]))
  intro hf; cbv
  cases hf; exact hR _ (lp_eq rfl)
theorem c57 {M : EncM} (hM : M = mapE) {s : List Int} {v : Int} {r : Int} (hf : slices_Index_int s v = some r) : Pv.Fn Try.prog glF 57 [.sl 1 (M.m Int (eI .i64) s) false, .si .i64 v] (fun u => u = .si .i64 r) := by
  refine fn_dec (T := tab) tabOK rfl wf Try.func57 rfl Try.call57 rfl ?_
  intro S R hS hR
  have q := sf hM hS
  unfold slices_Index_int at hf
  cbv
  refine d_loop hS tabOK wf [] [0, 1, 7, 8] (fun s1 => ⟨tpsL 0 19 [(0, .sl 1 (M.m Int (eI .i64) s) false), (1, .si .i64 v), (7, .si .i64 (S.len (M.m Int (eI .i64) s))), (8, .si .i64 s1)], [], 0⟩) hf (by (conv => lhs; cbv) <;> (try simp only [q]) <;> (try rfl)) ?_
  intro Ik2 k2 s1 hk2 hf e he; subst he
  unfold slices_Index_int_l1 at hf
  cbv
  refine d_br hS hf (by simp only [q]; try first | rfl | simp [stdCmp, eI, eB, eL, eS, q]) ?_ ?_
  · intro hf; cbv
    refine d_idx hS hM hf rfl rfl ?_
    intro x4 hf; cbv
    refine d_br hS hf (by simp only [q]; try first | rfl | simp [stdCmp, eI, eB, eL, eS, q]) ?_ ?_
    · intro hf; cbv
      cases hf; exact hR _ (lp_eq rfl)
    intro hf; cbv
    exact ⟨_, hf, by rw [hk2] <;> (conv => lhs; cbv) <;> (try simp only [q]) <;> (try rfl) <;> (try simp only [eL, q]) <;> (try rfl)⟩
  intro hf; cbv
  cases hf; exact hR _ (lp_eq rfl)
theorem c47 {M : EncM} (hM : M = mapE) {n : Int} {r : List Int} (hf : ask_first n = some r) : Pv.Fn Try.prog glF 47 [.si .i64 n] (fun u => u = .sl 1 (M.m Int (eI .i64) r) false) := by
  refine fn_dec (T := tab) tabOK rfl wf Try.func47 rfl Try.call47 rfl ?_
  intro S R hS hR
  have q := sf hM hS
  unfold ask_first at hf
  cbv
  refine d_loop hS tabOK wf [.tO 3 1] [3, 5, 6] (fun s1 => ⟨tpsL 0 15 [(3, .os 0 0 (S.lenN (M.m Int (eI .i64) s1.2))), (5, .si .i64 n), (6, .si .i64 s1.1)], [(0, some (.arr false 1 (M.m Int (eI .i64) s1.2)))], 1⟩) hf (by (conv => lhs; cbv) <;> (try simp only [q]) <;> (try rfl)) ?_
  intro Ik2 k2 s1 hk2 hf e he; subst he
  unfold ask_first_l1 at hf
  cbv
  refine d_br hS hf (by simp only [q]; try first | rfl | simp [stdCmp, eI, eB, eL, eS, q]) ?_ ?_
  · intro hf; cbv
    refine d_room hS hf (by simp only [q]; try first | rfl | simp [stdCmp, eI, eB, eL, eS, q]) ?_
    intro hf; cbv
    exact ⟨_, hf, by rw [hk2] <;> (conv => lhs; cbv) <;> (try simp only [q]) <;> (try rfl) <;> (try simp only [eL, q]) <;> (try rfl)⟩
  intro hf; cbv
  cases hf; exact hR _ (lp_eq (by simp only [q]; try first | rfl | simp [stdCmp, eI, eB, eL, eS, q]))
theorem o30 {M : EncM} (hM : M = mapE) {s : List GWaiting} {r : List GWaiting} (hf : slices_Clone_waiting s = some r) : Pv.FnS Try.prog glF 30 [.sl 89 (M.m GWaiting (eGWaiting M) s) false] [] 0 (fun u s n => u = .os 0 0 (M.n GWaiting r) ∧ s = [(0, some (.arr false 89 (M.m GWaiting (eGWaiting M) r)))] ∧ n = 1) := by
  refine fnS_dec (T := (tabx 0 [] [[(89, true)]])) (tabxOK 0 [] [[(89, true)]]) wf Try.func30 rfl Try.call30 rfl ?_
  intro S R hS hR
  have q := sf hM hS
  unfold slices_Clone_waiting at hf
  cbv
  refine d_nil hS hM hf rfl (by intro h; subst h; exact fun h => h) ?_ ?_
  · intro hf; cbv
    cases hf; exact hR _ _ _ (by (try simp only [q]); repeat' constructor) (by (try simp only [q]); repeat' constructor) rfl
  intro hf; cbv
  refine d_room hS hf (by simp only [q]; try first | rfl | simp [stdCmp, eI, eB, eL, eS, q]) ?_
  intro hf; cbv
  cases hf; exact hR _ _ _ (by (try simp only [q]); repeat' constructor) (by (try simp only [q]); repeat' constructor) rfl
theorem o23 {M : EncM} (hM : M = mapE) {s : List GPlayer} {r : List GPlayer} (hf : slices_Clone_player s = some r) : Pv.FnS Try.prog glF 23 [.sl 14 (M.m GPlayer (eGPlayer M) s) false] [] 0 (fun u s n => u = .os 0 0 (M.n GPlayer r) ∧ s = [(0, some (.arr false 14 (M.m GPlayer (eGPlayer M) r)))] ∧ n = 1) := by
  refine fnS_dec (T := (tabx 0 [] [[(14, true)]])) (tabxOK 0 [] [[(14, true)]]) wf Try.func23 rfl Try.call23 rfl ?_
  intro S R hS hR
  have q := sf hM hS
  unfold slices_Clone_player at hf
  cbv
  refine d_nil hS hM hf rfl (by intro h; subst h; exact fun h => h) ?_ ?_
  · intro hf; cbv
    cases hf; exact hR _ _ _ (by (try simp only [q]); repeat' constructor) (by (try simp only [q]); repeat' constructor) rfl
  intro hf; cbv
  refine d_room hS hf (by simp only [q]; try first | rfl | simp [stdCmp, eI, eB, eL, eS, q]) ?_
  intro hf; cbv
  cases hf; exact hR _ _ _ (by (try simp only [q]); repeat' constructor) (by (try simp only [q]); repeat' constructor) rfl
theorem o25 {M : EncM} (hM : M = mapE) {s : List GObject} {r : List GObject} (hf : slices_Clone_object s = some r) : Pv.FnS Try.prog glF 25 [.sl 19 (M.m GObject (eGObject M) s) false] [] 0 (fun u s n => u = .os 0 0 (M.n GObject r) ∧ s = [(0, some (.arr false 19 (M.m GObject (eGObject M) r)))] ∧ n = 1) := by
  refine fnS_dec (T := (tabx 0 [] [[(19, true)]])) (tabxOK 0 [] [[(19, true)]]) wf Try.func25 rfl Try.call25 rfl ?_
  intro S R hS hR
  have q := sf hM hS
  unfold slices_Clone_object at hf
  cbv
  refine d_nil hS hM hf rfl (by intro h; subst h; exact fun h => h) ?_ ?_
  · intro hf; cbv
    cases hf; exact hR _ _ _ (by (try simp only [q]); repeat' constructor) (by (try simp only [q]); repeat' constructor) rfl
  intro hf; cbv
  refine d_room hS hf (by simp only [q]; try first | rfl | simp [stdCmp, eI, eB, eL, eS, q]) ?_
  intro hf; cbv
  cases hf; exact hR _ _ _ (by (try simp only [q]); repeat' constructor) (by (try simp only [q]); repeat' constructor) rfl
theorem o46 {M : EncM} (hM : M = mapE) {s : List GEffect} {r : List GEffect} (hf : slices_Clone_effect s = some r) : Pv.FnS Try.prog glF 46 [.sl 64 (M.m GEffect (eGEffect M) s) false] [] 0 (fun u s n => u = .os 0 0 (M.n GEffect r) ∧ s = [(0, some (.arr false 64 (M.m GEffect (eGEffect M) r)))] ∧ n = 1) := by
  refine fnS_dec (T := (tabx 0 [] [[(64, true)]])) (tabxOK 0 [] [[(64, true)]]) wf Try.func46 rfl Try.call46 rfl ?_
  intro S R hS hR
  have q := sf hM hS
  unfold slices_Clone_effect at hf
  cbv
  refine d_nil hS hM hf rfl (by intro h; subst h; exact fun h => h) ?_ ?_
  · intro hf; cbv
    cases hf; exact hR _ _ _ (by (try simp only [q]); repeat' constructor) (by (try simp only [q]); repeat' constructor) rfl
  intro hf; cbv
  refine d_room hS hf (by simp only [q]; try first | rfl | simp [stdCmp, eI, eB, eL, eS, q]) ?_
  intro hf; cbv
  cases hf; exact hR _ _ _ (by (try simp only [q]); repeat' constructor) (by (try simp only [q]); repeat' constructor) rfl
theorem o27 {M : EncM} (hM : M = mapE) {s : List GItem} {r : List GItem} (hf : slices_Clone_item s = some r) : Pv.FnS Try.prog glF 27 [.sl 94 (M.m GItem (eGItem M) s) false] [] 0 (fun u s n => u = .os 0 0 (M.n GItem r) ∧ s = [(0, some (.arr false 94 (M.m GItem (eGItem M) r)))] ∧ n = 1) := by
  refine fnS_dec (T := (tabx 0 [] [[(94, true)]])) (tabxOK 0 [] [[(94, true)]]) wf Try.func27 rfl Try.call27 rfl ?_
  intro S R hS hR
  have q := sf hM hS
  unfold slices_Clone_item at hf
  cbv
  refine d_nil hS hM hf rfl (by intro h; subst h; exact fun h => h) ?_ ?_
  · intro hf; cbv
    cases hf; exact hR _ _ _ (by (try simp only [q]); repeat' constructor) (by (try simp only [q]); repeat' constructor) rfl
  intro hf; cbv
  refine d_room hS hf (by simp only [q]; try first | rfl | simp [stdCmp, eI, eB, eL, eS, q]) ?_
  intro hf; cbv
  cases hf; exact hR _ _ _ (by (try simp only [q]); repeat' constructor) (by (try simp only [q]); repeat' constructor) rfl
theorem o45 {M : EncM} (hM : M = mapE) {s : List GSpec} {r : List GSpec} (hf : slices_Clone_spec s = some r) : Pv.FnS Try.prog glF 45 [.sl 18 (M.m GSpec (eGSpec M) s) false] [] 0 (fun u s n => u = .os 0 0 (M.n GSpec r) ∧ s = [(0, some (.arr false 18 (M.m GSpec (eGSpec M) r)))] ∧ n = 1) := by
  refine fnS_dec (T := (tabx 0 [] [[(18, true)]])) (tabxOK 0 [] [[(18, true)]]) wf Try.func45 rfl Try.call45 rfl ?_
  intro S R hS hR
  have q := sf hM hS
  unfold slices_Clone_spec at hf
  cbv
  refine d_nil hS hM hf rfl (by intro h; subst h; exact fun h => h) ?_ ?_
  · intro hf; cbv
    cases hf; exact hR _ _ _ (by (try simp only [q]); repeat' constructor) (by (try simp only [q]); repeat' constructor) rfl
  intro hf; cbv
  refine d_room hS hf (by simp only [q]; try first | rfl | simp [stdCmp, eI, eB, eL, eS, q]) ?_
  intro hf; cbv
  cases hf; exact hR _ _ _ (by (try simp only [q]); repeat' constructor) (by (try simp only [q]); repeat' constructor) rfl
theorem o31 {M : EncM} (hM : M = mapE) {s : List GCont} {r : List GCont} (hf : slices_Clone_cont s = some r) : Pv.FnS Try.prog glF 31 [.sl 6 (M.m GCont (eGCont M) s) false] [] 0 (fun u s n => u = .os 0 0 (M.n GCont r) ∧ s = [(0, some (.arr false 6 (M.m GCont (eGCont M) r)))] ∧ n = 1) := by
  refine fnS_dec (T := (tabx 0 [] [[(6, true)]])) (tabxOK 0 [] [[(6, true)]]) wf Try.func31 rfl Try.call31 rfl ?_
  intro S R hS hR
  have q := sf hM hS
  unfold slices_Clone_cont at hf
  cbv
  refine d_nil hS hM hf rfl (by intro h; subst h; exact fun h => h) ?_ ?_
  · intro hf; cbv
    cases hf; exact hR _ _ _ (by (try simp only [q]); repeat' constructor) (by (try simp only [q]); repeat' constructor) rfl
  intro hf; cbv
  refine d_room hS hf (by simp only [q]; try first | rfl | simp [stdCmp, eI, eB, eL, eS, q]) ?_
  intro hf; cbv
  cases hf; exact hR _ _ _ (by (try simp only [q]); repeat' constructor) (by (try simp only [q]); repeat' constructor) rfl
theorem o32 {M : EncM} (hM : M = mapE) {s : List GMod} {r : List GMod} (hf : slices_Clone_mod s = some r) : Pv.FnS Try.prog glF 32 [.sl 20 (M.m GMod (eGMod M) s) false] [] 0 (fun u s n => u = .os 0 0 (M.n GMod r) ∧ s = [(0, some (.arr false 20 (M.m GMod (eGMod M) r)))] ∧ n = 1) := by
  refine fnS_dec (T := (tabx 0 [] [[(20, true)]])) (tabxOK 0 [] [[(20, true)]]) wf Try.func32 rfl Try.call32 rfl ?_
  intro S R hS hR
  have q := sf hM hS
  unfold slices_Clone_mod at hf
  cbv
  refine d_nil hS hM hf rfl (by intro h; subst h; exact fun h => h) ?_ ?_
  · intro hf; cbv
    cases hf; exact hR _ _ _ (by (try simp only [q]); repeat' constructor) (by (try simp only [q]); repeat' constructor) rfl
  intro hf; cbv
  refine d_room hS hf (by simp only [q]; try first | rfl | simp [stdCmp, eI, eB, eL, eS, q]) ?_
  intro hf; cbv
  cases hf; exact hR _ _ _ (by (try simp only [q]); repeat' constructor) (by (try simp only [q]); repeat' constructor) rfl
theorem o26 {M : EncM} (hM : M = mapE) {s : List Int} {r : List Int} (hf : slices_Clone_int s = some r) : Pv.FnS Try.prog glF 26 [.sl 1 (M.m Int (eI .i64) s) false] [] 0 (fun u s n => u = .os 0 0 (M.n Int r) ∧ s = [(0, some (.arr false 1 (M.m Int (eI .i64) r)))] ∧ n = 1) := by
  refine fnS_dec (T := (tabx 0 [] [[(1, true)]])) (tabxOK 0 [] [[(1, true)]]) wf Try.func26 rfl Try.call26 rfl ?_
  intro S R hS hR
  have q := sf hM hS
  unfold slices_Clone_int at hf
  cbv
  refine d_nil hS hM hf rfl (by intro h; subst h; exact fun h => h) ?_ ?_
  · intro hf; cbv
    cases hf; exact hR _ _ _ (by (try simp only [q]); repeat' constructor) (by (try simp only [q]); repeat' constructor) rfl
  intro hf; cbv
  refine d_room hS hf (by simp only [q]; try first | rfl | simp [stdCmp, eI, eB, eL, eS, q]) ?_
  intro hf; cbv
  cases hf; exact hR _ _ _ (by (try simp only [q]); repeat' constructor) (by (try simp only [q]); repeat' constructor) rfl
theorem c32 {M : EncM} (hM : M = mapE) {s : List GMod} {r : List GMod} (hf : slices_Clone_mod s = some r) : Pv.Fn Try.prog glF 32 [.sl 20 (M.m GMod (eGMod M) s) false] (fun u => u = .sl 20 (M.m GMod (eGMod M) r) false) := by
  refine fn_dec (T := tab) tabOK rfl wf Try.func32 rfl Try.call32 rfl ?_
  intro S R hS hR
  have q := sf hM hS
  unfold slices_Clone_mod at hf
  cbv
  refine d_nil hS hM hf rfl (by intro h; subst h; exact fun h => h) ?_ ?_
  · intro hf; cbv
    cases hf; exact hR _ (by (try simp only [zGBound, zGFilter, zGMod, zArr2I, zArr3I, zArr5I, zArr6I, q]); repeat' constructor)
  intro hf; cbv
  refine d_room hS hf (by simp only [q]; try first | rfl | simp [stdCmp, eI, eB, eL, eS, q]) ?_
  intro hf; cbv
  cases hf; exact hR _ (lp_eq (by simp only [q]; try first | rfl | simp [stdCmp, eI, eB, eL, eS, q]))
theorem c29 {M : EncM} (hM : M = mapE) {s : List GTarget} {r : List GTarget} (hf : slices_Clone_target s = some r) : Pv.Fn Try.prog glF 29 [.sl 2 (M.m GTarget (eGTarget M) s) false] (fun u => u = .sl 2 (M.m GTarget (eGTarget M) r) false) := by
  refine fn_dec (T := tab) tabOK rfl wf Try.func29 rfl Try.call29 rfl ?_
  intro S R hS hR
  have q := sf hM hS
  unfold slices_Clone_target at hf
  cbv
  refine d_nil hS hM hf rfl (by intro h; subst h; exact fun h => h) ?_ ?_
  · intro hf; cbv
    cases hf; exact hR _ (by (try simp only [zGTarget, q]); repeat' constructor)
  intro hf; cbv
  refine d_room hS hf (by simp only [q]; try first | rfl | simp [stdCmp, eI, eB, eL, eS, q]) ?_
  intro hf; cbv
  cases hf; exact hR _ (lp_eq (by simp only [q]; try first | rfl | simp [stdCmp, eI, eB, eL, eS, q]))
theorem c26 {M : EncM} (hM : M = mapE) {s : List Int} {r : List Int} (hf : slices_Clone_int s = some r) : Pv.Fn Try.prog glF 26 [.sl 1 (M.m Int (eI .i64) s) false] (fun u => u = .sl 1 (M.m Int (eI .i64) r) false) := by
  refine fn_dec (T := tab) tabOK rfl wf Try.func26 rfl Try.call26 rfl ?_
  intro S R hS hR
  have q := sf hM hS
  unfold slices_Clone_int at hf
  cbv
  refine d_nil hS hM hf rfl (by intro h; subst h; exact fun h => h) ?_ ?_
  · intro hf; cbv
    cases hf; exact hR _ (by (try simp only [q]); repeat' constructor)
  intro hf; cbv
  refine d_room hS hf (by simp only [q]; try first | rfl | simp [stdCmp, eI, eB, eL, eS, q]) ?_
  intro hf; cbv
  cases hf; exact hR _ (lp_eq (by simp only [q]; try first | rfl | simp [stdCmp, eI, eB, eL, eS, q]))
theorem c35 {M : EncM} (hM : M = mapE) {l : List GOption} {r : List GOption} (hf : ask_copied_option l = some r) : Pv.Fn Try.prog glF 35 [.sl 3 (M.m GOption (eGOption M) l) false] (fun u => u = .sl 3 (M.m GOption (eGOption M) r) false) := by
  refine fn_dec (T := tab) tabOK rfl wf Try.func35 rfl Try.call35 rfl ?_
  intro S R hS hR
  have q := sf hM hS
  unfold ask_copied_option at hf
  cbv
  refine d_room hS hf (by simp only [q]; try first | rfl | simp [stdCmp, eI, eB, eL, eS, q]) ?_
  intro hf; cbv
  cases hf; exact hR _ (lp_eq (by simp only [q]; try first | rfl | simp [stdCmp, eI, eB, eL, eS, q]))
theorem c19 {M : EncM} (hM : M = mapE) {l : List Int} {r : List Int} (hf : ask_copied_int l = some r) : Pv.Fn Try.prog glF 19 [.sl 1 (M.m Int (eI .i64) l) false] (fun u => u = .sl 1 (M.m Int (eI .i64) r) false) := by
  refine fn_dec (T := tab) tabOK rfl wf Try.func19 rfl Try.call19 rfl ?_
  intro S R hS hR
  have q := sf hM hS
  unfold ask_copied_int at hf
  cbv
  refine d_room hS hf (by simp only [q]; try first | rfl | simp [stdCmp, eI, eB, eL, eS, q]) ?_
  intro hf; cbv
  cases hf; exact hR _ (lp_eq (by simp only [q]; try first | rfl | simp [stdCmp, eI, eB, eL, eS, q]))
end Go.Proofs.Ytlelpgnmmbbfaaa
