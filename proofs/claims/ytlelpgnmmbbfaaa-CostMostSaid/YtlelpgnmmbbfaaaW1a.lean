/-
  Functions of this seat as plain functions, each with its walk (written by godec.py).
-/
import Derived.Test.YtlelpgnmmbbfaaaWF
namespace Go.Proofs.Ytlelpgnmmbbfaaa
open Go Go.Pv
set_option linter.all false
set_option linter.unusedVariables false
set_option linter.unusedSimpArgs false
set_option maxRecDepth 100000
set_option maxHeartbeats 2000000
theorem c40 {M : EncM} (hM : M = mapE) {p : Arr6 Int} {r : Bool} (hf : r08_Whole p = some r) : Pv.Fn Try.prog glF 40 [.agg [.si .i64 p.a0, .si .i64 p.a1, .si .i64 p.a2, .si .i64 p.a3, .si .i64 p.a4, .si .i64 p.a5]] (fun u => u = .sb r) := by
  refine fn_dec (T := (tabc [4, 8])) (tabcOK [4, 8]) rfl wf Try.func40 rfl Try.call40 rfl ?_
  intro S R hS hR
  have q := sf hM hS
  unfold r08_Whole at hf
  cbv
  refine d_loop hS (tabcOK [4, 8]) wf [] [1, 3] (fun s1 => ⟨tpsL 0 18 [(1, .lv 0 0), (3, .si .i64 s1)], [(0, some (.var false [.si .i64 p.a0, .si .i64 p.a1, .si .i64 p.a2, .si .i64 p.a3, .si .i64 p.a4, .si .i64 p.a5]))], 1⟩) hf (by (conv => lhs; cbv) <;> (try simp only [q]) <;> (try rfl)) ?_
  intro Ik2 k2 s1 hk2 hf e he; subst he
  unfold r08_Whole_l1 at hf
  cbv
  refine l_seq hS ?_; cbv
  refine d_br hS hf (by simp only [q]; try first | rfl | simp [stdCmp, eI, eB, eL, eS, q]) ?_ ?_
  · intro hf; cbv
    refine d_cut hS [] [1, 3, 17] (fun s4 => ⟨tpsL 0 18 [(1, .lv 0 0), (3, .si .i64 s1), (17, .sb s4)], [(0, some (.var false [.si .i64 p.a0, .si .i64 p.a1, .si .i64 p.a2, .si .i64 p.a3, .si .i64 p.a4, .si .i64 p.a5]))], 1⟩) hf ?_ ?_
    · intro Ik5 k5 hk5 hf; cbv
      obtain ⟨j7, hj7, ej7, hf⟩ := d_cases hf
      refine d_ixa hS rfl ⟨j7, hj7, ej7, ?_⟩
      rcases lt6 hj7 with rfl | rfl | rfl | rfl | rfl | rfl
      · cbv
        refine d_br hS hf (by simp only [q]; try first | rfl | simp [stdCmp, eI, eB, eL, eS, q]) ?_ ?_
        · intro hf; cbv
          exact ⟨_, hf, by rw [hk5] <;> (conv => lhs; cbv) <;> (try simp only [q]) <;> (try rfl) <;> (try simp only [eL, q]) <;> (try rfl)⟩
        intro hf; cbv
        obtain ⟨j8, hj8, ej8, hf⟩ := d_cases hf
        refine d_ixa hS rfl ⟨j8, hj8, ej8, ?_⟩
        rcases lt6 hj8 with rfl | rfl | rfl | rfl | rfl | rfl
        · cbv
          exact ⟨_, hf, by rw [hk5] <;> (conv => lhs; cbv) <;> (try simp only [q]) <;> (try rfl) <;> (try simp only [eL, q]) <;> (try rfl)⟩
        · cbv
          exact ⟨_, hf, by rw [hk5] <;> (conv => lhs; cbv) <;> (try simp only [q]) <;> (try rfl) <;> (try simp only [eL, q]) <;> (try rfl)⟩
        · cbv
          exact ⟨_, hf, by rw [hk5] <;> (conv => lhs; cbv) <;> (try simp only [q]) <;> (try rfl) <;> (try simp only [eL, q]) <;> (try rfl)⟩
        · cbv
          exact ⟨_, hf, by rw [hk5] <;> (conv => lhs; cbv) <;> (try simp only [q]) <;> (try rfl) <;> (try simp only [eL, q]) <;> (try rfl)⟩
        · cbv
          exact ⟨_, hf, by rw [hk5] <;> (conv => lhs; cbv) <;> (try simp only [q]) <;> (try rfl) <;> (try simp only [eL, q]) <;> (try rfl)⟩
        cbv
        exact ⟨_, hf, by rw [hk5] <;> (conv => lhs; cbv) <;> (try simp only [q]) <;> (try rfl) <;> (try simp only [eL, q]) <;> (try rfl)⟩
      · cbv
        refine d_br hS hf (by simp only [q]; try first | rfl | simp [stdCmp, eI, eB, eL, eS, q]) ?_ ?_
        · intro hf; cbv
          exact ⟨_, hf, by rw [hk5] <;> (conv => lhs; cbv) <;> (try simp only [q]) <;> (try rfl) <;> (try simp only [eL, q]) <;> (try rfl)⟩
        intro hf; cbv
        obtain ⟨j9, hj9, ej9, hf⟩ := d_cases hf
        refine d_ixa hS rfl ⟨j9, hj9, ej9, ?_⟩
        rcases lt6 hj9 with rfl | rfl | rfl | rfl | rfl | rfl
        · cbv
          exact ⟨_, hf, by rw [hk5] <;> (conv => lhs; cbv) <;> (try simp only [q]) <;> (try rfl) <;> (try simp only [eL, q]) <;> (try rfl)⟩
        · cbv
          exact ⟨_, hf, by rw [hk5] <;> (conv => lhs; cbv) <;> (try simp only [q]) <;> (try rfl) <;> (try simp only [eL, q]) <;> (try rfl)⟩
        · cbv
          exact ⟨_, hf, by rw [hk5] <;> (conv => lhs; cbv) <;> (try simp only [q]) <;> (try rfl) <;> (try simp only [eL, q]) <;> (try rfl)⟩
        · cbv
          exact ⟨_, hf, by rw [hk5] <;> (conv => lhs; cbv) <;> (try simp only [q]) <;> (try rfl) <;> (try simp only [eL, q]) <;> (try rfl)⟩
        · cbv
          exact ⟨_, hf, by rw [hk5] <;> (conv => lhs; cbv) <;> (try simp only [q]) <;> (try rfl) <;> (try simp only [eL, q]) <;> (try rfl)⟩
        cbv
        exact ⟨_, hf, by rw [hk5] <;> (conv => lhs; cbv) <;> (try simp only [q]) <;> (try rfl) <;> (try simp only [eL, q]) <;> (try rfl)⟩
      · cbv
        refine d_br hS hf (by simp only [q]; try first | rfl | simp [stdCmp, eI, eB, eL, eS, q]) ?_ ?_
        · intro hf; cbv
          exact ⟨_, hf, by rw [hk5] <;> (conv => lhs; cbv) <;> (try simp only [q]) <;> (try rfl) <;> (try simp only [eL, q]) <;> (try rfl)⟩
        intro hf; cbv
        obtain ⟨j10, hj10, ej10, hf⟩ := d_cases hf
        refine d_ixa hS rfl ⟨j10, hj10, ej10, ?_⟩
        rcases lt6 hj10 with rfl | rfl | rfl | rfl | rfl | rfl
        · cbv
          exact ⟨_, hf, by rw [hk5] <;> (conv => lhs; cbv) <;> (try simp only [q]) <;> (try rfl) <;> (try simp only [eL, q]) <;> (try rfl)⟩
        · cbv
          exact ⟨_, hf, by rw [hk5] <;> (conv => lhs; cbv) <;> (try simp only [q]) <;> (try rfl) <;> (try simp only [eL, q]) <;> (try rfl)⟩
        · cbv
          exact ⟨_, hf, by rw [hk5] <;> (conv => lhs; cbv) <;> (try simp only [q]) <;> (try rfl) <;> (try simp only [eL, q]) <;> (try rfl)⟩
        · cbv
          exact ⟨_, hf, by rw [hk5] <;> (conv => lhs; cbv) <;> (try simp only [q]) <;> (try rfl) <;> (try simp only [eL, q]) <;> (try rfl)⟩
        · cbv
          exact ⟨_, hf, by rw [hk5] <;> (conv => lhs; cbv) <;> (try simp only [q]) <;> (try rfl) <;> (try simp only [eL, q]) <;> (try rfl)⟩
        cbv
        exact ⟨_, hf, by rw [hk5] <;> (conv => lhs; cbv) <;> (try simp only [q]) <;> (try rfl) <;> (try simp only [eL, q]) <;> (try rfl)⟩
      · cbv
        refine d_br hS hf (by simp only [q]; try first | rfl | simp [stdCmp, eI, eB, eL, eS, q]) ?_ ?_
        · intro hf; cbv
          exact ⟨_, hf, by rw [hk5] <;> (conv => lhs; cbv) <;> (try simp only [q]) <;> (try rfl) <;> (try simp only [eL, q]) <;> (try rfl)⟩
        intro hf; cbv
        obtain ⟨j11, hj11, ej11, hf⟩ := d_cases hf
        refine d_ixa hS rfl ⟨j11, hj11, ej11, ?_⟩
        rcases lt6 hj11 with rfl | rfl | rfl | rfl | rfl | rfl
        · cbv
          exact ⟨_, hf, by rw [hk5] <;> (conv => lhs; cbv) <;> (try simp only [q]) <;> (try rfl) <;> (try simp only [eL, q]) <;> (try rfl)⟩
        · cbv
          exact ⟨_, hf, by rw [hk5] <;> (conv => lhs; cbv) <;> (try simp only [q]) <;> (try rfl) <;> (try simp only [eL, q]) <;> (try rfl)⟩
        · cbv
          exact ⟨_, hf, by rw [hk5] <;> (conv => lhs; cbv) <;> (try simp only [q]) <;> (try rfl) <;> (try simp only [eL, q]) <;> (try rfl)⟩
        · cbv
          exact ⟨_, hf, by rw [hk5] <;> (conv => lhs; cbv) <;> (try simp only [q]) <;> (try rfl) <;> (try simp only [eL, q]) <;> (try rfl)⟩
        · cbv
          exact ⟨_, hf, by rw [hk5] <;> (conv => lhs; cbv) <;> (try simp only [q]) <;> (try rfl) <;> (try simp only [eL, q]) <;> (try rfl)⟩
        cbv
        exact ⟨_, hf, by rw [hk5] <;> (conv => lhs; cbv) <;> (try simp only [q]) <;> (try rfl) <;> (try simp only [eL, q]) <;> (try rfl)⟩
      · cbv
        refine d_br hS hf (by simp only [q]; try first | rfl | simp [stdCmp, eI, eB, eL, eS, q]) ?_ ?_
        · intro hf; cbv
          exact ⟨_, hf, by rw [hk5] <;> (conv => lhs; cbv) <;> (try simp only [q]) <;> (try rfl) <;> (try simp only [eL, q]) <;> (try rfl)⟩
        intro hf; cbv
        obtain ⟨j12, hj12, ej12, hf⟩ := d_cases hf
        refine d_ixa hS rfl ⟨j12, hj12, ej12, ?_⟩
        rcases lt6 hj12 with rfl | rfl | rfl | rfl | rfl | rfl
        · cbv
          exact ⟨_, hf, by rw [hk5] <;> (conv => lhs; cbv) <;> (try simp only [q]) <;> (try rfl) <;> (try simp only [eL, q]) <;> (try rfl)⟩
        · cbv
          exact ⟨_, hf, by rw [hk5] <;> (conv => lhs; cbv) <;> (try simp only [q]) <;> (try rfl) <;> (try simp only [eL, q]) <;> (try rfl)⟩
        · cbv
          exact ⟨_, hf, by rw [hk5] <;> (conv => lhs; cbv) <;> (try simp only [q]) <;> (try rfl) <;> (try simp only [eL, q]) <;> (try rfl)⟩
        · cbv
          exact ⟨_, hf, by rw [hk5] <;> (conv => lhs; cbv) <;> (try simp only [q]) <;> (try rfl) <;> (try simp only [eL, q]) <;> (try rfl)⟩
        · cbv
          exact ⟨_, hf, by rw [hk5] <;> (conv => lhs; cbv) <;> (try simp only [q]) <;> (try rfl) <;> (try simp only [eL, q]) <;> (try rfl)⟩
        cbv
        exact ⟨_, hf, by rw [hk5] <;> (conv => lhs; cbv) <;> (try simp only [q]) <;> (try rfl) <;> (try simp only [eL, q]) <;> (try rfl)⟩
      cbv
      refine d_br hS hf (by simp only [q]; try first | rfl | simp [stdCmp, eI, eB, eL, eS, q]) ?_ ?_
      · intro hf; cbv
        exact ⟨_, hf, by rw [hk5] <;> (conv => lhs; cbv) <;> (try simp only [q]) <;> (try rfl) <;> (try simp only [eL, q]) <;> (try rfl)⟩
      intro hf; cbv
      obtain ⟨j13, hj13, ej13, hf⟩ := d_cases hf
      refine d_ixa hS rfl ⟨j13, hj13, ej13, ?_⟩
      rcases lt6 hj13 with rfl | rfl | rfl | rfl | rfl | rfl
      · cbv
        exact ⟨_, hf, by rw [hk5] <;> (conv => lhs; cbv) <;> (try simp only [q]) <;> (try rfl) <;> (try simp only [eL, q]) <;> (try rfl)⟩
      · cbv
        exact ⟨_, hf, by rw [hk5] <;> (conv => lhs; cbv) <;> (try simp only [q]) <;> (try rfl) <;> (try simp only [eL, q]) <;> (try rfl)⟩
      · cbv
        exact ⟨_, hf, by rw [hk5] <;> (conv => lhs; cbv) <;> (try simp only [q]) <;> (try rfl) <;> (try simp only [eL, q]) <;> (try rfl)⟩
      · cbv
        exact ⟨_, hf, by rw [hk5] <;> (conv => lhs; cbv) <;> (try simp only [q]) <;> (try rfl) <;> (try simp only [eL, q]) <;> (try rfl)⟩
      · cbv
        exact ⟨_, hf, by rw [hk5] <;> (conv => lhs; cbv) <;> (try simp only [q]) <;> (try rfl) <;> (try simp only [eL, q]) <;> (try rfl)⟩
      cbv
      exact ⟨_, hf, by rw [hk5] <;> (conv => lhs; cbv) <;> (try simp only [q]) <;> (try rfl) <;> (try simp only [eL, q]) <;> (try rfl)⟩
    intro s4 hf; cbv
    refine d_br hS hf rfl ?_ ?_
    · intro hf; cbv
      cases hf; exact hR _ (lp_eq rfl)
    intro hf; cbv
    exact ⟨_, hf, by rw [hk2] <;> (conv => lhs; cbv) <;> (try simp only [q]) <;> (try rfl) <;> (try simp only [eL, q]) <;> (try rfl)⟩
  intro hf; cbv
  cases hf; exact hR _ (lp_eq rfl)
theorem c39 {M : EncM} (hM : M = mapE) {c : GCost} {r : Bool} (hf : r08_Is c = some r) : Pv.Fn Try.prog glF 39 [.agg (eGCost M c)] (fun u => u = .sb r) := by
  refine fn_dec (T := (tabc [2, 8, 12])) (tabcOK [2, 8, 12]) rfl wf Try.func39 rfl Try.call39 rfl ?_
  intro S R hS hR
  have q := sf hM hS
  unfold r08_Is at hf
  cbv
  refine d_cut hS [] [1, 21] (fun s1 => ⟨tpsL 0 38 [(1, .lv 0 0), (21, .sb s1)], [(0, some (.var false (eGCost M c)))], 1⟩) hf ?_ ?_
  · intro Ik2 k2 hk2 hf; cbv
    refine d_br hS hf (by simp only [q]; try first | rfl | simp [stdCmp, eI, eB, eL, eS, q]) ?_ ?_
    · intro hf; cbv
      exact ⟨_, hf, by rw [hk2] <;> (conv => lhs; cbv) <;> (try simp only [q]) <;> (try rfl) <;> (try simp only [eL, q]) <;> (try rfl)⟩
    intro hf; cbv
    refine d_br hS hf (by simp only [q]; try first | rfl | simp [stdCmp, eI, eB, eL, eS, q]) ?_ ?_
    · intro hf; cbv
      exact ⟨_, hf, by rw [hk2] <;> (conv => lhs; cbv) <;> (try simp only [q]) <;> (try rfl) <;> (try simp only [eL, q]) <;> (try rfl)⟩
    intro hf; cbv
    refine d_br hS hf (by simp only [q]; try first | rfl | simp [stdCmp, eI, eB, eL, eS, q]) ?_ ?_
    · intro hf; cbv
      exact ⟨_, hf, by rw [hk2] <;> (conv => lhs; cbv) <;> (try simp only [q]) <;> (try rfl) <;> (try simp only [eL, q]) <;> (try rfl)⟩
    intro hf; cbv
    exact ⟨_, hf, by rw [hk2] <;> (conv => lhs; cbv) <;> (try simp only [q]) <;> (try rfl) <;> (try simp only [eL, q]) <;> (try rfl)⟩
  intro s1 hf; cbv
  refine d_br hS hf rfl ?_ ?_
  · intro hf; cbv
    cases hf; exact hR _ (lp_eq rfl)
  intro hf; cbv
  refine d_loop hS (tabcOK [2, 8, 12]) wf [] [1, 3] (fun s4 => ⟨tpsL 0 38 [(1, .lv 0 0), (3, .si .i64 s4)], [(0, some (.var false (eGCost M c)))], 1⟩) hf (by (conv => lhs; cbv) <;> (try simp only [q]) <;> (try rfl)) ?_
  intro Ik5 k5 s4 hk5 hf e he; subst he
  unfold r08_Is_l1 at hf
  cbv
  refine l_seq hS ?_; cbv
  refine d_br hS hf (by simp only [q]; try first | rfl | simp [stdCmp, eI, eB, eL, eS, q]) ?_ ?_
  · intro hf; cbv
    refine d_cut hS [] [1, 3, 37] (fun s7 => ⟨tpsL 0 38 [(1, .lv 0 0), (3, .si .i64 s4), (37, .sb s7)], [(0, some (.var false (eGCost M c)))], 1⟩) hf ?_ ?_
    · intro Ik8 k8 hk8 hf; cbv
      obtain ⟨j10, hj10, ej10, hf⟩ := d_cases hf
      refine d_ixa hS rfl ⟨j10, hj10, ej10, ?_⟩
      rcases lt5 hj10 with rfl | rfl | rfl | rfl | rfl
      · cbv
        refine d_br hS hf (by simp only [q]; try first | rfl | simp [stdCmp, eI, eB, eL, eS, q]) ?_ ?_
        · intro hf; cbv
          exact ⟨_, hf, by rw [hk8] <;> (conv => lhs; cbv) <;> (try simp only [q]) <;> (try rfl) <;> (try simp only [eL, q]) <;> (try rfl)⟩
        intro hf; cbv
        obtain ⟨j11, hj11, ej11, hf⟩ := d_cases hf
        refine d_ixa hS rfl ⟨j11, hj11, ej11, ?_⟩
        rcases lt5 hj11 with rfl | rfl | rfl | rfl | rfl
        · cbv
          exact ⟨_, hf, by rw [hk8] <;> (conv => lhs; cbv) <;> (try simp only [q]) <;> (try rfl) <;> (try simp only [eL, q]) <;> (try rfl)⟩
        · cbv
          exact ⟨_, hf, by rw [hk8] <;> (conv => lhs; cbv) <;> (try simp only [q]) <;> (try rfl) <;> (try simp only [eL, q]) <;> (try rfl)⟩
        · cbv
          exact ⟨_, hf, by rw [hk8] <;> (conv => lhs; cbv) <;> (try simp only [q]) <;> (try rfl) <;> (try simp only [eL, q]) <;> (try rfl)⟩
        · cbv
          exact ⟨_, hf, by rw [hk8] <;> (conv => lhs; cbv) <;> (try simp only [q]) <;> (try rfl) <;> (try simp only [eL, q]) <;> (try rfl)⟩
        cbv
        exact ⟨_, hf, by rw [hk8] <;> (conv => lhs; cbv) <;> (try simp only [q]) <;> (try rfl) <;> (try simp only [eL, q]) <;> (try rfl)⟩
      · cbv
        refine d_br hS hf (by simp only [q]; try first | rfl | simp [stdCmp, eI, eB, eL, eS, q]) ?_ ?_
        · intro hf; cbv
          exact ⟨_, hf, by rw [hk8] <;> (conv => lhs; cbv) <;> (try simp only [q]) <;> (try rfl) <;> (try simp only [eL, q]) <;> (try rfl)⟩
        intro hf; cbv
        obtain ⟨j12, hj12, ej12, hf⟩ := d_cases hf
        refine d_ixa hS rfl ⟨j12, hj12, ej12, ?_⟩
        rcases lt5 hj12 with rfl | rfl | rfl | rfl | rfl
        · cbv
          exact ⟨_, hf, by rw [hk8] <;> (conv => lhs; cbv) <;> (try simp only [q]) <;> (try rfl) <;> (try simp only [eL, q]) <;> (try rfl)⟩
        · cbv
          exact ⟨_, hf, by rw [hk8] <;> (conv => lhs; cbv) <;> (try simp only [q]) <;> (try rfl) <;> (try simp only [eL, q]) <;> (try rfl)⟩
        · cbv
          exact ⟨_, hf, by rw [hk8] <;> (conv => lhs; cbv) <;> (try simp only [q]) <;> (try rfl) <;> (try simp only [eL, q]) <;> (try rfl)⟩
        · cbv
          exact ⟨_, hf, by rw [hk8] <;> (conv => lhs; cbv) <;> (try simp only [q]) <;> (try rfl) <;> (try simp only [eL, q]) <;> (try rfl)⟩
        cbv
        exact ⟨_, hf, by rw [hk8] <;> (conv => lhs; cbv) <;> (try simp only [q]) <;> (try rfl) <;> (try simp only [eL, q]) <;> (try rfl)⟩
      · cbv
        refine d_br hS hf (by simp only [q]; try first | rfl | simp [stdCmp, eI, eB, eL, eS, q]) ?_ ?_
        · intro hf; cbv
          exact ⟨_, hf, by rw [hk8] <;> (conv => lhs; cbv) <;> (try simp only [q]) <;> (try rfl) <;> (try simp only [eL, q]) <;> (try rfl)⟩
        intro hf; cbv
        obtain ⟨j13, hj13, ej13, hf⟩ := d_cases hf
        refine d_ixa hS rfl ⟨j13, hj13, ej13, ?_⟩
        rcases lt5 hj13 with rfl | rfl | rfl | rfl | rfl
        · cbv
          exact ⟨_, hf, by rw [hk8] <;> (conv => lhs; cbv) <;> (try simp only [q]) <;> (try rfl) <;> (try simp only [eL, q]) <;> (try rfl)⟩
        · cbv
          exact ⟨_, hf, by rw [hk8] <;> (conv => lhs; cbv) <;> (try simp only [q]) <;> (try rfl) <;> (try simp only [eL, q]) <;> (try rfl)⟩
        · cbv
          exact ⟨_, hf, by rw [hk8] <;> (conv => lhs; cbv) <;> (try simp only [q]) <;> (try rfl) <;> (try simp only [eL, q]) <;> (try rfl)⟩
        · cbv
          exact ⟨_, hf, by rw [hk8] <;> (conv => lhs; cbv) <;> (try simp only [q]) <;> (try rfl) <;> (try simp only [eL, q]) <;> (try rfl)⟩
        cbv
        exact ⟨_, hf, by rw [hk8] <;> (conv => lhs; cbv) <;> (try simp only [q]) <;> (try rfl) <;> (try simp only [eL, q]) <;> (try rfl)⟩
      · cbv
        refine d_br hS hf (by simp only [q]; try first | rfl | simp [stdCmp, eI, eB, eL, eS, q]) ?_ ?_
        · intro hf; cbv
          exact ⟨_, hf, by rw [hk8] <;> (conv => lhs; cbv) <;> (try simp only [q]) <;> (try rfl) <;> (try simp only [eL, q]) <;> (try rfl)⟩
        intro hf; cbv
        obtain ⟨j14, hj14, ej14, hf⟩ := d_cases hf
        refine d_ixa hS rfl ⟨j14, hj14, ej14, ?_⟩
        rcases lt5 hj14 with rfl | rfl | rfl | rfl | rfl
        · cbv
          exact ⟨_, hf, by rw [hk8] <;> (conv => lhs; cbv) <;> (try simp only [q]) <;> (try rfl) <;> (try simp only [eL, q]) <;> (try rfl)⟩
        · cbv
          exact ⟨_, hf, by rw [hk8] <;> (conv => lhs; cbv) <;> (try simp only [q]) <;> (try rfl) <;> (try simp only [eL, q]) <;> (try rfl)⟩
        · cbv
          exact ⟨_, hf, by rw [hk8] <;> (conv => lhs; cbv) <;> (try simp only [q]) <;> (try rfl) <;> (try simp only [eL, q]) <;> (try rfl)⟩
        · cbv
          exact ⟨_, hf, by rw [hk8] <;> (conv => lhs; cbv) <;> (try simp only [q]) <;> (try rfl) <;> (try simp only [eL, q]) <;> (try rfl)⟩
        cbv
        exact ⟨_, hf, by rw [hk8] <;> (conv => lhs; cbv) <;> (try simp only [q]) <;> (try rfl) <;> (try simp only [eL, q]) <;> (try rfl)⟩
      cbv
      refine d_br hS hf (by simp only [q]; try first | rfl | simp [stdCmp, eI, eB, eL, eS, q]) ?_ ?_
      · intro hf; cbv
        exact ⟨_, hf, by rw [hk8] <;> (conv => lhs; cbv) <;> (try simp only [q]) <;> (try rfl) <;> (try simp only [eL, q]) <;> (try rfl)⟩
      intro hf; cbv
      obtain ⟨j15, hj15, ej15, hf⟩ := d_cases hf
      refine d_ixa hS rfl ⟨j15, hj15, ej15, ?_⟩
      rcases lt5 hj15 with rfl | rfl | rfl | rfl | rfl
      · cbv
        exact ⟨_, hf, by rw [hk8] <;> (conv => lhs; cbv) <;> (try simp only [q]) <;> (try rfl) <;> (try simp only [eL, q]) <;> (try rfl)⟩
      · cbv
        exact ⟨_, hf, by rw [hk8] <;> (conv => lhs; cbv) <;> (try simp only [q]) <;> (try rfl) <;> (try simp only [eL, q]) <;> (try rfl)⟩
      · cbv
        exact ⟨_, hf, by rw [hk8] <;> (conv => lhs; cbv) <;> (try simp only [q]) <;> (try rfl) <;> (try simp only [eL, q]) <;> (try rfl)⟩
      · cbv
        exact ⟨_, hf, by rw [hk8] <;> (conv => lhs; cbv) <;> (try simp only [q]) <;> (try rfl) <;> (try simp only [eL, q]) <;> (try rfl)⟩
      cbv
      exact ⟨_, hf, by rw [hk8] <;> (conv => lhs; cbv) <;> (try simp only [q]) <;> (try rfl) <;> (try simp only [eL, q]) <;> (try rfl)⟩
    intro s7 hf; cbv
    refine d_br hS hf rfl ?_ ?_
    · intro hf; cbv
      cases hf; exact hR _ (lp_eq rfl)
    intro hf; cbv
    exact ⟨_, hf, by rw [hk5] <;> (conv => lhs; cbv) <;> (try simp only [q]) <;> (try rfl) <;> (try simp only [eL, q]) <;> (try rfl)⟩
  intro hf; cbv
  cases hf; exact hR _ (lp_eq rfl)
theorem o8 {M : EncM} (hM : M = mapE) {players : Int} {first : Int} {seed : Int} {r : GState} (hf : r26_New players first seed = some r) : Pv.FnS Try.prog glF 8 [.si .i64 players, .si .i64 first, .si .u64 seed] [] 0 (fun u s n => u = .agg [.os 0 0 (M.n GPlayer r.players), .sl 19 (M.m GObject (eGObject M) r.objects) false, .sl 1 (M.m Int (eI .i64) r.battlefield) false, .sl 1 (M.m Int (eI .i64) r.exile) false, .sl 94 (M.m GItem (eGItem M) r.stack) false, .sl 89 (M.m GWaiting (eGWaiting M) r.waiting) false, .sl 6 (M.m GCont (eGCont M) r.conts) false, .si .i64 r.turn, .si .i64 r.active, .si .i64 r.step, .sb r.begun, .si .i64 r.priority, .si .i64 r.passes, .si .i64 r.nextId, .si .i64 r.nextStamp, .si .u64 r.seed, .sl 1 (M.m Int (eI .i64) r.extra) false, .si .i64 r.over, .si .i64 r.winner] ∧ s = [(0, some (.arr false 14 (M.m GPlayer (eGPlayer M) r.players)))] ∧ n = 1) := by
  refine fnS_dec (T := (tabx 0 [14] [[(14, true), (0, false), (0, false), (0, false), (0, false), (0, false), (0, false), (0, false), (0, false), (0, false), (0, false), (0, false), (0, false), (0, false), (0, false), (0, false), (0, false), (0, false), (0, false)]])) (tabxOK 0 [14] [[(14, true), (0, false), (0, false), (0, false), (0, false), (0, false), (0, false), (0, false), (0, false), (0, false), (0, false), (0, false), (0, false), (0, false), (0, false), (0, false), (0, false), (0, false), (0, false)]]) wf Try.func8 rfl Try.call8 rfl ?_
  intro S R hS hR
  have q := sf hM hS
  unfold r26_New at hf
  cbv
  refine d_loop hS (tabxOK 0 [14] [[(14, true), (0, false), (0, false), (0, false), (0, false), (0, false), (0, false), (0, false), (0, false), (0, false), (0, false), (0, false), (0, false), (0, false), (0, false), (0, false), (0, false), (0, false), (0, false)]]) wf [.cO 1 0 14] [1, 6, 7, 8, 9] (fun s1 => ⟨tpsL 0 38 [(1, .si .i64 first), (6, .lv 0 0), (7, .si .i64 (S.smin (S.smax players 2) 4)), (8, .lv 1 0), (9, .si .i64 s1.1)], [(0, some (.var false [.sl 0 [] true, .sl 0 [] true, .sl 0 [] true, .sl 0 [] true, .sl 0 [] true, .sl 0 [] true, .sl 0 [] true, .si .i64 0, .si .i64 0, .si .i64 0, .sb false, .si .i64 0, .si .i64 0, .si .i64 0, .si .i64 0, .si .u64 0, .sl 0 [] true, .si .i64 0, .si .i64 0])), (1, some (.var false [.os 2 0 (S.lenN (M.m GPlayer (eGPlayer M) s1.2)), .sl 0 [] true, .sl 0 [] true, .sl 0 [] true, .sl 0 [] true, .sl 0 [] true, .sl 0 [] true, .si .i64 0, .si .i64 0, .si .i64 0, .sb false, .si .i64 0, .si .i64 0, .si .i64 1, .si .i64 1, .si .u64 seed, .sl 0 [] true, .si .i64 0, .si .i64 (-1)])), (2, some (.arr false 14 (M.m GPlayer (eGPlayer M) s1.2)))], 3⟩) hf (by (conv => lhs; cbv) <;> (try simp only [q]) <;> (try rfl)) ?_
  intro Ik2 k2 s1 hk2 hf e he; subst he
  unfold r26_New_l1 at hf
  cbv
  replace hf := d_lt hf
  refine d_br hS hf (by simp only [q]; try first | rfl | simp [stdCmp, eI, eB, eL, eS, q]) ?_ ?_
  · intro hf; cbv
    refine d_wk hS (e := (eGPlayer M)) hf (by (try simp only [eGPlayer, zGPlayer, zArr2I, zArr3I, zArr5I, zArr6I, q]); repeat' constructor) ?_
    intro x5 hf; cbv
    refine d_room hS hf (by simp only [q]; try first | rfl | simp [stdCmp, eI, eB, eL, eS, q]) ?_
    intro hf; cbv
    exact ⟨_, hf, by rw [hk2] <;> (conv => lhs; cbv) <;> (try simp only [q]) <;> (try rfl) <;> (try simp only [eL, q]) <;> (try rfl)⟩
  intro hf; cbv
  refine d_cut hS [] [1, 6, 8, 32] (fun s6 => ⟨tpsL 0 38 [(1, .si .i64 first), (6, .lv 0 0), (8, .lv 1 0), (32, .sb s6)], [(0, some (.var false [.sl 0 [] true, .sl 0 [] true, .sl 0 [] true, .sl 0 [] true, .sl 0 [] true, .sl 0 [] true, .sl 0 [] true, .si .i64 0, .si .i64 0, .si .i64 0, .sb false, .si .i64 0, .si .i64 0, .si .i64 0, .si .i64 0, .si .u64 0, .sl 0 [] true, .si .i64 0, .si .i64 0])), (1, some (.var false [.os 2 0 (S.lenN (M.m GPlayer (eGPlayer M) s1.2)), .sl 0 [] true, .sl 0 [] true, .sl 0 [] true, .sl 0 [] true, .sl 0 [] true, .sl 0 [] true, .si .i64 0, .si .i64 0, .si .i64 0, .sb false, .si .i64 0, .si .i64 0, .si .i64 1, .si .i64 1, .si .u64 seed, .sl 0 [] true, .si .i64 0, .si .i64 (-1)])), (2, some (.arr false 14 (M.m GPlayer (eGPlayer M) s1.2)))], 3⟩) hf ?_ ?_
  · intro Ik7 k7 hk7 hf; cbv
    refine d_br hS hf (by simp only [q]; try first | rfl | simp [stdCmp, eI, eB, eL, eS, q]) ?_ ?_
    · intro hf; cbv
      replace hf := d_lt hf
      exact ⟨_, hf, by rw [hk7] <;> (conv => lhs; cbv) <;> (try simp only [q]) <;> (try rfl) <;> (try simp only [eL, q]) <;> (try rfl)⟩
    intro hf; cbv
    exact ⟨_, hf, by rw [hk7] <;> (conv => lhs; cbv) <;> (try simp only [q]) <;> (try rfl) <;> (try simp only [eL, q]) <;> (try rfl)⟩
  intro s6 hf; cbv
  refine d_br hS hf rfl ?_ ?_
  · intro hf; cbv
    cases hf; exact hR _ _ _ (by (try simp only [eGState, zGPlayer, zGObject, zGBound, zGFilter, zGMod, zGCost, zGPrice, zGTrigger, zGSpec, zGRef, zGAmount, zGEffect, zGReplace, zGAbility, zGTarget, zGEvent, zGItem, zGWaiting, zGCont, zGState, zArr2I, zArr3I, zArr5I, zArr6I, q]); repeat' constructor) (by (try simp only [eGState, zGPlayer, zGObject, zGBound, zGFilter, zGMod, zGCost, zGPrice, zGTrigger, zGSpec, zGRef, zGAmount, zGEffect, zGReplace, zGAbility, zGTarget, zGEvent, zGItem, zGWaiting, zGCont, zGState, zArr2I, zArr3I, zArr5I, zArr6I, q]); repeat' constructor) rfl
  intro hf; cbv
  cases hf; exact hR _ _ _ (by (try simp only [eGState, zGPlayer, zGObject, zGBound, zGFilter, zGMod, zGCost, zGPrice, zGTrigger, zGSpec, zGRef, zGAmount, zGEffect, zGReplace, zGAbility, zGTarget, zGEvent, zGItem, zGWaiting, zGCont, zGState, zArr2I, zArr3I, zArr5I, zArr6I, q]); repeat' constructor) (by (try simp only [eGState, zGPlayer, zGObject, zGBound, zGFilter, zGMod, zGCost, zGPrice, zGTrigger, zGSpec, zGRef, zGAmount, zGEffect, zGReplace, zGAbility, zGTarget, zGEvent, zGItem, zGWaiting, zGCont, zGState, zArr2I, zArr3I, zArr5I, zArr6I, q]); repeat' constructor) rfl
theorem c37 {M : EncM} (hM : M = mapE) {c : GCost} {r : Bool} (hf : mana_Is c = some r) : Pv.Fn Try.prog glF 37 [.agg (eGCost M c)] (fun u => u = .sb r) := by
  refine fn_dec (T := (tabc [4, 6, 8])) (tabcOK [4, 6, 8]) rfl wf Try.func37 rfl Try.call37 rfl ?_
  intro S R hS hR
  have q := sf hM hS
  unfold mana_Is at hf
  cbv
  refine d_loop hS (tabcOK [4, 6, 8]) wf [] [1, 6, 7] (fun s1 => ⟨tpsL 0 35 [(1, .lv 0 0), (6, .agg [.si .i64 c.color.a0, .si .i64 c.color.a1, .si .i64 c.color.a2, .si .i64 c.color.a3, .si .i64 c.color.a4]), (7, .si .i64 s1)], [(0, some (.var false (eGCost M c)))], 1⟩) hf (by (conv => lhs; cbv) <;> (try simp only [q]) <;> (try rfl)) ?_
  intro Ik2 k2 s1 hk2 hf e he; subst he
  unfold mana_Is_l1 at hf
  cbv
  refine l_seq hS ?_; cbv
  refine d_br hS hf (by simp only [q]; try first | rfl | simp [stdCmp, eI, eB, eL, eS, q]) ?_ ?_
  · intro hf; cbv
    refine d_cut hS [] [1, 4, 6, 7] (fun s4 => ⟨tpsL 0 35 [(1, .lv 0 0), (4, .si .i64 s4), (6, .agg [.si .i64 c.color.a0, .si .i64 c.color.a1, .si .i64 c.color.a2, .si .i64 c.color.a3, .si .i64 c.color.a4]), (7, .si .i64 s1)], [(0, some (.var false (eGCost M c)))], 1⟩) hf ?_ ?_
    · intro Ik5 k5 hk5 hf; cbv
      obtain ⟨j7, hj7, ej7, hf⟩ := d_cases hf
      refine d_ixa hS rfl ⟨j7, hj7, ej7, ?_⟩
      rcases lt5 hj7 with rfl | rfl | rfl | rfl | rfl
      · cbv
        exact ⟨_, hf, by rw [hk5] <;> (conv => lhs; cbv) <;> (try simp only [q]) <;> (try rfl) <;> (try simp only [eL, q]) <;> (try rfl)⟩
      · cbv
        exact ⟨_, hf, by rw [hk5] <;> (conv => lhs; cbv) <;> (try simp only [q]) <;> (try rfl) <;> (try simp only [eL, q]) <;> (try rfl)⟩
      · cbv
        exact ⟨_, hf, by rw [hk5] <;> (conv => lhs; cbv) <;> (try simp only [q]) <;> (try rfl) <;> (try simp only [eL, q]) <;> (try rfl)⟩
      · cbv
        exact ⟨_, hf, by rw [hk5] <;> (conv => lhs; cbv) <;> (try simp only [q]) <;> (try rfl) <;> (try simp only [eL, q]) <;> (try rfl)⟩
      cbv
      exact ⟨_, hf, by rw [hk5] <;> (conv => lhs; cbv) <;> (try simp only [q]) <;> (try rfl) <;> (try simp only [eL, q]) <;> (try rfl)⟩
    intro s4 hf; cbv
    refine d_cut hS [] [1, 6, 7, 15] (fun s8 => ⟨tpsL 0 35 [(1, .lv 0 0), (6, .agg [.si .i64 c.color.a0, .si .i64 c.color.a1, .si .i64 c.color.a2, .si .i64 c.color.a3, .si .i64 c.color.a4]), (7, .si .i64 s1), (15, .sb s8)], [(0, some (.var false (eGCost M c)))], 1⟩) hf ?_ ?_
    · intro Ik9 k9 hk9 hf; cbv
      refine d_br hS hf (by simp only [q]; try first | rfl | simp [stdCmp, eI, eB, eL, eS, q]) ?_ ?_
      · intro hf; cbv
        exact ⟨_, hf, by rw [hk9] <;> (conv => lhs; cbv) <;> (try simp only [q]) <;> (try rfl) <;> (try simp only [eL, q]) <;> (try rfl)⟩
      intro hf; cbv
      exact ⟨_, hf, by rw [hk9] <;> (conv => lhs; cbv) <;> (try simp only [q]) <;> (try rfl) <;> (try simp only [eL, q]) <;> (try rfl)⟩
    intro s8 hf; cbv
    refine d_br hS hf rfl ?_ ?_
    · intro hf; cbv
      cases hf; exact hR _ (lp_eq rfl)
    intro hf; cbv
    exact ⟨_, hf, by rw [hk2] <;> (conv => lhs; cbv) <;> (try simp only [q]) <;> (try rfl) <;> (try simp only [eL, q]) <;> (try rfl)⟩
  intro hf; cbv
  refine d_br hS hf (by simp only [q]; try first | rfl | simp [stdCmp, eI, eB, eL, eS, q]) ?_ ?_
  · intro hf; cbv
    refine d_br hS hf (by simp only [q]; try first | rfl | simp [stdCmp, eI, eB, eL, eS, q]) ?_ ?_
    · intro hf; cbv
      refine d_br hS hf (by simp only [q]; try first | rfl | simp [stdCmp, eI, eB, eL, eS, q]) ?_ ?_
      · intro hf; cbv
        cases hf; exact hR _ (lp_eq (by simp only [q]; try first | rfl | simp [stdCmp, eI, eB, eL, eS, q]))
      intro hf; cbv
      cases hf; exact hR _ (lp_eq rfl)
    intro hf; cbv
    cases hf; exact hR _ (lp_eq rfl)
  intro hf; cbv
  cases hf; exact hR _ (lp_eq rfl)
end Go.Proofs.Ytlelpgnmmbbfaaa
