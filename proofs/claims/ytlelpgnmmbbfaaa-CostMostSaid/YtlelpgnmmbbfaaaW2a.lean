/-
  Functions of this seat as plain functions, each with its walk (written by godec.py).
-/
import Derived.Test.YtlelpgnmmbbfaaaW1a
import Derived.Test.YtlelpgnmmbbfaaaW1b
namespace Go.Proofs.Ytlelpgnmmbbfaaa
open Go Go.Pv
set_option linter.all false
set_option linter.unusedVariables false
set_option linter.unusedSimpArgs false
set_option maxRecDepth 100000
set_option maxHeartbeats 2000000
theorem c18 {M : EncM} (hM : M = mapE) {p : Arr6 Int} {c : GCost} {x : Int} {r : (Arr6 Int) × Int} (hf : mana_Pay p c x = some r) : Pv.Fn Try.prog glF 18 [.agg [.si .i64 p.a0, .si .i64 p.a1, .si .i64 p.a2, .si .i64 p.a3, .si .i64 p.a4, .si .i64 p.a5], .agg (eGCost M c), .si .i64 x] (fun u => u = .tup [.agg [.si .i64 r.1.a0, .si .i64 r.1.a1, .si .i64 r.1.a2, .si .i64 r.1.a3, .si .i64 r.1.a4, .si .i64 r.1.a5], .si .i64 r.2]) := by
  refine fn_dec (T := (tabc [2, 8, 16, 18, 20, 22, 30])) (tabcOK [2, 8, 16, 18, 20, 22, 30]) rfl wf Try.func18 rfl Try.call18 rfl ?_
  intro S R hS hR
  have q := sf hM hS
  unfold mana_Pay at hf
  cbv
  refine d_cut hS [] [2, 3, 4, 6, 29] (fun s1 => ⟨tpsL 0 90 [(2, .si .i64 x), (3, .lv 0 0), (4, .lv 1 0), (6, .lv 2 0), (29, .sb s1)], [(0, some (.var false [.si .i64 p.a0, .si .i64 p.a1, .si .i64 p.a2, .si .i64 p.a3, .si .i64 p.a4, .si .i64 p.a5])), (1, some (.var false (eGCost M c))), (2, some (.var false [.si .i64 0, .si .i64 0, .si .i64 0, .si .i64 0, .si .i64 0, .si .i64 0]))], 3⟩) hf ?_ ?_
  · intro Ik2 k2 hk2 hf; cbv
    refine d_callp hS hf (fun _ h => c37 hM h) (le_eq rfl) ?_
    intro y4 hf; cbv
    refine d_br hS hf (by simp only [q]; try first | rfl | simp [stdCmp, eI, eB, eL, eS, q]) ?_ ?_
    · intro hf; cbv
      exact ⟨_, hf, by rw [hk2] <;> (conv => lhs; cbv) <;> (try simp only [q]) <;> (try rfl) <;> (try simp only [eL, q]) <;> (try rfl)⟩
    intro hf; cbv
    refine d_callp hS hf (fun _ h => c38 hM h) (le_eq rfl) ?_
    intro y5 hf; cbv
    refine d_br hS hf (by simp only [q]; try first | rfl | simp [stdCmp, eI, eB, eL, eS, q]) ?_ ?_
    · intro hf; cbv
      exact ⟨_, hf, by rw [hk2] <;> (conv => lhs; cbv) <;> (try simp only [q]) <;> (try rfl) <;> (try simp only [eL, q]) <;> (try rfl)⟩
    intro hf; cbv
    refine d_br hS hf (by simp only [q]; try first | rfl | simp [stdCmp, eI, eB, eL, eS, q]) ?_ ?_
    · intro hf; cbv
      exact ⟨_, hf, by rw [hk2] <;> (conv => lhs; cbv) <;> (try simp only [q]) <;> (try rfl) <;> (try simp only [eL, q]) <;> (try rfl)⟩
    intro hf; cbv
    exact ⟨_, hf, by rw [hk2] <;> (conv => lhs; cbv) <;> (try simp only [q]) <;> (try rfl) <;> (try simp only [eL, q]) <;> (try rfl)⟩
  intro s1 hf; cbv
  refine d_br hS hf rfl ?_ ?_
  · intro hf; cbv
    cases hf; exact hR _ (lp_eq rfl)
  intro hf; cbv
  refine d_cut hS [] [3, 4, 6, 8, 45] (fun s6 => ⟨tpsL 0 90 [(3, .lv 0 0), (4, .lv 1 0), (6, .lv 2 0), (8, .si .i64 (S.bin .add .i64 c.generic (S.bin .mul .i64 c.x x))), (45, .sb s6)], [(0, some (.var false [.si .i64 p.a0, .si .i64 p.a1, .si .i64 p.a2, .si .i64 p.a3, .si .i64 p.a4, .si .i64 p.a5])), (1, some (.var false (eGCost M c))), (2, some (.var false [.si .i64 0, .si .i64 0, .si .i64 0, .si .i64 0, .si .i64 0, .si .i64 0]))], 3⟩) hf ?_ ?_
  · intro Ik7 k7 hk7 hf; cbv
    replace hf := d_lt hf
    refine d_br hS hf (by simp only [q]; try first | rfl | simp [stdCmp, eI, eB, eL, eS, q]) ?_ ?_
    · intro hf; cbv
      replace hf := d_lt hf
      exact ⟨_, hf, by rw [hk7] <;> (conv => lhs; cbv) <;> (try simp only [q]) <;> (try rfl) <;> (try simp only [eL, q]) <;> (try rfl)⟩
    intro hf; cbv
    exact ⟨_, hf, by rw [hk7] <;> (conv => lhs; cbv) <;> (try simp only [q]) <;> (try rfl) <;> (try simp only [eL, q]) <;> (try rfl)⟩
  intro s6 hf; cbv
  refine d_br hS hf rfl ?_ ?_
  · intro hf; cbv
    cases hf; exact hR _ (lp_eq rfl)
  intro hf; cbv
  refine d_loop hS (tabcOK [2, 8, 16, 18, 20, 22, 30]) wf [] [6, 8, 9, 49, 50] (fun s11 => ⟨tpsL 0 90 [(6, .lv 0 0), (8, .si .i64 (S.bin .add .i64 c.generic (S.bin .mul .i64 c.x x))), (9, .lv 1 0), (49, .agg [.si .i64 c.color.a0, .si .i64 c.color.a1, .si .i64 c.color.a2, .si .i64 c.color.a3, .si .i64 c.color.a4]), (50, .si .i64 s11.2)], [(0, some (.var false [.si .i64 0, .si .i64 0, .si .i64 0, .si .i64 0, .si .i64 0, .si .i64 0])), (1, some (.var false [.si .i64 s11.1.a0, .si .i64 s11.1.a1, .si .i64 s11.1.a2, .si .i64 s11.1.a3, .si .i64 s11.1.a4, .si .i64 s11.1.a5]))], 2⟩) hf (by (conv => lhs; cbv) <;> (try simp only [q]) <;> (try rfl)) ?_
  intro Ik12 k12 s11 hk12 hf e he; subst he
  unfold mana_Pay_l1 at hf
  cbv
  refine l_seq hS ?_; cbv
  refine d_br hS hf (by simp only [q]; try first | rfl | simp [stdCmp, eI, eB, eL, eS, q]) ?_ ?_
  · intro hf; cbv
    refine d_cut hS [] [6, 8, 9, 10, 11, 49, 50] (fun s14 => ⟨tpsL 0 90 [(6, .lv 0 0), (8, .si .i64 (S.bin .add .i64 c.generic (S.bin .mul .i64 c.x x))), (9, .lv 1 0), (10, .si .i64 s11.2), (11, .si .i64 s14), (49, .agg [.si .i64 c.color.a0, .si .i64 c.color.a1, .si .i64 c.color.a2, .si .i64 c.color.a3, .si .i64 c.color.a4]), (50, .si .i64 s11.2)], [(0, some (.var false [.si .i64 0, .si .i64 0, .si .i64 0, .si .i64 0, .si .i64 0, .si .i64 0])), (1, some (.var false [.si .i64 s11.1.a0, .si .i64 s11.1.a1, .si .i64 s11.1.a2, .si .i64 s11.1.a3, .si .i64 s11.1.a4, .si .i64 s11.1.a5]))], 2⟩) hf ?_ ?_
    · intro Ik15 k15 hk15 hf; cbv
      obtain ⟨j17, hj17, ej17, hf⟩ := d_cases hf
      refine d_ixa hS rfl ⟨j17, hj17, ej17, ?_⟩
      rcases lt5 hj17 with rfl | rfl | rfl | rfl | rfl
      · cbv
        exact ⟨_, hf, by rw [hk15] <;> (conv => lhs; cbv) <;> (try simp only [q]) <;> (try rfl) <;> (try simp only [eL, q]) <;> (try rfl)⟩
      · cbv
        exact ⟨_, hf, by rw [hk15] <;> (conv => lhs; cbv) <;> (try simp only [q]) <;> (try rfl) <;> (try simp only [eL, q]) <;> (try rfl)⟩
      · cbv
        exact ⟨_, hf, by rw [hk15] <;> (conv => lhs; cbv) <;> (try simp only [q]) <;> (try rfl) <;> (try simp only [eL, q]) <;> (try rfl)⟩
      · cbv
        exact ⟨_, hf, by rw [hk15] <;> (conv => lhs; cbv) <;> (try simp only [q]) <;> (try rfl) <;> (try simp only [eL, q]) <;> (try rfl)⟩
      cbv
      exact ⟨_, hf, by rw [hk15] <;> (conv => lhs; cbv) <;> (try simp only [q]) <;> (try rfl) <;> (try simp only [eL, q]) <;> (try rfl)⟩
    intro s14 hf; cbv
    refine d_cut hS [] [6, 8, 9, 10, 49, 50] (fun s18 => ⟨tpsL 0 90 [(6, .lv 0 0), (8, .si .i64 (S.bin .add .i64 c.generic (S.bin .mul .i64 c.x x))), (9, .lv 1 0), (10, .si .i64 s11.2), (49, .agg [.si .i64 c.color.a0, .si .i64 c.color.a1, .si .i64 c.color.a2, .si .i64 c.color.a3, .si .i64 c.color.a4]), (50, .si .i64 s11.2)], [(0, some (.var false [.si .i64 0, .si .i64 0, .si .i64 0, .si .i64 0, .si .i64 0, .si .i64 0])), (1, some (.var false [.si .i64 s18.a0, .si .i64 s18.a1, .si .i64 s18.a2, .si .i64 s18.a3, .si .i64 s18.a4, .si .i64 s18.a5]))], 2⟩) hf ?_ ?_
    · intro Ik19 k19 hk19 hf; cbv
      obtain ⟨j21, hj21, ej21, hf⟩ := d_cases hf
      refine d_ixa hS (by simp only [q]; try first | rfl | simp [stdCmp, eI, eB, eL, eS, q]) ⟨j21, hj21, ej21, ?_⟩
      rcases lt6 hj21 with rfl | rfl | rfl | rfl | rfl | rfl
      · cbv
        obtain ⟨j22, hj22, ej22, hf⟩ := d_cases hf
        refine d_ixa hS (by simp only [q]; try first | rfl | simp [stdCmp, eI, eB, eL, eS, q]) ⟨j22, hj22, ej22, ?_⟩
        rcases lt6 hj22 with rfl | rfl | rfl | rfl | rfl | rfl
        · cbv
          exact ⟨_, hf, by rw [hk19] <;> (conv => lhs; cbv) <;> (try simp only [q]) <;> (try rfl) <;> (try simp only [eL, q]) <;> (try rfl)⟩
        · cbv
          exact ⟨_, hf, by rw [hk19] <;> (conv => lhs; cbv) <;> (try simp only [q]) <;> (try rfl) <;> (try simp only [eL, q]) <;> (try rfl)⟩
        · cbv
          exact ⟨_, hf, by rw [hk19] <;> (conv => lhs; cbv) <;> (try simp only [q]) <;> (try rfl) <;> (try simp only [eL, q]) <;> (try rfl)⟩
        · cbv
          exact ⟨_, hf, by rw [hk19] <;> (conv => lhs; cbv) <;> (try simp only [q]) <;> (try rfl) <;> (try simp only [eL, q]) <;> (try rfl)⟩
        · cbv
          exact ⟨_, hf, by rw [hk19] <;> (conv => lhs; cbv) <;> (try simp only [q]) <;> (try rfl) <;> (try simp only [eL, q]) <;> (try rfl)⟩
        cbv
        exact ⟨_, hf, by rw [hk19] <;> (conv => lhs; cbv) <;> (try simp only [q]) <;> (try rfl) <;> (try simp only [eL, q]) <;> (try rfl)⟩
      · cbv
        obtain ⟨j23, hj23, ej23, hf⟩ := d_cases hf
        refine d_ixa hS (by simp only [q]; try first | rfl | simp [stdCmp, eI, eB, eL, eS, q]) ⟨j23, hj23, ej23, ?_⟩
        rcases lt6 hj23 with rfl | rfl | rfl | rfl | rfl | rfl
        · cbv
          exact ⟨_, hf, by rw [hk19] <;> (conv => lhs; cbv) <;> (try simp only [q]) <;> (try rfl) <;> (try simp only [eL, q]) <;> (try rfl)⟩
        · cbv
          exact ⟨_, hf, by rw [hk19] <;> (conv => lhs; cbv) <;> (try simp only [q]) <;> (try rfl) <;> (try simp only [eL, q]) <;> (try rfl)⟩
        · cbv
          exact ⟨_, hf, by rw [hk19] <;> (conv => lhs; cbv) <;> (try simp only [q]) <;> (try rfl) <;> (try simp only [eL, q]) <;> (try rfl)⟩
        · cbv
          exact ⟨_, hf, by rw [hk19] <;> (conv => lhs; cbv) <;> (try simp only [q]) <;> (try rfl) <;> (try simp only [eL, q]) <;> (try rfl)⟩
        · cbv
          exact ⟨_, hf, by rw [hk19] <;> (conv => lhs; cbv) <;> (try simp only [q]) <;> (try rfl) <;> (try simp only [eL, q]) <;> (try rfl)⟩
        cbv
        exact ⟨_, hf, by rw [hk19] <;> (conv => lhs; cbv) <;> (try simp only [q]) <;> (try rfl) <;> (try simp only [eL, q]) <;> (try rfl)⟩
      · cbv
        obtain ⟨j24, hj24, ej24, hf⟩ := d_cases hf
        refine d_ixa hS (by simp only [q]; try first | rfl | simp [stdCmp, eI, eB, eL, eS, q]) ⟨j24, hj24, ej24, ?_⟩
        rcases lt6 hj24 with rfl | rfl | rfl | rfl | rfl | rfl
        · cbv
          exact ⟨_, hf, by rw [hk19] <;> (conv => lhs; cbv) <;> (try simp only [q]) <;> (try rfl) <;> (try simp only [eL, q]) <;> (try rfl)⟩
        · cbv
          exact ⟨_, hf, by rw [hk19] <;> (conv => lhs; cbv) <;> (try simp only [q]) <;> (try rfl) <;> (try simp only [eL, q]) <;> (try rfl)⟩
        · cbv
          exact ⟨_, hf, by rw [hk19] <;> (conv => lhs; cbv) <;> (try simp only [q]) <;> (try rfl) <;> (try simp only [eL, q]) <;> (try rfl)⟩
        · cbv
          exact ⟨_, hf, by rw [hk19] <;> (conv => lhs; cbv) <;> (try simp only [q]) <;> (try rfl) <;> (try simp only [eL, q]) <;> (try rfl)⟩
        · cbv
          exact ⟨_, hf, by rw [hk19] <;> (conv => lhs; cbv) <;> (try simp only [q]) <;> (try rfl) <;> (try simp only [eL, q]) <;> (try rfl)⟩
        cbv
        exact ⟨_, hf, by rw [hk19] <;> (conv => lhs; cbv) <;> (try simp only [q]) <;> (try rfl) <;> (try simp only [eL, q]) <;> (try rfl)⟩
      · cbv
        obtain ⟨j25, hj25, ej25, hf⟩ := d_cases hf
        refine d_ixa hS (by simp only [q]; try first | rfl | simp [stdCmp, eI, eB, eL, eS, q]) ⟨j25, hj25, ej25, ?_⟩
        rcases lt6 hj25 with rfl | rfl | rfl | rfl | rfl | rfl
        · cbv
          exact ⟨_, hf, by rw [hk19] <;> (conv => lhs; cbv) <;> (try simp only [q]) <;> (try rfl) <;> (try simp only [eL, q]) <;> (try rfl)⟩
        · cbv
          exact ⟨_, hf, by rw [hk19] <;> (conv => lhs; cbv) <;> (try simp only [q]) <;> (try rfl) <;> (try simp only [eL, q]) <;> (try rfl)⟩
        · cbv
          exact ⟨_, hf, by rw [hk19] <;> (conv => lhs; cbv) <;> (try simp only [q]) <;> (try rfl) <;> (try simp only [eL, q]) <;> (try rfl)⟩
        · cbv
          exact ⟨_, hf, by rw [hk19] <;> (conv => lhs; cbv) <;> (try simp only [q]) <;> (try rfl) <;> (try simp only [eL, q]) <;> (try rfl)⟩
        · cbv
          exact ⟨_, hf, by rw [hk19] <;> (conv => lhs; cbv) <;> (try simp only [q]) <;> (try rfl) <;> (try simp only [eL, q]) <;> (try rfl)⟩
        cbv
        exact ⟨_, hf, by rw [hk19] <;> (conv => lhs; cbv) <;> (try simp only [q]) <;> (try rfl) <;> (try simp only [eL, q]) <;> (try rfl)⟩
      · cbv
        obtain ⟨j26, hj26, ej26, hf⟩ := d_cases hf
        refine d_ixa hS (by simp only [q]; try first | rfl | simp [stdCmp, eI, eB, eL, eS, q]) ⟨j26, hj26, ej26, ?_⟩
        rcases lt6 hj26 with rfl | rfl | rfl | rfl | rfl | rfl
        · cbv
          exact ⟨_, hf, by rw [hk19] <;> (conv => lhs; cbv) <;> (try simp only [q]) <;> (try rfl) <;> (try simp only [eL, q]) <;> (try rfl)⟩
        · cbv
          exact ⟨_, hf, by rw [hk19] <;> (conv => lhs; cbv) <;> (try simp only [q]) <;> (try rfl) <;> (try simp only [eL, q]) <;> (try rfl)⟩
        · cbv
          exact ⟨_, hf, by rw [hk19] <;> (conv => lhs; cbv) <;> (try simp only [q]) <;> (try rfl) <;> (try simp only [eL, q]) <;> (try rfl)⟩
        · cbv
          exact ⟨_, hf, by rw [hk19] <;> (conv => lhs; cbv) <;> (try simp only [q]) <;> (try rfl) <;> (try simp only [eL, q]) <;> (try rfl)⟩
        · cbv
          exact ⟨_, hf, by rw [hk19] <;> (conv => lhs; cbv) <;> (try simp only [q]) <;> (try rfl) <;> (try simp only [eL, q]) <;> (try rfl)⟩
        cbv
        exact ⟨_, hf, by rw [hk19] <;> (conv => lhs; cbv) <;> (try simp only [q]) <;> (try rfl) <;> (try simp only [eL, q]) <;> (try rfl)⟩
      cbv
      obtain ⟨j27, hj27, ej27, hf⟩ := d_cases hf
      refine d_ixa hS (by simp only [q]; try first | rfl | simp [stdCmp, eI, eB, eL, eS, q]) ⟨j27, hj27, ej27, ?_⟩
      rcases lt6 hj27 with rfl | rfl | rfl | rfl | rfl | rfl
      · cbv
        exact ⟨_, hf, by rw [hk19] <;> (conv => lhs; cbv) <;> (try simp only [q]) <;> (try rfl) <;> (try simp only [eL, q]) <;> (try rfl)⟩
      · cbv
        exact ⟨_, hf, by rw [hk19] <;> (conv => lhs; cbv) <;> (try simp only [q]) <;> (try rfl) <;> (try simp only [eL, q]) <;> (try rfl)⟩
      · cbv
        exact ⟨_, hf, by rw [hk19] <;> (conv => lhs; cbv) <;> (try simp only [q]) <;> (try rfl) <;> (try simp only [eL, q]) <;> (try rfl)⟩
      · cbv
        exact ⟨_, hf, by rw [hk19] <;> (conv => lhs; cbv) <;> (try simp only [q]) <;> (try rfl) <;> (try simp only [eL, q]) <;> (try rfl)⟩
      · cbv
        exact ⟨_, hf, by rw [hk19] <;> (conv => lhs; cbv) <;> (try simp only [q]) <;> (try rfl) <;> (try simp only [eL, q]) <;> (try rfl)⟩
      cbv
      exact ⟨_, hf, by rw [hk19] <;> (conv => lhs; cbv) <;> (try simp only [q]) <;> (try rfl) <;> (try simp only [eL, q]) <;> (try rfl)⟩
    intro s18 hf; cbv
    refine d_cut hS [] [6, 8, 9, 49, 50, 65] (fun s28 => ⟨tpsL 0 90 [(6, .lv 0 0), (8, .si .i64 (S.bin .add .i64 c.generic (S.bin .mul .i64 c.x x))), (9, .lv 1 0), (49, .agg [.si .i64 c.color.a0, .si .i64 c.color.a1, .si .i64 c.color.a2, .si .i64 c.color.a3, .si .i64 c.color.a4]), (50, .si .i64 s11.2), (65, .sb s28)], [(0, some (.var false [.si .i64 0, .si .i64 0, .si .i64 0, .si .i64 0, .si .i64 0, .si .i64 0])), (1, some (.var false [.si .i64 s18.a0, .si .i64 s18.a1, .si .i64 s18.a2, .si .i64 s18.a3, .si .i64 s18.a4, .si .i64 s18.a5]))], 2⟩) hf ?_ ?_
    · intro Ik29 k29 hk29 hf; cbv
      obtain ⟨j31, hj31, ej31, hf⟩ := d_cases hf
      refine d_ixa hS (by simp only [q]; try first | rfl | simp [stdCmp, eI, eB, eL, eS, q]) ⟨j31, hj31, ej31, ?_⟩
      rcases lt6 hj31 with rfl | rfl | rfl | rfl | rfl | rfl
      · cbv
        exact ⟨_, hf, by rw [hk29] <;> (conv => lhs; cbv) <;> (try simp only [q]) <;> (try rfl) <;> (try simp only [eL, q]) <;> (try rfl)⟩
      · cbv
        exact ⟨_, hf, by rw [hk29] <;> (conv => lhs; cbv) <;> (try simp only [q]) <;> (try rfl) <;> (try simp only [eL, q]) <;> (try rfl)⟩
      · cbv
        exact ⟨_, hf, by rw [hk29] <;> (conv => lhs; cbv) <;> (try simp only [q]) <;> (try rfl) <;> (try simp only [eL, q]) <;> (try rfl)⟩
      · cbv
        exact ⟨_, hf, by rw [hk29] <;> (conv => lhs; cbv) <;> (try simp only [q]) <;> (try rfl) <;> (try simp only [eL, q]) <;> (try rfl)⟩
      · cbv
        exact ⟨_, hf, by rw [hk29] <;> (conv => lhs; cbv) <;> (try simp only [q]) <;> (try rfl) <;> (try simp only [eL, q]) <;> (try rfl)⟩
      cbv
      exact ⟨_, hf, by rw [hk29] <;> (conv => lhs; cbv) <;> (try simp only [q]) <;> (try rfl) <;> (try simp only [eL, q]) <;> (try rfl)⟩
    intro s28 hf; cbv
    refine d_br hS hf rfl ?_ ?_
    · intro hf; cbv
      cases hf; exact hR _ (lp_eq rfl)
    intro hf; cbv
    exact ⟨_, hf, by rw [hk12] <;> (conv => lhs; cbv) <;> (try simp only [q]) <;> (try rfl) <;> (try simp only [eL, q]) <;> (try rfl)⟩
  intro hf; cbv
  refine l_roundsF hS (tabcOK [2, 8, 16, 18, 20, 22, 30]) wf 8 ?_; intro g32 hg32
  refine hg32 _ _ ?_; cbv
  refine l_seq hS ?_; cbv
  replace hf := d_lt hf
  obtain ⟨v33, gv33, ev33⟩ : ∃ z : Int, (S.bin .sub .i64 s11.1.a0 (S.smin (S.bin .add .i64 c.generic (S.bin .mul .i64 c.x x)) s11.1.a0)) = z ∧ (subI s11.1.a0 (if s11.1.a0 < (addI c.generic (mulI c.x x)) then s11.1.a0 else (addI c.generic (mulI c.x x)))) = z := ⟨_, rfl, (by simp only [q]; try first | rfl | simp [stdCmp, eI, eB, eL, eS, q])⟩
  (try rw [gv33]); (try (conv at gv33 => (lhs; cbv))); (try rw [gv33]); (try rw [ev33] at hf); clear gv33 ev33
  replace hf := d_lt hf
  obtain ⟨v34, gv34, ev34⟩ : ∃ z : Int, (S.bin .sub .i64 (S.bin .add .i64 c.generic (S.bin .mul .i64 c.x x)) (S.smin (S.bin .add .i64 c.generic (S.bin .mul .i64 c.x x)) s11.1.a0)) = z ∧ (subI (addI c.generic (mulI c.x x)) (if s11.1.a0 < (addI c.generic (mulI c.x x)) then s11.1.a0 else (addI c.generic (mulI c.x x)))) = z := ⟨_, rfl, (by simp only [q]; try first | rfl | simp [stdCmp, eI, eB, eL, eS, q])⟩
  (try rw [gv34]); (try (conv at gv34 => (lhs; cbv))); (try rw [gv34]); (try rw [ev34] at hf); clear gv34 ev34
  refine hg32 _ _ ?_; cbv
  refine l_seq hS ?_; cbv
  refine hg32 _ _ ?_; cbv
  refine l_seq hS ?_; cbv
  replace hf := d_lt hf
  obtain ⟨v35, gv35, ev35⟩ : ∃ z : Int, (S.bin .sub .i64 s11.1.a2 (S.smin (S.bin .sub .i64 v34 (S.smin v34 s11.1.a1)) s11.1.a2)) = z ∧ (subI s11.1.a2 (if s11.1.a2 < (subI v34 (if s11.1.a1 < v34 then s11.1.a1 else v34)) then s11.1.a2 else (subI v34 (if s11.1.a1 < v34 then s11.1.a1 else v34)))) = z := ⟨_, rfl, (by simp only [q]; try first | rfl | simp [stdCmp, eI, eB, eL, eS, q])⟩
  (try rw [gv35]); (try (conv at gv35 => (lhs; cbv))); (try rw [gv35]); (try rw [ev35] at hf); clear gv35 ev35
  replace hf := d_lt hf
  obtain ⟨v36, gv36, ev36⟩ : ∃ z : Int, (S.bin .sub .i64 (S.bin .sub .i64 v34 (S.smin v34 s11.1.a1)) (S.smin (S.bin .sub .i64 v34 (S.smin v34 s11.1.a1)) s11.1.a2)) = z ∧ (subI (subI v34 (if s11.1.a1 < v34 then s11.1.a1 else v34)) (if s11.1.a2 < (subI v34 (if s11.1.a1 < v34 then s11.1.a1 else v34)) then s11.1.a2 else (subI v34 (if s11.1.a1 < v34 then s11.1.a1 else v34)))) = z := ⟨_, rfl, (by simp only [q]; try first | rfl | simp [stdCmp, eI, eB, eL, eS, q])⟩
  (try rw [gv36]); (try (conv at gv36 => (lhs; cbv))); (try rw [gv36]); (try rw [ev36] at hf); clear gv36 ev36
  refine hg32 _ _ ?_; cbv
  refine l_seq hS ?_; cbv
  refine hg32 _ _ ?_; cbv
  refine l_seq hS ?_; cbv
  replace hf := d_lt hf
  obtain ⟨v37, gv37, ev37⟩ : ∃ z : Int, (S.bin .sub .i64 s11.1.a4 (S.smin (S.bin .sub .i64 v36 (S.smin v36 s11.1.a3)) s11.1.a4)) = z ∧ (subI s11.1.a4 (if s11.1.a4 < (subI v36 (if s11.1.a3 < v36 then s11.1.a3 else v36)) then s11.1.a4 else (subI v36 (if s11.1.a3 < v36 then s11.1.a3 else v36)))) = z := ⟨_, rfl, (by simp only [q]; try first | rfl | simp [stdCmp, eI, eB, eL, eS, q])⟩
  (try rw [gv37]); (try (conv at gv37 => (lhs; cbv))); (try rw [gv37]); (try rw [ev37] at hf); clear gv37 ev37
  replace hf := d_lt hf
  obtain ⟨v38, gv38, ev38⟩ : ∃ z : Int, (S.bin .sub .i64 (S.bin .sub .i64 v36 (S.smin v36 s11.1.a3)) (S.smin (S.bin .sub .i64 v36 (S.smin v36 s11.1.a3)) s11.1.a4)) = z ∧ (subI (subI v36 (if s11.1.a3 < v36 then s11.1.a3 else v36)) (if s11.1.a4 < (subI v36 (if s11.1.a3 < v36 then s11.1.a3 else v36)) then s11.1.a4 else (subI v36 (if s11.1.a3 < v36 then s11.1.a3 else v36)))) = z := ⟨_, rfl, (by simp only [q]; try first | rfl | simp [stdCmp, eI, eB, eL, eS, q])⟩
  (try rw [gv38]); (try (conv at gv38 => (lhs; cbv))); (try rw [gv38]); (try rw [ev38] at hf); clear gv38 ev38
  refine hg32 _ _ ?_; cbv
  refine l_seq hS ?_; cbv
  refine hg32 _ _ ?_; cbv
  refine l_seq hS ?_; cbv
  replace hf := d_lt hf
  refine d_br hS hf (by simp only [q]; try first | rfl | simp [stdCmp, eI, eB, eL, eS, q]) ?_ ?_
  · intro hf; cbv
    cases hf; exact hR _ (lp_eq rfl)
  intro hf; cbv
  cases hf; exact hR _ (lp_eq (by simp only [q]; try first | rfl | simp [stdCmp, eI, eB, eL, eS, q]))
end Go.Proofs.Ytlelpgnmmbbfaaa
