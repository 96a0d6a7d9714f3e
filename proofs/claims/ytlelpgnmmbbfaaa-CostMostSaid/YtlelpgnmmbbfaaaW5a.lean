/-
  Functions of this seat as plain functions, each with its walk (written by godec.py).
-/
import Derived.Test.YtlelpgnmmbbfaaaW4a
namespace Go.Proofs.Ytlelpgnmmbbfaaa
open Go Go.Pv
set_option linter.all false
set_option linter.unusedVariables false
set_option linter.unusedSimpArgs false
set_option maxRecDepth 100000
set_option maxHeartbeats 2000000
theorem c36 {M : EncM} (hM : M = mapE) {c : GChoice} {a : List Int} {r : Bool} (hf : ask_Valid c a = some r) : Pv.Fn Try.prog glF 36 [.agg (eGChoice M c), .sl 1 (M.m Int (eI .i64) a) false] (fun u => u = .sb r) := by
  refine fn_dec (T := tab) tabOK rfl wf Try.func36 rfl Try.call36 rfl ?_
  intro S R hS hR
  have q := sf hM hS
  unfold ask_Valid at hf
  cbv
  refine d_br hS hf (by simp only [q]; try first | rfl | simp [stdCmp, eI, eB, eL, eS, q]) ?_ ?_
  · intro hf; cbv
    cases hf; exact hR _ (lp_eq rfl)
  intro hf; cbv
  refine d_br hS hf (by simp only [q]; try first | rfl | simp [stdCmp, eI, eB, eL, eS, q]) ?_ ?_
  · intro hf; cbv
    refine d_br hS hf (by simp only [q]; try first | rfl | simp [stdCmp, eI, eB, eL, eS, q]) ?_ ?_
    · intro hf; cbv
      refine d_callp hS hf (fun _ h => c48 hM h) (le_eq rfl) ?_
      intro y1 hf; cbv
      cases hf; exact hR _ (lp_eq rfl)
    intro hf; cbv
    cases hf; exact hR _ (lp_eq rfl)
  intro hf; cbv
  refine d_br hS hf (by simp only [q]; try first | rfl | simp [stdCmp, eI, eB, eL, eS, q]) ?_ ?_
  · intro hf; cbv
    refine d_br hS hf (by simp only [q]; try first | rfl | simp [stdCmp, eI, eB, eL, eS, q]) ?_ ?_
    · intro hf; cbv
      refine d_callp hS hf (fun _ h => c48 hM h) (le_eq rfl) ?_
      intro y2 hf; cbv
      cases hf; exact hR _ (lp_eq rfl)
    intro hf; cbv
    cases hf; exact hR _ (lp_eq rfl)
  intro hf; cbv
  refine d_br hS hf (by simp only [q]; try first | rfl | simp [stdCmp, eI, eB, eL, eS, q]) ?_ ?_
  · intro hf; cbv
    refine d_br hS hf (by simp only [q]; try first | rfl | simp [stdCmp, eI, eB, eL, eS, q]) ?_ ?_
    · intro hf; cbv
      refine d_callp hS hf (fun _ h => c48 hM h) (le_eq rfl) ?_
      intro y3 hf; cbv
      cases hf; exact hR _ (lp_eq rfl)
    intro hf; cbv
    cases hf; exact hR _ (lp_eq rfl)
  intro hf; cbv
  refine d_br hS hf (by simp only [q]; try first | rfl | simp [stdCmp, eI, eB, eL, eS, q]) ?_ ?_
  · intro hf; cbv
    refine d_br hS hf (by simp only [q]; try first | rfl | simp [stdCmp, eI, eB, eL, eS, q]) ?_ ?_
    · intro hf; cbv
      refine d_callp hS hf (fun _ h => c48 hM h) (le_eq rfl) ?_
      intro y4 hf; cbv
      cases hf; exact hR _ (lp_eq rfl)
    intro hf; cbv
    cases hf; exact hR _ (lp_eq rfl)
  intro hf; cbv
  refine d_br hS hf (by simp only [q]; try first | rfl | simp [stdCmp, eI, eB, eL, eS, q]) ?_ ?_
  · intro hf; cbv
    refine d_br hS hf (by simp only [q]; try first | rfl | simp [stdCmp, eI, eB, eL, eS, q]) ?_ ?_
    · intro hf; cbv
      refine d_callp hS hf (fun _ h => c48 hM h) (le_eq rfl) ?_
      intro y5 hf; cbv
      cases hf; exact hR _ (lp_eq rfl)
    intro hf; cbv
    cases hf; exact hR _ (lp_eq rfl)
  intro hf; cbv
  refine d_br hS hf (by simp only [q]; try first | rfl | simp [stdCmp, eI, eB, eL, eS, q]) ?_ ?_
  · intro hf; cbv
    refine d_br hS hf (by simp only [q]; try first | rfl | simp [stdCmp, eI, eB, eL, eS, q]) ?_ ?_
    · intro hf; cbv
      refine d_br hS hf (by simp only [q]; try first | rfl | simp [stdCmp, eI, eB, eL, eS, q]) ?_ ?_
      · intro hf; cbv
        refine d_callp hS hf (fun _ h => c48 hM h) (le_eq rfl) ?_
        intro y6 hf; cbv
        cases hf; exact hR _ (lp_eq rfl)
      intro hf; cbv
      cases hf; exact hR _ (lp_eq rfl)
    intro hf; cbv
    cases hf; exact hR _ (lp_eq rfl)
  intro hf; cbv
  refine d_br hS hf (by simp only [q]; try first | rfl | simp [stdCmp, eI, eB, eL, eS, q]) ?_ ?_
  · intro hf; cbv
    refine d_br hS hf (by simp only [q]; try first | rfl | simp [stdCmp, eI, eB, eL, eS, q]) ?_ ?_
    · intro hf; cbv
      refine d_callp hS hf (fun _ h => c48 hM h) (le_eq rfl) ?_
      intro y7 hf; cbv
      cases hf; exact hR _ (lp_eq rfl)
    intro hf; cbv
    cases hf; exact hR _ (lp_eq rfl)
  intro hf; cbv
  refine d_br hS hf (by simp only [q]; try first | rfl | simp [stdCmp, eI, eB, eL, eS, q]) ?_ ?_
  · intro hf; cbv
    refine l_order hS (by kernel_rfl) ?_; cbv
    refine d_br hS hf (by simp only [q]; try first | rfl | simp [stdCmp, eI, eB, eL, eS, q]) ?_ ?_
    · intro hf; cbv
      refine d_idx hS hM hf rfl rfl ?_
      intro x8 hf; cbv
      refine d_br hS hf (by simp only [q]; try first | rfl | simp [stdCmp, eI, eB, eL, eS, q]) ?_ ?_
      · intro hf; cbv
        refine d_idx hS hM hf rfl rfl ?_
        intro x9 hf; cbv
        cases hf; exact hR _ (lp_eq (by simp only [q]; try first | rfl | simp [stdCmp, eI, eB, eL, eS, q]))
      intro hf; cbv
      cases hf; exact hR _ (lp_eq rfl)
    intro hf; cbv
    cases hf; exact hR _ (lp_eq rfl)
  intro hf; cbv
  refine d_br hS hf (by simp only [q]; try first | rfl | simp [stdCmp, eI, eB, eL, eS, q]) ?_ ?_
  · intro hf; cbv
    refine d_callp hS hf (fun _ h => c48 hM h) (le_eq rfl) ?_
    intro y10 hf; cbv
    refine d_br hS hf rfl ?_ ?_
    · intro hf; cbv
      refine d_callp hS hf (fun _ h => c49 hM h) (le_eq rfl) ?_
      intro y11 hf; cbv
      cases hf; exact hR _ (lp_eq rfl)
    intro hf; cbv
    cases hf; exact hR _ (lp_eq rfl)
  intro hf; cbv
  refine d_br hS hf (by simp only [q]; try first | rfl | simp [stdCmp, eI, eB, eL, eS, q]) ?_ ?_
  · intro hf; cbv
    refine d_callp hS hf (fun _ h => c48 hM h) (le_eq rfl) ?_
    intro y12 hf; cbv
    refine d_br hS hf rfl ?_ ?_
    · intro hf; cbv
      refine d_callp hS hf (fun _ h => c49 hM h) (le_eq rfl) ?_
      intro y13 hf; cbv
      cases hf; exact hR _ (lp_eq rfl)
    intro hf; cbv
    cases hf; exact hR _ (lp_eq rfl)
  intro hf; cbv
  refine d_br hS hf (by simp only [q]; try first | rfl | simp [stdCmp, eI, eB, eL, eS, q]) ?_ ?_
  · intro hf; cbv
    refine d_callp hS hf (fun _ h => c50 hM h) (le_eq rfl) ?_
    intro y14 hf; cbv
    cases hf; exact hR _ (lp_eq rfl)
  intro hf; cbv
  cases hf; exact hR _ (lp_eq rfl)
theorem c6 {M : EncM} (hM : M = mapE) {p : Arr6 Int} {c : GCost} {r : Int} (hf : cost_MostX p c = some r) : Pv.Fn Try.prog glF 6 [.agg [.si .i64 p.a0, .si .i64 p.a1, .si .i64 p.a2, .si .i64 p.a3, .si .i64 p.a4, .si .i64 p.a5], .agg (eGCost M c)] (fun u => u = .si .i64 r) := by
  refine fn_dec (T := (tabc [14])) (tabcOK [14]) rfl wf Try.func6 rfl Try.call6 rfl ?_
  intro S R hS hR
  have q := sf hM hS
  unfold cost_MostX at hf
  cbv
  refine d_callL hS hf (fun _ h => c14 hM h) (le_eq rfl) (fun _ => rfl) ?_
  intro y1 hf; cbv
  refine d_br hS hf (by simp only [q]; try first | rfl | simp [stdCmp, eI, eB, eL, eS, q]) ?_ ?_
  · intro hf; cbv
    cases hf; exact hR _ (lp_eq rfl)
  intro hf; cbv
  refine d_br hS hf (by simp only [q]; try first | rfl | simp [stdCmp, eI, eB, eL, eS, q]) ?_ ?_
  · intro hf; cbv
    cases hf; exact hR _ (lp_eq rfl)
  intro hf; cbv
  refine d_loop hS (tabcOK [14]) wf [] [5, 6, 7] (fun s2 => ⟨tpsL 0 32 [(5, .fn 14 [.lv 0 0, .lv 1 0]), (6, .si .i64 s2.1), (7, .si .i64 s2.2)], [(0, some (.var false [.si .i64 p.a0, .si .i64 p.a1, .si .i64 p.a2, .si .i64 p.a3, .si .i64 p.a4, .si .i64 p.a5])), (1, some (.var false (eGCost M c)))], 2⟩) hf (by (conv => lhs; cbv) <;> (try simp only [q]) <;> (try rfl)) ?_
  intro Ik3 k3 s2 hk3 hf e he; subst he
  unfold cost_MostX_l1 at hf
  cbv
  refine l_seq hS ?_; cbv
  refine d_br hS hf (by simp only [q]; try first | rfl | simp [stdCmp, eI, eB, eL, eS, q]) ?_ ?_
  · intro hf; cbv
    refine d_div hS hf (by simp only [q]; try first | rfl | simp [stdCmp, eI, eB, eL, eS, q]) rfl ?_
    intro x5 hf; cbv
    refine d_callL hS hf (fun _ h => c14 hM h) (le_eq (by simp only [q]; try first | rfl | simp [stdCmp, eI, eB, eL, eS, q])) (fun _ => rfl) ?_
    intro y6 hf; cbv
    refine d_br hS hf rfl ?_ ?_
    · intro hf; cbv
      exact ⟨_, hf, by rw [hk3] <;> (conv => lhs; cbv) <;> (try simp only [q]) <;> (try rfl) <;> (try simp only [eL, q]) <;> (try rfl)⟩
    intro hf; cbv
    exact ⟨_, hf, by rw [hk3] <;> (conv => lhs; cbv) <;> (try simp only [q]) <;> (try rfl) <;> (try simp only [eL, q]) <;> (try rfl)⟩
  intro hf; cbv
  cases hf; exact hR _ (lp_eq rfl)
end Go.Proofs.Ytlelpgnmmbbfaaa
