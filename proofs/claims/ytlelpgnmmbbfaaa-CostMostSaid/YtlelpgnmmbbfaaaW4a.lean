/-
  Functions of this seat as plain functions, each with its walk (written by godec.py).
-/
import Derived.Test.YtlelpgnmmbbfaaaW3a
namespace Go.Proofs.Ytlelpgnmmbbfaaa
open Go Go.Pv
set_option linter.all false
set_option linter.unusedVariables false
set_option linter.unusedSimpArgs false
set_option maxRecDepth 100000
set_option maxHeartbeats 2000000
theorem c7 {M : EncM} (hM : M = mapE) {p : Arr6 Int} {c : GCost} {r : Int} (hf : r39_MostX p c = some r) : Pv.Fn Try.prog glF 7 [.agg [.si .i64 p.a0, .si .i64 p.a1, .si .i64 p.a2, .si .i64 p.a3, .si .i64 p.a4, .si .i64 p.a5], .agg (eGCost M c)] (fun u => u = .si .i64 r) := by
  refine fn_dec (T := (tabc [14])) (tabcOK [14]) rfl wf Try.func7 rfl Try.call7 rfl ?_
  intro S R hS hR
  have q := sf hM hS
  unfold r39_MostX at hf
  cbv
  refine d_callp hS hf (fun _ h => c11 hM h) (le_eq rfl) ?_
  intro y1 hf; cbv
  refine d_br hS hf (by simp only [q]; try first | rfl | simp [stdCmp, eI, eB, eL, eS, q]) ?_ ?_
  · intro hf; cbv
    cases hf; exact hR _ (lp_eq rfl)
  intro hf; cbv
  refine d_br hS hf (by simp only [q]; try first | rfl | simp [stdCmp, eI, eB, eL, eS, q]) ?_ ?_
  · intro hf; cbv
    cases hf; exact hR _ (lp_eq rfl)
  intro hf; cbv
  refine d_loop hS (tabcOK [14]) wf [] [2, 3, 5, 6] (fun s2 => ⟨tpsL 0 31 [(2, .lv 0 0), (3, .lv 1 0), (5, .si .i64 s2.1), (6, .si .i64 s2.2)], [(0, some (.var false [.si .i64 p.a0, .si .i64 p.a1, .si .i64 p.a2, .si .i64 p.a3, .si .i64 p.a4, .si .i64 p.a5])), (1, some (.var false (eGCost M c)))], 2⟩) hf (by (conv => lhs; cbv) <;> (try simp only [q]) <;> (try rfl)) ?_
  intro Ik3 k3 s2 hk3 hf e he; subst he
  unfold r39_MostX_l1 at hf
  cbv
  refine l_seq hS ?_; cbv
  refine d_br hS hf (by simp only [q]; try first | rfl | simp [stdCmp, eI, eB, eL, eS, q]) ?_ ?_
  · intro hf; cbv
    refine d_div hS hf (by simp only [q]; try first | rfl | simp [stdCmp, eI, eB, eL, eS, q]) rfl ?_
    intro x5 hf; cbv
    refine d_callp hS hf (fun _ h => c11 hM h) (le_eq rfl) ?_
    intro y6 hf; cbv
    refine d_br hS hf rfl ?_ ?_
    · intro hf; cbv
      exact ⟨_, hf, by rw [hk3] <;> (conv => lhs; cbv) <;> (try simp only [q]) <;> (try rfl) <;> (try simp only [eL, q]) <;> (try rfl)⟩
    intro hf; cbv
    exact ⟨_, hf, by rw [hk3] <;> (conv => lhs; cbv) <;> (try simp only [q]) <;> (try rfl) <;> (try simp only [eL, q]) <;> (try rfl)⟩
  intro hf; cbv
  cases hf; exact hR _ (lp_eq rfl)
theorem c49 {M : EncM} (hM : M = mapE) {c : GChoice} {a : List Int} {r : Bool} (hf : ask_distinct c a = some r) : Pv.Fn Try.prog glF 49 [.agg (eGChoice M c), .sl 1 (M.m Int (eI .i64) a) false] (fun u => u = .sb r) := by
  refine fn_dec (T := tab) tabOK rfl wf Try.func49 rfl Try.call49 rfl ?_
  intro S R hS hR
  have q := sf hM hS
  unfold ask_distinct at hf
  cbv
  refine d_loop hS tabOK wf [.tO 5 1] [2, 5, 8, 9, 10] (fun s1 => ⟨tpsL 0 32 [(2, .lv 0 0), (5, .os 1 0 (S.lenN (M.m Int (eI .i64) s1.2))), (8, .sl 1 (M.m Int (eI .i64) a) false), (9, .si .i64 (S.len (M.m Int (eI .i64) a))), (10, .si .i64 s1.1)], [(0, some (.var false (eGChoice M c))), (1, some (.arr false 1 (M.m Int (eI .i64) s1.2)))], 2⟩) hf (by (conv => lhs; cbv) <;> (try simp only [q]) <;> (try rfl)) ?_
  intro Ik2 k2 s1 hk2 hf e he; subst he
  unfold ask_distinct_l1 at hf
  cbv
  refine d_br hS hf (by simp only [q]; try first | rfl | simp [stdCmp, eI, eB, eL, eS, q]) ?_ ?_
  · intro hf; cbv
    refine d_idx hS hM hf rfl rfl ?_
    intro x4 hf; cbv
    refine d_idx hS hM hf rfl rfl ?_
    intro x5 hf; cbv
    refine d_callL hS hf (fun _ h => c54 hM h) (le_eq (by simp only [q]; try first | rfl | simp [stdCmp, eI, eB, eL, eS, q])) (fun _ => rfl) ?_
    intro y6 hf; cbv
    refine d_br hS hf rfl ?_ ?_
    · intro hf; cbv
      cases hf; exact hR _ (lp_eq rfl)
    intro hf; cbv
    refine d_idx hS hM hf rfl rfl ?_
    intro x7 hf; cbv
    refine d_room hS hf (by simp only [q]; try first | rfl | simp [stdCmp, eI, eB, eL, eS, q]) ?_
    intro hf; cbv
    exact ⟨_, hf, by rw [hk2] <;> (conv => lhs; cbv) <;> (try simp only [q]) <;> (try rfl) <;> (try simp only [eL, q]) <;> (try rfl)⟩
  intro hf; cbv
  cases hf; exact hR _ (lp_eq rfl)
theorem c14 {M : EncM} (hM : M = mapE) {x : Int} {c1 : Arr6 Int} {c2 : GCost} {r : Bool} (hf : cost_MostX_1 x c1 c2 = some r) : Pv.Fn Try.prog glF 14 [.si .i64 x, .pp [.si .i64 c1.a0, .si .i64 c1.a1, .si .i64 c1.a2, .si .i64 c1.a3, .si .i64 c1.a4, .si .i64 c1.a5], .pp (eGCost M c2)] (fun u => u = .sb r) := by
  refine fn_dec (T := tab) tabOK rfl wf Try.func14 rfl Try.call14 rfl ?_
  intro S R hS hR
  have q := sf hM hS
  unfold cost_MostX_1 at hf
  cbv
  refine d_callp hS hf (fun _ h => c15 hM h) (le_eq rfl) ?_
  intro y1 hf; cbv
  cases hf; exact hR _ (lp_eq rfl)
end Go.Proofs.Ytlelpgnmmbbfaaa
