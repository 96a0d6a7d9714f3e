/-
  Functions of this seat as plain functions, each with its walk (written by godec.py).
-/
import Derived.Test.YtlelpgnmmbbfaaaW5a
namespace Go.Proofs.Ytlelpgnmmbbfaaa
open Go Go.Pv
set_option linter.all false
set_option linter.unusedVariables false
set_option linter.unusedSimpArgs false
set_option maxRecDepth 100000
set_option maxHeartbeats 2000000
theorem s17 {M : EncM} (hM : M = mapE) {k : GAskAsker} {c : GChoice} {r : (List Int) × GAskAsker} (hf : ask_Asker_Pick k c = some r) : Pv.FnS Try.prog glF 17 [.lv 0 0, .agg (eGChoice M c)] [(0, some (.var false (eGAskAsker M k)))] 1 (fun u s n => u = .sl 1 (M.m Int (eI .i64) r.1) false ∧ s = [(0, some (.var false (eGAskAsker M r.2)))] ∧ n = 1) := by
  refine fnS_dec (T := (tabx 1 [2] [])) (tabxOK 1 [2] []) wf Try.func17 rfl Try.call17 rfl ?_
  intro S R hS hR
  have q := sf hM hS
  unfold ask_Asker_Pick at hf
  cbv
  refine d_cut hS [] [0, 3, 23] (fun s1 => ⟨tpsL 0 77 [(0, .lv 0 0), (3, .lv 1 0), (23, .sb s1)], [(0, some (.var false (eGAskAsker M k))), (1, some (.var false (eGChoice M c)))], 2⟩) hf ?_ ?_
  · intro Ik2 k2 hk2 hf; cbv
    refine d_br hS hf rfl ?_ ?_
    · intro hf; cbv
      exact ⟨_, hf, by rw [hk2] <;> (conv => lhs; cbv) <;> (try simp only [q]) <;> (try rfl) <;> (try simp only [eL, q]) <;> (try rfl)⟩
    intro hf; cbv
    refine d_br hS hf rfl ?_ ?_
    · intro hf; cbv
      exact ⟨_, hf, by rw [hk2] <;> (conv => lhs; cbv) <;> (try simp only [q]) <;> (try rfl) <;> (try simp only [eL, q]) <;> (try rfl)⟩
    intro hf; cbv
    refine d_callp hS hf (fun _ h => c33 hM h) (le_eq rfl) ?_
    intro y4 hf; cbv
    exact ⟨_, hf, by rw [hk2] <;> (conv => lhs; cbv) <;> (try simp only [q]) <;> (try rfl) <;> (try simp only [eL, q]) <;> (try rfl)⟩
  intro s1 hf; cbv
  refine d_br hS hf rfl ?_ ?_
  · intro hf; cbv
    refine d_callp hS hf (fun _ h => c34 hM h) (le_eq rfl) ?_
    intro y5 hf; cbv
    cases hf; exact hR _ _ _ (by (try simp only [eGAskAsker, zGOption, zGChoice, zGAskAsker, q]); repeat' constructor) (by (try simp only [eGAskAsker, zGOption, zGChoice, zGAskAsker, q]); repeat' constructor) rfl
  intro hf; cbv
  refine l_order hS (by kernel_rfl) ?_; cbv
  refine d_br hS hf (by simp only [q]; try first | rfl | simp [stdCmp, eI, eB, eL, eS, q]) ?_ ?_
  · intro hf; cbv
    refine d_callp hS hf (fun _ h => c35 hM h) (le_eq rfl) ?_
    intro y6 hf; cbv
    refine d_callp hS hf (fun _ h => c34 hM h) (le_eq rfl) ?_
    intro y7 hf; cbv
    cases hf; exact hR _ _ _ (by (try simp only [eGAskAsker, zGOption, zGChoice, zGAskAsker, q]); repeat' constructor) (by (try simp only [eGAskAsker, zGOption, zGChoice, zGAskAsker, q]); repeat' constructor) rfl
  intro hf; cbv
  refine l_order hS (by kernel_rfl) ?_; cbv
  refine d_idx hS hM hf rfl rfl ?_
  intro x8 hf; cbv
  refine d_callp hS hf (fun _ h => c36 hM h) (le_eq rfl) ?_
  intro y9 hf; cbv
  refine d_br hS hf (by simp only [q]; try first | rfl | simp [stdCmp, eI, eB, eL, eS, q]) ?_ ?_
  · intro hf; cbv
    refine d_callp hS hf (fun _ h => c34 hM h) (le_eq rfl) ?_
    intro y10 hf; cbv
    cases hf; exact hR _ _ _ (by (try simp only [eGAskAsker, zGOption, zGChoice, zGAskAsker, q]); repeat' constructor) (by (try simp only [eGAskAsker, zGOption, zGChoice, zGAskAsker, q]); repeat' constructor) rfl
  intro hf; cbv
  refine d_callp hS hf (fun _ h => c19 hM h) (le_eq rfl) ?_
  intro y11 hf; cbv
  cases hf; exact hR _ _ _ (by (try simp only [eGAskAsker, zGOption, zGChoice, zGAskAsker, q]); repeat' constructor) (by (try simp only [eGAskAsker, zGOption, zGChoice, zGAskAsker, q]); repeat' constructor) rfl
end Go.Proofs.Ytlelpgnmmbbfaaa
