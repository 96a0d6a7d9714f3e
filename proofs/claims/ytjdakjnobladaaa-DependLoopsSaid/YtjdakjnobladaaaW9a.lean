/-
  Functions of this seat as plain functions, each with its walk (written by godec.py).
-/
import Derived.Test.YtjdakjnobladaaaW8a
namespace Go.Proofs.Ytjdakjnobladaaa
open Go Go.Pv
set_option linter.all false
set_option linter.unusedVariables false
set_option linter.unusedSimpArgs false
set_option maxRecDepth 100000
set_option maxHeartbeats 2000000
theorem c10 {M : EncM} (hM : M = mapE)  {r : Bool} (hf : law07_alive  = some r) : Pv.Fn Try.prog glF 10 [] (fun u => u = .sb r) := by
  refine fn_dec (T := tab) tabOK rfl wf Try.func10 rfl Try.call10 rfl ?_
  intro S R hS hR
  have q := sf hM hS
  unfold law07_alive at hf
  cbv
  refine d_wkx hS [.si .i64 1, .si .i64 2, .si .i64 3] (by (try simp only [q]); repeat' constructor) ?_; cbv
  refine d_wkx hS [.sb false, .sb false, .sb true] (by (try simp only [q]); repeat' constructor) ?_; cbv
  refine d_callF hS hf (fun _ h => c16 hM h) (le_eq (by simp only [q]; try first | rfl | simp [stdCmp, eI, eB, eL, eS, q])) ?_
  intro y1 hf; cbv
  refine d_wkx hS [.si .i64 1, .si .i64 2, .si .i64 3] (by (try simp only [q]); repeat' constructor) ?_; cbv
  refine d_wkx hS [.sb false, .sb false, .sb true] (by (try simp only [q]); repeat' constructor) ?_; cbv
  refine d_wk hS (e := eB) hf (by (try simp only [q]); repeat' constructor) ?_
  intro x2 hf; cbv
  refine d_wkx hS [.sl 1 (S.sub ([[.sb false], [.sb false], [.sb true]]) 0 3) false, .sl 1 (M.m Bool eB ([])) false, .sl 1 (S.sub ([[.sb x2]]) 0 1) false] (by (try simp only [q]); repeat' constructor) ?_; cbv
  refine d_callF hS hf (fun _ h => c16 hM h) (le_eq (by simp only [q]; try first | rfl | simp [stdCmp, eI, eB, eL, eS, q])) ?_
  intro y3 hf; cbv
  refine d_wkx hS [.si .i64 1, .si .i64 2, .si .i64 0] (by (try simp only [q]); repeat' constructor) ?_; cbv
  refine d_callL hS hf (fun _ h => c11 hM h) (le_eq (by simp only [q]; try first | rfl | simp [stdCmp, eI, eB, eL, eS, q])) (fun _ => rfl) ?_
  intro y4 hf; cbv
  refine d_br hS hf rfl ?_ ?_
  · intro hf; cbv
    refine d_wkx hS [.si .i64 0, .si .i64 1, .si .i64 2] (by (try simp only [q]); repeat' constructor) ?_; cbv
    refine d_callL hS hf (fun _ h => c11 hM h) (le_eq (by simp only [q]; try first | rfl | simp [stdCmp, eI, eB, eL, eS, q])) (fun _ => rfl) ?_
    intro y5 hf; cbv
    refine d_br hS hf rfl ?_ ?_
    · intro hf; cbv
      refine d_callp hS hf (fun _ h => c14 hM h) (by (try simp only [q]); repeat' constructor) ?_
      intro y6 hf; cbv
      refine d_br hS hf (by simp only [q]; try first | rfl | simp [stdCmp, eI, eB, eL, eS, q]) ?_ ?_
      · intro hf; cbv
        refine d_wkx hS [.si .i64 5, .si .i64 3] (by (try simp only [q]); repeat' constructor) ?_; cbv
        refine d_callL hS hf (fun _ h => c14 hM h) (by (try simp only [q]); repeat' constructor) (fun _ => rfl) ?_
        intro y7 hf; cbv
        refine d_br hS hf (by simp only [q]; try first | rfl | simp [stdCmp, eI, eB, eL, eS, q]) ?_ ?_
        · intro hf; cbv
          refine d_wkx hS [.si .i64 4, .si .i64 (-1), .si .i64 4, .si .i64 2] (by (try simp only [q]); repeat' constructor) ?_; cbv
          refine d_callF hS hf (fun _ h => c12 hM h) (by (try simp only [q]); repeat' constructor) ?_
          intro y8 hf; cbv
          refine d_wkx hS [.si .i64 4, .si .i64 2] (by (try simp only [q]); repeat' constructor) ?_; cbv
          refine d_callL hS hf (fun _ h => c11 hM h) (le_eq (by simp only [q]; try first | rfl | simp [stdCmp, eI, eB, eL, eS, q])) (fun _ => rfl) ?_
          intro y9 hf; cbv
          cases hf; exact hR _ (lp_eq rfl)
        intro hf; cbv
        cases hf; exact hR _ (lp_eq rfl)
      intro hf; cbv
      cases hf; exact hR _ (lp_eq rfl)
    intro hf; cbv
    cases hf; exact hR _ (lp_eq rfl)
  intro hf; cbv
  cases hf; exact hR _ (lp_eq rfl)
end Go.Proofs.Ytjdakjnobladaaa
