/-
  Functions of this seat as plain functions, each with its walk (written by godec.py).
-/
import Derived.Test.YtlelpgnmmbbfaaaW7a
namespace Go.Proofs.Ytlelpgnmmbbfaaa
open Go Go.Pv
set_option linter.all false
set_option linter.unusedVariables false
set_option linter.unusedSimpArgs false
set_option maxRecDepth 100000
set_option maxHeartbeats 2000000
theorem c5 {M : EncM} (hM : M = mapE)  {r : Bool} (hf : law39_alive  = some r) : Pv.Fn Try.prog glF 5 [] (fun u => u = .sb r) := by
  refine fn_dec (T := (tabc [4])) (tabcOK [4]) rfl wf Try.func5 rfl Try.call5 rfl ?_
  intro S R hS hR
  have q := sf hM hS
  unfold law39_alive at hf
  cbv
  refine d_callo hS hf (fun _ h => o8 hM h) (le_eq rfl) ?_
  intro y1 hf; cbv
  refine l_seqC hS [.cF 1 0] ?_; cbv
  refine d_ix hS hf (by simp only [q]; try first | rfl | simp [stdCmp, eI, eB, eL, eS, q]) rfl ?_
  intro j2 _ hf; cbv
  refine d_wk hS (e := (eArr6 (eI .i64))) hf (by (try simp only [q]); repeat' constructor) ?_
  intro x3 hf; cbv
  refine d_row hS hM hf rfl (by simp only [q]; try first | rfl | simp [stdCmp, eI, eB, eL, eS, q]) ?_
  intro x4 hf; cbv
  refine l_order hS (by kernel_rfl) ?_; cbv
  refine d_callm hS [.cF 0 0] hf (fun _ h => o10 hM h) (by (try simp only [q]); repeat' constructor) (fun _ => (by (conv => lhs; cbv) <;> (try simp only [q]) <;> (try rfl))) ?_
  intro y5 hf; cbv
  refine d_callw hS hf (fun _ h => s9 hM h) (by (try simp only [eGAskAsker, eGState, eGCost, zGOption, zGChoice, zGAskAsker, zGPlayer, zGObject, zGBound, zGFilter, zGMod, zGCost, zGPrice, zGTrigger, zGSpec, zGRef, zGAmount, zGEffect, zGReplace, zGAbility, zGTarget, zGEvent, zGItem, zGWaiting, zGCont, zGState, zArr2I, zArr3I, zArr5I, zArr6I, q]); repeat' constructor) (by (try simp only [eGAskAsker, eGState, eGCost, zGOption, zGChoice, zGAskAsker, zGPlayer, zGObject, zGBound, zGFilter, zGMod, zGCost, zGPrice, zGTrigger, zGSpec, zGRef, zGAmount, zGEffect, zGReplace, zGAbility, zGTarget, zGEvent, zGItem, zGWaiting, zGCont, zGState, zArr2I, zArr3I, zArr5I, zArr6I, q]); repeat' constructor) rfl rfl ?_
  intro y6 hf; cbv
  refine l_order hS (by kernel_rfl) ?_; cbv
  refine d_callm hS [.cF 0 0] hf (fun _ h => o10 hM h) (by (try simp only [q]); repeat' constructor) (fun _ => (by (conv => lhs; cbv) <;> (try simp only [q]) <;> (try rfl))) ?_
  intro y7 hf; cbv
  refine d_callw hS hf (fun _ h => s9 hM h) (by (try simp only [eGAskAsker, eGState, eGCost, zGOption, zGChoice, zGAskAsker, zGPlayer, zGObject, zGBound, zGFilter, zGMod, zGCost, zGPrice, zGTrigger, zGSpec, zGRef, zGAmount, zGEffect, zGReplace, zGAbility, zGTarget, zGEvent, zGItem, zGWaiting, zGCont, zGState, zArr2I, zArr3I, zArr5I, zArr6I, q]); repeat' constructor) (by (try simp only [eGAskAsker, eGState, eGCost, zGOption, zGChoice, zGAskAsker, zGPlayer, zGObject, zGBound, zGFilter, zGMod, zGCost, zGPrice, zGTrigger, zGSpec, zGRef, zGAmount, zGEffect, zGReplace, zGAbility, zGTarget, zGEvent, zGItem, zGWaiting, zGCont, zGState, zArr2I, zArr3I, zArr5I, zArr6I, q]); repeat' constructor) rfl rfl ?_
  intro y8 hf; cbv
  refine l_order hS (by kernel_rfl) ?_; cbv
  refine d_wk hS (e := (eI .i64)) hf (by (try simp only [q]); repeat' constructor) ?_
  intro x9 hf; cbv
  refine d_callm hS [.cF 0 0] hf (fun _ h => o10 hM h) (by (try simp only [eL, eI, eB, eS, q]); repeat' constructor) (fun _ => (by (conv => lhs; cbv) <;> (try simp only [q]) <;> (try rfl))) ?_
  intro y10 hf; cbv
  refine d_callw hS hf (fun _ h => s9 hM h) (by (try simp only [eGAskAsker, eGState, eGCost, zGOption, zGChoice, zGAskAsker, zGPlayer, zGObject, zGBound, zGFilter, zGMod, zGCost, zGPrice, zGTrigger, zGSpec, zGRef, zGAmount, zGEffect, zGReplace, zGAbility, zGTarget, zGEvent, zGItem, zGWaiting, zGCont, zGState, zArr2I, zArr3I, zArr5I, zArr6I, q]); repeat' constructor) (by (try simp only [eGAskAsker, eGState, eGCost, zGOption, zGChoice, zGAskAsker, zGPlayer, zGObject, zGBound, zGFilter, zGMod, zGCost, zGPrice, zGTrigger, zGSpec, zGRef, zGAmount, zGEffect, zGReplace, zGAbility, zGTarget, zGEvent, zGItem, zGWaiting, zGCont, zGState, zArr2I, zArr3I, zArr5I, zArr6I, q]); repeat' constructor) rfl rfl ?_
  intro y11 hf; cbv
  refine d_callp hS hf (fun _ h => c6 hM h) (le_eq rfl) ?_
  intro y12 hf; cbv
  refine d_br hS hf (by simp only [q]; try first | rfl | simp [stdCmp, eI, eB, eL, eS, q]) ?_ ?_
  · intro hf; cbv
    refine d_callp hS hf (fun _ h => c6 hM h) (le_eq rfl) ?_
    intro y13 hf; cbv
    refine d_br hS hf (by simp only [q]; try first | rfl | simp [stdCmp, eI, eB, eL, eS, q]) ?_ ?_
    · intro hf; cbv
      refine d_callp hS hf (fun _ h => c6 hM h) (le_eq rfl) ?_
      intro y14 hf; cbv
      refine d_br hS hf (by simp only [q]; try first | rfl | simp [stdCmp, eI, eB, eL, eS, q]) ?_ ?_
      · intro hf; cbv
        refine d_br hS hf rfl ?_ ?_
        · intro hf; cbv
          refine d_br hS hf (by simp only [q]; try first | rfl | simp [stdCmp, eI, eB, eL, eS, q]) ?_ ?_
          · intro hf; cbv
            refine d_ix hS hf (by simp only [q]; try first | rfl | simp [stdCmp, eI, eB, eL, eS, q]) rfl ?_
            intro j15 _ hf; cbv
            refine d_row hS hM hf rfl (by simp only [q]; try first | rfl | simp [stdCmp, eI, eB, eL, eS, q]) ?_
            intro x16 hf; cbv
            replace hf := d_lt hf
            refine d_br hS hf (by simp only [q]; try first | rfl | simp [stdCmp, eI, eB, eL, eS, q]) ?_ ?_
            · intro hf; cbv
              refine d_br hS hf (by simp only [q]; try first | rfl | simp [stdCmp, eI, eB, eL, eS, q]) ?_ ?_
              · intro hf; cbv
                refine d_br hS hf rfl ?_ ?_
                · intro hf; cbv
                  cases hf; exact hR _ (lp_eq (by simp only [q]; try first | rfl | simp [stdCmp, eI, eB, eL, eS, q]))
                intro hf; cbv
                cases hf; exact hR _ (lp_eq rfl)
              intro hf; cbv
              cases hf; exact hR _ (lp_eq rfl)
            intro hf; cbv
            cases hf; exact hR _ (lp_eq rfl)
          intro hf; cbv
          cases hf; exact hR _ (lp_eq rfl)
        intro hf; cbv
        cases hf; exact hR _ (lp_eq rfl)
      intro hf; cbv
      cases hf; exact hR _ (lp_eq rfl)
    intro hf; cbv
    cases hf; exact hR _ (lp_eq rfl)
  intro hf; cbv
  cases hf; exact hR _ (lp_eq rfl)
end Go.Proofs.Ytlelpgnmmbbfaaa
