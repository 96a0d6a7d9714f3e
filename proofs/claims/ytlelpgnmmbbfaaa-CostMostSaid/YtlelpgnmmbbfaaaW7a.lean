/-
  Functions of this seat as plain functions, each with its walk (written by godec.py).
-/
import Derived.Test.YtlelpgnmmbbfaaaW6a
namespace Go.Proofs.Ytlelpgnmmbbfaaa
open Go Go.Pv
set_option linter.all false
set_option linter.unusedVariables false
set_option linter.unusedSimpArgs false
set_option maxRecDepth 100000
set_option maxHeartbeats 2000000
theorem s9 {M : EncM} (hM : M = mapE) {k : GAskAsker} {s : GState} {p : Int} {source : Int} {c : GCost} {r : GState × Int × Bool × GAskAsker} (hf : cost_Mana k s p source c = some r) : Pv.FnS Try.prog glF 9 [.lv 0 0, .agg (eGState M s), .si .i64 p, .si .i64 source, .agg (eGCost M c)] [(0, some (.var false (eGAskAsker M k)))] 1 (fun u s n => u = .tup [.agg [.os 1 0 (M.n GPlayer r.1.players), .os 2 0 (M.n GObject r.1.objects), .os 3 0 (M.n Int r.1.battlefield), .os 4 0 (M.n Int r.1.exile), .os 5 0 (M.n GItem r.1.stack), .os 6 0 (M.n GWaiting r.1.waiting), .os 7 0 (M.n GCont r.1.conts), .si .i64 r.1.turn, .si .i64 r.1.active, .si .i64 r.1.step, .sb r.1.begun, .si .i64 r.1.priority, .si .i64 r.1.passes, .si .i64 r.1.nextId, .si .i64 r.1.nextStamp, .si .u64 r.1.seed, .os 8 0 (M.n Int r.1.extra), .si .i64 r.1.over, .si .i64 r.1.winner], .si .i64 r.2.1, .sb r.2.2.1] ∧ s = [(0, some (.var false (eGAskAsker M r.2.2.2))), (1, some (.arr false 14 (M.m GPlayer (eGPlayer M) r.1.players))), (2, some (.arr false 19 (M.m GObject (eGObject M) r.1.objects))), (3, some (.arr false 1 (M.m Int (eI .i64) r.1.battlefield))), (4, some (.arr false 1 (M.m Int (eI .i64) r.1.exile))), (5, some (.arr false 94 (M.m GItem (eGItem M) r.1.stack))), (6, some (.arr false 89 (M.m GWaiting (eGWaiting M) r.1.waiting))), (7, some (.arr false 6 (M.m GCont (eGCont M) r.1.conts))), (8, some (.arr false 1 (M.m Int (eI .i64) r.1.extra)))] ∧ n = 9) := by
  refine fnS_dec (T := (tabx 1 [2, 19] [[(14, true), (19, true), (1, true), (1, true), (94, true), (89, true), (6, true), (0, false), (0, false), (0, false), (0, false), (0, false), (0, false), (0, false), (0, false), (0, false), (1, true), (0, false), (0, false)], [(0, false)], [(0, false)]])) (tabxOK 1 [2, 19] [[(14, true), (19, true), (1, true), (1, true), (94, true), (89, true), (6, true), (0, false), (0, false), (0, false), (0, false), (0, false), (0, false), (0, false), (0, false), (0, false), (1, true), (0, false), (0, false)], [(0, false)], [(0, false)]]) wf Try.func9 rfl Try.call9 rfl ?_
  intro S R hS hR
  have q := sf hM hS
  unfold cost_Mana at hf
  cbv
  refine d_cut hS [] [0, 2, 3, 6, 9, 10, 25] (fun s1 => ⟨tpsL 0 73 [(0, .lv 0 0), (2, .si .i64 p), (3, .si .i64 source), (6, .lv 1 0), (9, .lv 2 0), (10, .lv 3 0), (25, .sb s1)], [(0, some (.var false (eGAskAsker M k))), (1, some (.var false (eGState M s))), (2, some (.var false (eGCost M c))), (3, some (.var false [.sl 0 [] true, .sl 0 [] true, .sl 0 [] true, .sl 0 [] true, .sl 0 [] true, .sl 0 [] true, .sl 0 [] true, .si .i64 0, .si .i64 0, .si .i64 0, .sb false, .si .i64 0, .si .i64 0, .si .i64 0, .si .i64 0, .si .u64 0, .sl 0 [] true, .si .i64 0, .si .i64 0]))], 4⟩) hf ?_ ?_
  · intro Ik2 k2 hk2 hf; cbv
    refine d_br hS hf (by simp only [q]; try first | rfl | simp [stdCmp, eI, eB, eL, eS, q]) ?_ ?_
    · intro hf; cbv
      exact ⟨_, hf, by rw [hk2] <;> (conv => lhs; cbv) <;> (try simp only [q]) <;> (try rfl) <;> (try simp only [eL, q]) <;> (try rfl)⟩
    intro hf; cbv
    exact ⟨_, hf, by rw [hk2] <;> (conv => lhs; cbv) <;> (try simp only [q]) <;> (try rfl) <;> (try simp only [eL, q]) <;> (try rfl)⟩
  intro s1 hf; cbv
  refine d_br hS hf rfl ?_ ?_
  · intro hf; cbv
    refine d_callo hS hf (fun _ h => o16 hM h) (le_eq rfl) ?_
    intro y4 hf; cbv
    cases hf; exact hR _ _ _ (by (try simp only [eGState, eGAskAsker, zGPlayer, zGObject, zGBound, zGFilter, zGMod, zGCost, zGPrice, zGTrigger, zGSpec, zGRef, zGAmount, zGEffect, zGReplace, zGAbility, zGTarget, zGEvent, zGItem, zGWaiting, zGCont, zGState, zGOption, zGChoice, zGAskAsker, zArr2I, zArr3I, zArr5I, zArr6I, q]); repeat' constructor) (by (try simp only [eGState, eGAskAsker, zGPlayer, zGObject, zGBound, zGFilter, zGMod, zGCost, zGPrice, zGTrigger, zGSpec, zGRef, zGAmount, zGEffect, zGReplace, zGAbility, zGTarget, zGEvent, zGItem, zGWaiting, zGCont, zGState, zGOption, zGChoice, zGAskAsker, zArr2I, zArr3I, zArr5I, zArr6I, q]); repeat' constructor) rfl
  intro hf; cbv
  refine l_order hS (by kernel_rfl) ?_; cbv
  refine d_idx hS hM hf rfl rfl ?_
  intro x5 hf; cbv
  refine d_call hS hf (fun _ h => c6 hM h) (le_eq rfl) ?_
  intro y6 hf; cbv
  refine d_br hS hf (by simp only [q]; try first | rfl | simp [stdCmp, eI, eB, eL, eS, q]) ?_ ?_
  · intro hf; cbv
    refine d_callo hS hf (fun _ h => o16 hM h) (le_eq rfl) ?_
    intro y7 hf; cbv
    cases hf; exact hR _ _ _ (by (try simp only [eGState, eGAskAsker, zGPlayer, zGObject, zGBound, zGFilter, zGMod, zGCost, zGPrice, zGTrigger, zGSpec, zGRef, zGAmount, zGEffect, zGReplace, zGAbility, zGTarget, zGEvent, zGItem, zGWaiting, zGCont, zGState, zGOption, zGChoice, zGAskAsker, zArr2I, zArr3I, zArr5I, zArr6I, q]); repeat' constructor) (by (try simp only [eGState, eGAskAsker, zGPlayer, zGObject, zGBound, zGFilter, zGMod, zGCost, zGPrice, zGTrigger, zGSpec, zGRef, zGAmount, zGEffect, zGReplace, zGAbility, zGTarget, zGEvent, zGItem, zGWaiting, zGCont, zGState, zGOption, zGChoice, zGAskAsker, zArr2I, zArr3I, zArr5I, zArr6I, q]); repeat' constructor) rfl
  intro hf; cbv
  refine d_cut hS [] [2, 6, 9, 10, 14] (fun s8 => ⟨tpsL 0 73 [(2, .si .i64 p), (6, .lv 1 0), (9, .lv 2 0), (10, .lv 3 0), (14, .si .i64 s8.2)], [(0, some (.var false (eGAskAsker M s8.1))), (1, some (.var false (eGState M s))), (2, some (.var false (eGCost M c))), (3, some (.var false [.sl 0 [] true, .sl 0 [] true, .sl 0 [] true, .sl 0 [] true, .sl 0 [] true, .sl 0 [] true, .sl 0 [] true, .si .i64 0, .si .i64 0, .si .i64 0, .sb false, .si .i64 0, .si .i64 0, .si .i64 0, .si .i64 0, .si .u64 0, .sl 0 [] true, .si .i64 0, .si .i64 0]))], 4⟩) hf ?_ ?_
  · intro Ik9 k9 hk9 hf; cbv
    refine d_br hS hf (by simp only [q]; try first | rfl | simp [stdCmp, eI, eB, eL, eS, q]) ?_ ?_
    · intro hf; cbv
      refine d_callS hS hf (fun _ h => s17 hM h) (by (try simp only [eGAskAsker, eGChoice, zGOption, zGChoice, zGAskAsker, q]); repeat' constructor) (by (try simp only [eGAskAsker, eGChoice, zGOption, zGChoice, zGAskAsker, q]); repeat' constructor) rfl rfl rfl rfl ?_
      intro y11 hf; cbv
      refine d_idx hS hM hf rfl rfl ?_
      intro x12 hf; cbv
      exact ⟨_, hf, by rw [hk9] <;> (conv => lhs; cbv) <;> (try simp only [q]) <;> (try rfl) <;> (try simp only [eL, q]) <;> (try rfl)⟩
    intro hf; cbv
    exact ⟨_, hf, by rw [hk9] <;> (conv => lhs; cbv) <;> (try simp only [q]) <;> (try rfl) <;> (try simp only [eL, q]) <;> (try rfl)⟩
  intro s8 hf; cbv
  refine l_order hS (by kernel_rfl) ?_; cbv
  refine d_idx hS hM hf rfl rfl ?_
  intro x13 hf; cbv
  refine d_call hS hf (fun _ h => c18 hM h) (le_eq rfl) ?_
  intro y14 hf; cbv
  refine d_callo hS hf (fun _ h => o16 hM h) (le_eq rfl) ?_
  intro y15 hf; cbv
  refine d_ix hS hf (by simp only [q]; try first | rfl | simp [stdCmp, eI, eB, eL, eS, q]) rfl ?_
  intro j16 _ hf; cbv
  refine d_row hS hM hf rfl (by simp only [q]; try first | rfl | simp [stdCmp, eI, eB, eL, eS, q]) ?_
  intro x17 hf; cbv
  cases hf; exact hR _ _ _ (by (try simp only [eGState, eGAskAsker, zGPlayer, zGObject, zGBound, zGFilter, zGMod, zGCost, zGPrice, zGTrigger, zGSpec, zGRef, zGAmount, zGEffect, zGReplace, zGAbility, zGTarget, zGEvent, zGItem, zGWaiting, zGCont, zGState, zGOption, zGChoice, zGAskAsker, zArr2I, zArr3I, zArr5I, zArr6I, q]); repeat' constructor) (by (try simp only [eGState, eGAskAsker, zGPlayer, zGObject, zGBound, zGFilter, zGMod, zGCost, zGPrice, zGTrigger, zGSpec, zGRef, zGAmount, zGEffect, zGReplace, zGAbility, zGTarget, zGEvent, zGItem, zGWaiting, zGCont, zGState, zGOption, zGChoice, zGAskAsker, zArr2I, zArr3I, zArr5I, zArr6I, q]); repeat' constructor) rfl
end Go.Proofs.Ytlelpgnmmbbfaaa
