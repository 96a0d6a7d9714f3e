/-
  Functions of this seat as plain functions, each with its walk (written by godec.py).
-/
import Derived.Test.YtlelpgnmmbbfaaaW2a
import Derived.Test.YtlelpgnmmbbfaaaW2b
namespace Go.Proofs.Ytlelpgnmmbbfaaa
open Go Go.Pv
set_option linter.all false
set_option linter.unusedVariables false
set_option linter.unusedSimpArgs false
set_option maxRecDepth 100000
set_option maxHeartbeats 2000000
theorem o16 {M : EncM} (hM : M = mapE) {s : GState} {r : GState} (hf : zone_Copy s = some r) : Pv.FnS Try.prog glF 16 [.agg (eGState M s)] [] 0 (fun u s n => u = .agg [.os 0 0 (M.n GPlayer r.players), .os 1 0 (M.n GObject r.objects), .os 2 0 (M.n Int r.battlefield), .os 3 0 (M.n Int r.exile), .os 4 0 (M.n GItem r.stack), .os 5 0 (M.n GWaiting r.waiting), .os 6 0 (M.n GCont r.conts), .si .i64 r.turn, .si .i64 r.active, .si .i64 r.step, .sb r.begun, .si .i64 r.priority, .si .i64 r.passes, .si .i64 r.nextId, .si .i64 r.nextStamp, .si .u64 r.seed, .os 7 0 (M.n Int r.extra), .si .i64 r.over, .si .i64 r.winner] ∧ s = [(0, some (.arr false 14 (M.m GPlayer (eGPlayer M) r.players))), (1, some (.arr false 19 (M.m GObject (eGObject M) r.objects))), (2, some (.arr false 1 (M.m Int (eI .i64) r.battlefield))), (3, some (.arr false 1 (M.m Int (eI .i64) r.exile))), (4, some (.arr false 94 (M.m GItem (eGItem M) r.stack))), (5, some (.arr false 89 (M.m GWaiting (eGWaiting M) r.waiting))), (6, some (.arr false 6 (M.m GCont (eGCont M) r.conts))), (7, some (.arr false 1 (M.m Int (eI .i64) r.extra)))] ∧ n = 8) := by
  refine fnS_dec (T := (tabx 0 [] [[(14, true), (19, true), (1, true), (1, true), (94, true), (89, true), (6, true), (0, false), (0, false), (0, false), (0, false), (0, false), (0, false), (0, false), (0, false), (0, false), (1, true), (0, false), (0, false)]])) (tabxOK 0 [] [[(14, true), (19, true), (1, true), (1, true), (94, true), (89, true), (6, true), (0, false), (0, false), (0, false), (0, false), (0, false), (0, false), (0, false), (0, false), (0, false), (1, true), (0, false), (0, false)]]) wf Try.func16 rfl Try.call16 rfl ?_
  intro S R hS hR
  have q := sf hM hS
  unfold zone_Copy at hf
  cbv
  refine d_callo hS hf (fun _ h => o23 hM h) (le_eq rfl) ?_
  intro y1 hf; cbv
  refine d_loop hS (tabxOK 0 [] [[(14, true), (19, true), (1, true), (1, true), (94, true), (89, true), (6, true), (0, false), (0, false), (0, false), (0, false), (0, false), (0, false), (0, false), (0, false), (0, false), (1, true), (0, false), (0, false)]]) wf [] [1, 2, 13, 14] (fun s2 => ⟨tpsL 0 138 [(1, .lv 0 0), (2, .lv 2 0), (13, .si .i64 (S.nint (M.n GPlayer y1))), (14, .si .i64 s2.1)], [(0, some (.var false [.os 1 0 (S.lenN (M.m GPlayer (eGPlayer M) s2.2)), .sl 19 (M.m GObject (eGObject M) s.objects) false, .sl 1 (M.m Int (eI .i64) s.battlefield) false, .sl 1 (M.m Int (eI .i64) s.exile) false, .sl 94 (M.m GItem (eGItem M) s.stack) false, .sl 89 (M.m GWaiting (eGWaiting M) s.waiting) false, .sl 6 (M.m GCont (eGCont M) s.conts) false, .si .i64 s.turn, .si .i64 s.active, .si .i64 s.step, .sb s.begun, .si .i64 s.priority, .si .i64 s.passes, .si .i64 s.nextId, .si .i64 s.nextStamp, .si .u64 s.seed, .sl 1 (M.m Int (eI .i64) s.extra) false, .si .i64 s.over, .si .i64 s.winner])), (1, some (.arr false 14 (M.m GPlayer (eGPlayer M) s2.2))), (2, some (.var false [.sl 0 [] true, .sl 0 [] true, .sl 0 [] true, .sl 0 [] true, .sl 0 [] true, .sl 0 [] true, .sl 0 [] true, .si .i64 0, .si .i64 0, .si .i64 0, .sb false, .si .i64 0, .si .i64 0, .si .i64 0, .si .i64 0, .si .u64 0, .sl 0 [] true, .si .i64 0, .si .i64 0]))], 3⟩) hf (by (conv => lhs; cbv) <;> (try simp only [q]) <;> (try rfl)) ?_
  intro Ik3 k3 s2 hk3 hf e he; subst he
  unfold zone_Copy_l4 at hf
  cbv
  refine d_br hS hf (by simp only [q]; try first | rfl | simp [stdCmp, eI, eB, eL, eS, q]) ?_ ?_
  · intro hf; cbv
    refine l_order hS (by kernel_rfl) ?_; cbv
    refine d_ix hS hf (by simp only [q]; try first | rfl | simp [stdCmp, eI, eB, eL, eS, q]) rfl ?_
    intro j5 _ hf; cbv
    refine d_row hS hM hf rfl (by simp only [q]; try first | rfl | simp [stdCmp, eI, eB, eL, eS, q]) ?_
    intro x6 hf; cbv
    refine d_call hS hf (fun _ h => c24 hM h) (le_eq rfl) ?_
    intro y7 hf; cbv
    refine d_ix hS hf (by simp only [q]; try first | rfl | simp [stdCmp, eI, eB, eL, eS, q]) rfl ?_
    intro j8 _ hf; cbv
    refine d_row hS hM hf rfl (by simp only [q]; try first | rfl | simp [stdCmp, eI, eB, eL, eS, q]) ?_
    intro x9 hf; cbv
    exact ⟨_, hf, by rw [hk3] <;> (conv => lhs; cbv) <;> (try simp only [q]) <;> (try rfl) <;> (try simp only [eL, q]) <;> (try rfl)⟩
  intro hf; cbv
  refine d_callo hS hf (fun _ h => o25 hM h) (le_eq rfl) ?_
  intro y10 hf; cbv
  refine d_callo hS hf (fun _ h => o26 hM h) (le_eq rfl) ?_
  intro y11 hf; cbv
  refine d_callo hS hf (fun _ h => o26 hM h) (le_eq rfl) ?_
  intro y12 hf; cbv
  refine d_callo hS hf (fun _ h => o27 hM h) (le_eq rfl) ?_
  intro y13 hf; cbv
  refine d_loop hS (tabxOK 0 [] [[(14, true), (19, true), (1, true), (1, true), (94, true), (89, true), (6, true), (0, false), (0, false), (0, false), (0, false), (0, false), (0, false), (0, false), (0, false), (0, false), (1, true), (0, false), (0, false)]]) wf [] [1, 2, 46, 47] (fun s14 => ⟨tpsL 0 138 [(1, .lv 0 0), (2, .lv 6 0), (46, .si .i64 (S.nint (M.n GItem y13))), (47, .si .i64 s14.1)], [(0, some (.var false [.os 1 0 (S.lenN (M.m GPlayer (eGPlayer M) s2.2)), .os 2 0 (S.lenN (M.m GObject (eGObject M) y10)), .os 3 0 (S.lenN (M.m Int (eI .i64) y11)), .os 4 0 (S.lenN (M.m Int (eI .i64) y12)), .os 5 0 (S.lenN (M.m GItem (eGItem M) s14.2)), .sl 89 (M.m GWaiting (eGWaiting M) s.waiting) false, .sl 6 (M.m GCont (eGCont M) s.conts) false, .si .i64 s.turn, .si .i64 s.active, .si .i64 s.step, .sb s.begun, .si .i64 s.priority, .si .i64 s.passes, .si .i64 s.nextId, .si .i64 s.nextStamp, .si .u64 s.seed, .sl 1 (M.m Int (eI .i64) s.extra) false, .si .i64 s.over, .si .i64 s.winner])), (1, some (.arr false 14 (M.m GPlayer (eGPlayer M) s2.2))), (2, some (.arr false 19 (M.m GObject (eGObject M) y10))), (3, some (.arr false 1 (M.m Int (eI .i64) y11))), (4, some (.arr false 1 (M.m Int (eI .i64) y12))), (5, some (.arr false 94 (M.m GItem (eGItem M) s14.2))), (6, some (.var false [.sl 0 [] true, .sl 0 [] true, .sl 0 [] true, .sl 0 [] true, .sl 0 [] true, .sl 0 [] true, .sl 0 [] true, .si .i64 0, .si .i64 0, .si .i64 0, .sb false, .si .i64 0, .si .i64 0, .si .i64 0, .si .i64 0, .si .u64 0, .sl 0 [] true, .si .i64 0, .si .i64 0]))], 7⟩) hf (by (conv => lhs; cbv) <;> (try simp only [q]) <;> (try rfl)) ?_
  intro Ik15 k15 s14 hk15 hf e he; subst he
  unfold zone_Copy_l3 at hf
  cbv
  refine d_br hS hf (by simp only [q]; try first | rfl | simp [stdCmp, eI, eB, eL, eS, q]) ?_ ?_
  · intro hf; cbv
    refine l_order hS (by kernel_rfl) ?_; cbv
    refine d_ix hS hf (by simp only [q]; try first | rfl | simp [stdCmp, eI, eB, eL, eS, q]) rfl ?_
    intro j17 _ hf; cbv
    refine d_row hS hM hf rfl (by simp only [q]; try first | rfl | simp [stdCmp, eI, eB, eL, eS, q]) ?_
    intro x18 hf; cbv
    refine d_call hS hf (fun _ h => c28 hM h) (le_eq rfl) ?_
    intro y19 hf; cbv
    refine d_ix hS hf (by simp only [q]; try first | rfl | simp [stdCmp, eI, eB, eL, eS, q]) rfl ?_
    intro j20 _ hf; cbv
    refine d_row hS hM hf rfl (by simp only [q]; try first | rfl | simp [stdCmp, eI, eB, eL, eS, q]) ?_
    intro x21 hf; cbv
    refine l_order hS (by kernel_rfl) ?_; cbv
    refine d_ix hS hf (by simp only [q]; try first | rfl | simp [stdCmp, eI, eB, eL, eS, q]) rfl ?_
    intro j22 _ hf; cbv
    refine d_row hS hM (e := (eGItem M)) hf (by simp only [q]; try first | rfl | simp [stdCmp, eI, eB, eL, eS, q]) (by simp only [q]; try first | rfl | simp [stdCmp, eI, eB, eL, eS, q]) ?_
    intro x23 hf; cbv
    refine d_call hS hf (fun _ h => c29 hM h) (le_eq rfl) ?_
    intro y24 hf; cbv
    refine d_ix hS hf (by simp only [q]; try first | rfl | simp [stdCmp, eI, eB, eL, eS, q]) rfl ?_
    intro j25 _ hf; cbv
    refine d_row hS hM (e := (eGItem M)) hf (by simp only [q]; try first | rfl | simp [stdCmp, eI, eB, eL, eS, q]) (by simp only [q]; try first | rfl | simp [stdCmp, eI, eB, eL, eS, q]) ?_
    intro x26 hf; cbv
    exact ⟨_, hf, by rw [hk15] <;> (conv => lhs; cbv) <;> (try simp only [q]) <;> (try rfl) <;> (try simp only [eL, q]) <;> (try rfl)⟩
  intro hf; cbv
  refine d_callo hS hf (fun _ h => o30 hM h) (le_eq rfl) ?_
  intro y27 hf; cbv
  refine d_loop hS (tabxOK 0 [] [[(14, true), (19, true), (1, true), (1, true), (94, true), (89, true), (6, true), (0, false), (0, false), (0, false), (0, false), (0, false), (0, false), (0, false), (0, false), (0, false), (1, true), (0, false), (0, false)]]) wf [] [1, 2, 81, 82] (fun s28 => ⟨tpsL 0 138 [(1, .lv 0 0), (2, .lv 7 0), (81, .si .i64 (S.nint (M.n GWaiting y27))), (82, .si .i64 s28.1)], [(0, some (.var false [.os 1 0 (S.lenN (M.m GPlayer (eGPlayer M) s2.2)), .os 2 0 (S.lenN (M.m GObject (eGObject M) y10)), .os 3 0 (S.lenN (M.m Int (eI .i64) y11)), .os 4 0 (S.lenN (M.m Int (eI .i64) y12)), .os 5 0 (S.lenN (M.m GItem (eGItem M) s14.2)), .os 6 0 (S.lenN (M.m GWaiting (eGWaiting M) s28.2)), .sl 6 (M.m GCont (eGCont M) s.conts) false, .si .i64 s.turn, .si .i64 s.active, .si .i64 s.step, .sb s.begun, .si .i64 s.priority, .si .i64 s.passes, .si .i64 s.nextId, .si .i64 s.nextStamp, .si .u64 s.seed, .sl 1 (M.m Int (eI .i64) s.extra) false, .si .i64 s.over, .si .i64 s.winner])), (1, some (.arr false 14 (M.m GPlayer (eGPlayer M) s2.2))), (2, some (.arr false 19 (M.m GObject (eGObject M) y10))), (3, some (.arr false 1 (M.m Int (eI .i64) y11))), (4, some (.arr false 1 (M.m Int (eI .i64) y12))), (5, some (.arr false 94 (M.m GItem (eGItem M) s14.2))), (6, some (.arr false 89 (M.m GWaiting (eGWaiting M) s28.2))), (7, some (.var false [.sl 0 [] true, .sl 0 [] true, .sl 0 [] true, .sl 0 [] true, .sl 0 [] true, .sl 0 [] true, .sl 0 [] true, .si .i64 0, .si .i64 0, .si .i64 0, .sb false, .si .i64 0, .si .i64 0, .si .i64 0, .si .i64 0, .si .u64 0, .sl 0 [] true, .si .i64 0, .si .i64 0]))], 8⟩) hf (by (conv => lhs; cbv) <;> (try simp only [q]) <;> (try rfl)) ?_
  intro Ik29 k29 s28 hk29 hf e he; subst he
  unfold zone_Copy_l2 at hf
  cbv
  refine d_br hS hf (by simp only [q]; try first | rfl | simp [stdCmp, eI, eB, eL, eS, q]) ?_ ?_
  · intro hf; cbv
    refine l_order hS (by kernel_rfl) ?_; cbv
    refine d_ix hS hf (by simp only [q]; try first | rfl | simp [stdCmp, eI, eB, eL, eS, q]) rfl ?_
    intro j31 _ hf; cbv
    refine d_row hS hM hf rfl (by simp only [q]; try first | rfl | simp [stdCmp, eI, eB, eL, eS, q]) ?_
    intro x32 hf; cbv
    refine d_call hS hf (fun _ h => c28 hM h) (le_eq rfl) ?_
    intro y33 hf; cbv
    refine d_ix hS hf (by simp only [q]; try first | rfl | simp [stdCmp, eI, eB, eL, eS, q]) rfl ?_
    intro j34 _ hf; cbv
    refine d_row hS hM hf rfl (by simp only [q]; try first | rfl | simp [stdCmp, eI, eB, eL, eS, q]) ?_
    intro x35 hf; cbv
    exact ⟨_, hf, by rw [hk29] <;> (conv => lhs; cbv) <;> (try simp only [q]) <;> (try rfl) <;> (try simp only [eL, q]) <;> (try rfl)⟩
  intro hf; cbv
  refine d_callo hS hf (fun _ h => o31 hM h) (le_eq rfl) ?_
  intro y36 hf; cbv
  refine d_loop hS (tabxOK 0 [] [[(14, true), (19, true), (1, true), (1, true), (94, true), (89, true), (6, true), (0, false), (0, false), (0, false), (0, false), (0, false), (0, false), (0, false), (0, false), (0, false), (1, true), (0, false), (0, false)]]) wf [] [1, 2, 104, 105] (fun s37 => ⟨tpsL 0 138 [(1, .lv 0 0), (2, .lv 8 0), (104, .si .i64 (S.nint (M.n GCont y36))), (105, .si .i64 s37.1)], [(0, some (.var false [.os 1 0 (S.lenN (M.m GPlayer (eGPlayer M) s2.2)), .os 2 0 (S.lenN (M.m GObject (eGObject M) y10)), .os 3 0 (S.lenN (M.m Int (eI .i64) y11)), .os 4 0 (S.lenN (M.m Int (eI .i64) y12)), .os 5 0 (S.lenN (M.m GItem (eGItem M) s14.2)), .os 6 0 (S.lenN (M.m GWaiting (eGWaiting M) s28.2)), .os 7 0 (S.lenN (M.m GCont (eGCont M) s37.2)), .si .i64 s.turn, .si .i64 s.active, .si .i64 s.step, .sb s.begun, .si .i64 s.priority, .si .i64 s.passes, .si .i64 s.nextId, .si .i64 s.nextStamp, .si .u64 s.seed, .sl 1 (M.m Int (eI .i64) s.extra) false, .si .i64 s.over, .si .i64 s.winner])), (1, some (.arr false 14 (M.m GPlayer (eGPlayer M) s2.2))), (2, some (.arr false 19 (M.m GObject (eGObject M) y10))), (3, some (.arr false 1 (M.m Int (eI .i64) y11))), (4, some (.arr false 1 (M.m Int (eI .i64) y12))), (5, some (.arr false 94 (M.m GItem (eGItem M) s14.2))), (6, some (.arr false 89 (M.m GWaiting (eGWaiting M) s28.2))), (7, some (.arr false 6 (M.m GCont (eGCont M) s37.2))), (8, some (.var false [.sl 0 [] true, .sl 0 [] true, .sl 0 [] true, .sl 0 [] true, .sl 0 [] true, .sl 0 [] true, .sl 0 [] true, .si .i64 0, .si .i64 0, .si .i64 0, .sb false, .si .i64 0, .si .i64 0, .si .i64 0, .si .i64 0, .si .u64 0, .sl 0 [] true, .si .i64 0, .si .i64 0]))], 9⟩) hf (by (conv => lhs; cbv) <;> (try simp only [q]) <;> (try rfl)) ?_
  intro Ik38 k38 s37 hk38 hf e he; subst he
  unfold zone_Copy_l1 at hf
  cbv
  refine d_br hS hf (by simp only [q]; try first | rfl | simp [stdCmp, eI, eB, eL, eS, q]) ?_ ?_
  · intro hf; cbv
    refine l_order hS (by kernel_rfl) ?_; cbv
    refine d_ix hS hf (by simp only [q]; try first | rfl | simp [stdCmp, eI, eB, eL, eS, q]) rfl ?_
    intro j40 _ hf; cbv
    refine d_row hS hM hf rfl (by simp only [q]; try first | rfl | simp [stdCmp, eI, eB, eL, eS, q]) ?_
    intro x41 hf; cbv
    refine d_call hS hf (fun _ h => c26 hM h) (le_eq rfl) ?_
    intro y42 hf; cbv
    refine d_ix hS hf (by simp only [q]; try first | rfl | simp [stdCmp, eI, eB, eL, eS, q]) rfl ?_
    intro j43 _ hf; cbv
    refine d_row hS hM hf rfl (by simp only [q]; try first | rfl | simp [stdCmp, eI, eB, eL, eS, q]) ?_
    intro x44 hf; cbv
    refine l_order hS (by kernel_rfl) ?_; cbv
    refine d_ix hS hf (by simp only [q]; try first | rfl | simp [stdCmp, eI, eB, eL, eS, q]) rfl ?_
    intro j45 _ hf; cbv
    refine d_row hS hM (e := (eGCont M)) hf (by simp only [q]; try first | rfl | simp [stdCmp, eI, eB, eL, eS, q]) (by simp only [q]; try first | rfl | simp [stdCmp, eI, eB, eL, eS, q]) ?_
    intro x46 hf; cbv
    refine d_call hS hf (fun _ h => c32 hM h) (le_eq rfl) ?_
    intro y47 hf; cbv
    refine d_ix hS hf (by simp only [q]; try first | rfl | simp [stdCmp, eI, eB, eL, eS, q]) rfl ?_
    intro j48 _ hf; cbv
    refine d_row hS hM (e := (eGCont M)) hf (by simp only [q]; try first | rfl | simp [stdCmp, eI, eB, eL, eS, q]) (by simp only [q]; try first | rfl | simp [stdCmp, eI, eB, eL, eS, q]) ?_
    intro x49 hf; cbv
    exact ⟨_, hf, by rw [hk38] <;> (conv => lhs; cbv) <;> (try simp only [q]) <;> (try rfl) <;> (try simp only [eL, q]) <;> (try rfl)⟩
  intro hf; cbv
  refine d_callo hS hf (fun _ h => o26 hM h) (le_eq rfl) ?_
  intro y50 hf; cbv
  cases hf; exact hR _ _ _ (by (try simp only [eGState, zGPlayer, zGObject, zGBound, zGFilter, zGMod, zGCost, zGPrice, zGTrigger, zGSpec, zGRef, zGAmount, zGEffect, zGReplace, zGAbility, zGTarget, zGEvent, zGItem, zGWaiting, zGCont, zGState, zArr2I, zArr3I, zArr5I, zArr6I, q]); repeat' constructor) (by (try simp only [eGState, zGPlayer, zGObject, zGBound, zGFilter, zGMod, zGCost, zGPrice, zGTrigger, zGSpec, zGRef, zGAmount, zGEffect, zGReplace, zGAbility, zGTarget, zGEvent, zGItem, zGWaiting, zGCont, zGState, zArr2I, zArr3I, zArr5I, zArr6I, q]); repeat' constructor) rfl
theorem c48 {M : EncM} (hM : M = mapE) {c : GChoice} {a : List Int} {r : Bool} (hf : ask_indexes c a = some r) : Pv.Fn Try.prog glF 48 [.agg (eGChoice M c), .sl 1 (M.m Int (eI .i64) a) false] (fun u => u = .sb r) := by
  refine fn_dec (T := (tabc [8])) (tabcOK [8]) rfl wf Try.func48 rfl Try.call48 rfl ?_
  intro S R hS hR
  have q := sf hM hS
  unfold ask_indexes at hf
  cbv
  refine d_loop hS (tabcOK [8]) wf [] [1, 2, 7, 8, 9] (fun s1 => ⟨tpsL 0 31 [(1, .sl 1 (M.m Int (eI .i64) a) false), (2, .lv 0 0), (7, .sl 1 (M.m Int (eI .i64) a) false), (8, .si .i64 (S.len (M.m Int (eI .i64) a))), (9, .si .i64 s1)], [(0, some (.var false (eGChoice M c)))], 1⟩) hf (by (conv => lhs; cbv) <;> (try simp only [q]) <;> (try rfl)) ?_
  intro Ik2 k2 s1 hk2 hf e he; subst he
  unfold ask_indexes_l1 at hf
  cbv
  refine d_br hS hf (by simp only [q]; try first | rfl | simp [stdCmp, eI, eB, eL, eS, q]) ?_ ?_
  · intro hf; cbv
    refine d_idx hS hM hf rfl rfl ?_
    intro x4 hf; cbv
    refine d_cut hS [] [1, 2, 7, 8, 9, 29] (fun s5 => ⟨tpsL 0 31 [(1, .sl 1 (M.m Int (eI .i64) a) false), (2, .lv 0 0), (7, .sl 1 (M.m Int (eI .i64) a) false), (8, .si .i64 (S.len (M.m Int (eI .i64) a))), (9, .si .i64 s1), (29, .sb s5)], [(0, some (.var false (eGChoice M c)))], 1⟩) hf ?_ ?_
    · intro Ik6 k6 hk6 hf; cbv
      refine d_br hS hf (by simp only [q]; try first | rfl | simp [stdCmp, eI, eB, eL, eS, q]) ?_ ?_
      · intro hf; cbv
        exact ⟨_, hf, by rw [hk6] <;> (conv => lhs; cbv) <;> (try simp only [q]) <;> (try rfl) <;> (try simp only [eL, q]) <;> (try rfl)⟩
      intro hf; cbv
      refine d_br hS hf (by simp only [q]; try first | rfl | simp [stdCmp, eI, eB, eL, eS, q]) ?_ ?_
      · intro hf; cbv
        exact ⟨_, hf, by rw [hk6] <;> (conv => lhs; cbv) <;> (try simp only [q]) <;> (try rfl) <;> (try simp only [eL, q]) <;> (try rfl)⟩
      intro hf; cbv
      refine d_callp hS hf (fun _ h => c53 hM h) (le_eq rfl) ?_
      intro y8 hf; cbv
      exact ⟨_, hf, by rw [hk6] <;> (conv => lhs; cbv) <;> (try simp only [q]) <;> (try rfl) <;> (try simp only [eL, q]) <;> (try rfl)⟩
    intro s5 hf; cbv
    refine d_br hS hf rfl ?_ ?_
    · intro hf; cbv
      cases hf; exact hR _ (lp_eq rfl)
    intro hf; cbv
    exact ⟨_, hf, by rw [hk2] <;> (conv => lhs; cbv) <;> (try simp only [q]) <;> (try rfl) <;> (try simp only [eL, q]) <;> (try rfl)⟩
  intro hf; cbv
  cases hf; exact hR _ (lp_eq rfl)
theorem c15 {M : EncM} (hM : M = mapE) {p : Arr6 Int} {c : GCost} {x : Int} {r : Bool} (hf : mana_CanPay p c x = some r) : Pv.Fn Try.prog glF 15 [.agg [.si .i64 p.a0, .si .i64 p.a1, .si .i64 p.a2, .si .i64 p.a3, .si .i64 p.a4, .si .i64 p.a5], .agg (eGCost M c), .si .i64 x] (fun u => u = .sb r) := by
  refine fn_dec (T := tab) tabOK rfl wf Try.func15 rfl Try.call15 rfl ?_
  intro S R hS hR
  have q := sf hM hS
  unfold mana_CanPay at hf
  cbv
  refine d_callp hS hf (fun _ h => c18 hM h) (le_eq rfl) ?_
  intro y1 hf; cbv
  cases hf; exact hR _ (lp_eq (by simp only [q]; try first | rfl | simp [stdCmp, eI, eB, eL, eS, q]))
theorem c11 {M : EncM} (hM : M = mapE) {p : Arr6 Int} {c : GCost} {x : Int} {r : Bool} (hf : r08_CanPay p c x = some r) : Pv.Fn Try.prog glF 11 [.agg [.si .i64 p.a0, .si .i64 p.a1, .si .i64 p.a2, .si .i64 p.a3, .si .i64 p.a4, .si .i64 p.a5], .agg (eGCost M c), .si .i64 x] (fun u => u = .sb r) := by
  refine fn_dec (T := tab) tabOK rfl wf Try.func11 rfl Try.call11 rfl ?_
  intro S R hS hR
  have q := sf hM hS
  unfold r08_CanPay at hf
  cbv
  refine d_callp hS hf (fun _ h => c20 hM h) (le_eq rfl) ?_
  intro y1 hf; cbv
  cases hf; exact hR _ (lp_eq (by simp only [q]; try first | rfl | simp [stdCmp, eI, eB, eL, eS, q]))
theorem c54 {M : EncM} (hM : M = mapE) {l : List Int} {n : Int} {r : Bool} (hf : idset_Has l n = some r) : Pv.Fn Try.prog glF 54 [.sl 1 (M.m Int (eI .i64) l) false, .si .i64 n] (fun u => u = .sb r) := by
  refine fn_dec (T := tab) tabOK rfl wf Try.func54 rfl Try.call54 rfl ?_
  intro S R hS hR
  have q := sf hM hS
  unfold idset_Has at hf
  cbv
  refine d_callp hS hf (fun _ h => c58 hM h) (le_eq rfl) ?_
  intro y1 hf; cbv
  cases hf; exact hR _ (lp_eq rfl)
end Go.Proofs.Ytlelpgnmmbbfaaa
