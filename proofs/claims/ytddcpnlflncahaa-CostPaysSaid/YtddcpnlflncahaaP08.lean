import Derived.Test.YtddcpnlflncahaaP05
import Derived.Test.YtddcpnlflncahaaP07
set_option linter.all false
namespace Go.Proofs.Ytddcpnlflncahaa
open Go Go.Pv
set_option maxRecDepth 100000
set_option maxHeartbeats 2000000
theorem c5 {M : EncM} (hM : M = mapE)  {r : Bool} (hf : law39_alive  = some r) : Pv.Fn Try.prog glF 5 [] (fun u => u = .sb r) := by
  refine fn_dec (T := (tabc [4])) (tabcOK [4]) rfl wf Try.func5 rfl Try.call5 rfl ?_
  intro S R hS hR
  have q := sf hM hS
  unfold law39_alive at hf
  cbv
  refine d_callo hS hf (fun _ => o8 hM) (le_eq rfl) ?_
  intro y1 hf; cbv
  refine l_seqC hS [.cF 1 0] ?_; cbv
  refine d_ix hS hf d_e rfl ?_
  intro j2 _ hf; cbv
  refine d_wk hS (e := (eArr6 (eI .i64))) hf (by (try simp only [q]); repeat' constructor) ?_
  intro x3 hf; cbv
  refine d_row hS hM hf rfl d_e ?_
  intro x4 hf; cbv
  refine d_o hS ?_; cbv
  refine d_callm hS [.cF 0 0] hf (fun _ => o10 hM) (by (try simp only [q]); repeat' constructor) (fun _ => (by (conv => lhs; cbv) <;> (try simp only [q]) <;> (try rfl))) ?_
  intro y5 hf; cbv
  refine d_callw hS hf (fun _ => s9 hM) d_st d_st rfl rfl ?_
  intro y6 hf; cbv
  refine d_o hS ?_; cbv
  refine d_callm hS [.cF 0 0] hf (fun _ => o10 hM) (by (try simp only [q]); repeat' constructor) (fun _ => (by (conv => lhs; cbv) <;> (try simp only [q]) <;> (try rfl))) ?_
  intro y7 hf; cbv
  refine d_callw hS hf (fun _ => s9 hM) d_st d_st rfl rfl ?_
  intro y8 hf; cbv
  refine d_o hS ?_; cbv
  refine d_wk hS (e := (eI .i64)) hf (by (try simp only [q]); repeat' constructor) ?_
  intro x9 hf; cbv
  refine d_callm hS [.cF 0 0] hf (fun _ => o10 hM) (by (try simp only [eL, eI, eB, eS, q]); repeat' constructor) (fun _ => (by (conv => lhs; cbv) <;> (try simp only [q]) <;> (try rfl))) ?_
  intro y10 hf; cbv
  refine d_callw hS hf (fun _ => s9 hM) d_st d_st rfl rfl ?_
  intro y11 hf; cbv
  refine d_p hS hf (fun _ => c6 hM) ?_
  intro y12 hf; cbv
  refine d_b hS hf ?_ ?_
  · intro hf; cbv
    refine d_p hS hf (fun _ => c6 hM) ?_
    intro y13 hf; cbv
    refine d_b hS hf ?_ ?_
    · intro hf; cbv
      refine d_p hS hf (fun _ => c6 hM) ?_
      intro y14 hf; cbv
      refine d_b hS hf ?_ ?_
      · intro hf; cbv
        refine d_br hS hf rfl ?_ ?_
        · intro hf; cbv
          refine d_b hS hf ?_ ?_
          · intro hf; cbv
            refine d_ix hS hf d_e rfl ?_
            intro j15 _ hf; cbv
            refine d_row hS hM hf rfl d_e ?_
            intro x16 hf; cbv
            replace hf := d_lt hf
            refine d_b hS hf ?_ ?_
            · intro hf; cbv
              refine d_b hS hf ?_ ?_
              · intro hf; cbv
                refine d_br hS hf rfl ?_ ?_
                · intro hf; cbv
                  cases hf; exact hR _ d_l
                intro hf; cbv
                cases hf; exact hR _ (lp_eq rfl)
              intro hf; cbv
              cases hf; exact hR _ (lp_eq rfl)
            intro hf; cbv
            cases hf; exact hR _ (lp_eq rfl)
          intro hf; cbv
          cases hf; exact hR _ (lp_eq rfl)
        intro hf; cbv
        cases hf; exact hR _ (lp_eq rfl)
      intro hf; cbv
      cases hf; exact hR _ (lp_eq rfl)
    intro hf; cbv
    cases hf; exact hR _ (lp_eq rfl)
  intro hf; cbv
  cases hf; exact hR _ (lp_eq rfl)
end Go.Proofs.Ytddcpnlflncahaa
namespace Go.Proofs.Ytddcpnlflncahaa
open Go Go.Pv
set_option maxRecDepth 100000
set_option maxHeartbeats 2000000
theorem c4 {M : EncM} (hM : M = mapE) {p : Arr6 Int} {c : GCost} {answer : Int} {r : Bool} (hf : law39_CostPays p c answer = some r) : Pv.Fn Try.prog glF 4 [.agg [.si .i64 p.a0, .si .i64 p.a1, .si .i64 p.a2, .si .i64 p.a3, .si .i64 p.a4, .si .i64 p.a5], .agg (eGCost M c), .si .i64 answer] (fun u => u = .sb r) := by
  refine fn_dec (T := (tabc [6, 10, 16, 18, 26, 30, 40, 42])) (tabcOK [6, 10, 16, 18, 26, 30, 40, 42]) rfl wf Try.func4 rfl Try.call4 rfl ?_
  intro S R hS hR
  have q := sf hM hS
  unfold law39_CostPays at hf
  cbv
  refine d_callo hS hf (fun _ => o8 hM) (le_eq rfl) ?_
  intro y1 hf; cbv
  refine d_ix hS hf d_e rfl ?_
  intro j2 _ hf; cbv
  refine d_row hS hM hf rfl d_e ?_
  intro x3 hf; cbv
  refine l_seqC hS [.cF 3 0] ?_; cbv
  refine d_p hS hf (fun _ => c6 hM) ?_
  intro y4 hf; cbv
  refine d_o hS ?_; cbv
  refine d_callm hS [.cF 0 0] hf (fun _ => o10 hM) (by (try simp only [eL, eI, eB, eS, q]); repeat' constructor) (fun _ => (by (conv => lhs; cbv) <;> (try simp only [q]) <;> (try rfl))) ?_
  intro y5 hf; cbv
  refine d_callw hS hf (fun _ => s9 hM) d_st d_st rfl rfl ?_
  intro y6 hf; cbv
  refine d_cut hS [] [3, 4, 7, 8, 9, 10, 11, 47] (fun s7 => ⟨tpsL 0 176 [(3, .lv 0 0), (4, .lv 1 0), (7, .lv 2 0), (8, .si .i64 y4), (9, .lv 3 0), (10, .si .i64 y6.2.1), (11, .sb y6.2.2.1), (47, .sb s7.1)], [(0, some (.var false [.si .i64 p.a0, .si .i64 p.a1, .si .i64 p.a2, .si .i64 p.a3, .si .i64 p.a4, .si .i64 p.a5])), (1, some (.var false (eGCost M c))), (2, some (.var false [.sl 14 (M.m GPlayer (eGPlayer M) s7.2) false, .sl 19 (M.m GObject (eGObject M) y1.objects) false, .sl 1 (M.m Int (eI .i64) y1.battlefield) false, .sl 1 (M.m Int (eI .i64) y1.exile) false, .sl 94 (M.m GItem (eGItem M) y1.stack) false, .sl 89 (M.m GWaiting (eGWaiting M) y1.waiting) false, .sl 6 (M.m GCont (eGCont M) y1.conts) false, .si .i64 y1.turn, .si .i64 y1.active, .si .i64 y1.step, .sb y1.begun, .si .i64 y1.priority, .si .i64 y1.passes, .si .i64 y1.nextId, .si .i64 y1.nextStamp, .si .u64 y1.seed, .sl 1 (M.m Int (eI .i64) y1.extra) false, .si .i64 y1.over, .si .i64 y1.winner])), (3, some (.var false [.os 4 0 (S.lenN (M.m GPlayer (eGPlayer M) y6.1.players)), .os 5 0 (S.lenN (M.m GObject (eGObject M) y6.1.objects)), .os 6 0 (S.lenN (M.m Int (eI .i64) y6.1.battlefield)), .os 7 0 (S.lenN (M.m Int (eI .i64) y6.1.exile)), .os 8 0 (S.lenN (M.m GItem (eGItem M) y6.1.stack)), .os 9 0 (S.lenN (M.m GWaiting (eGWaiting M) y6.1.waiting)), .os 10 0 (S.lenN (M.m GCont (eGCont M) y6.1.conts)), .si .i64 y6.1.turn, .si .i64 y6.1.active, .si .i64 y6.1.step, .sb y6.1.begun, .si .i64 y6.1.priority, .si .i64 y6.1.passes, .si .i64 y6.1.nextId, .si .i64 y6.1.nextStamp, .si .u64 y6.1.seed, .os 11 0 (S.lenN (M.m Int (eI .i64) y6.1.extra)), .si .i64 y6.1.over, .si .i64 y6.1.winner])), (4, some (.arr false 14 (M.m GPlayer (eGPlayer M) y6.1.players))), (5, some (.arr false 19 (M.m GObject (eGObject M) y6.1.objects))), (6, some (.arr false 1 (M.m Int (eI .i64) y6.1.battlefield))), (7, some (.arr false 1 (M.m Int (eI .i64) y6.1.exile))), (8, some (.arr false 94 (M.m GItem (eGItem M) y6.1.stack))), (9, some (.arr false 89 (M.m GWaiting (eGWaiting M) y6.1.waiting))), (10, some (.arr false 6 (M.m GCont (eGCont M) y6.1.conts))), (11, some (.arr false 1 (M.m Int (eI .i64) y6.1.extra)))], 12⟩) hf ?_ ?_
  · intro Ik8 k8 hk8 hf; cbv
    refine d_b hS hf ?_ ?_
    · intro hf; cbv
      exact d_x hk8 hf
    intro hf; cbv
    refine d_p hS hf (fun _ => c11 hM) ?_
    intro y10 hf; cbv
    exact d_x hk8 hf
  intro s7 hf; cbv
  refine d_br hS hf rfl ?_ ?_
  · intro hf; cbv
    cases hf; exact hR _ (lp_eq rfl)
  intro hf; cbv
  refine d_b hS hf ?_ ?_
  · intro hf; cbv
    refine d_cut hS [] [6] (fun s11 => ⟨tpsL 0 176 [(6, .sb s11)], [], 0⟩) hf ?_ ?_
    · intro Ik12 k12 hk12 hf; cbv
      refine d_p hS hf (fun _ => c5 hM) ?_
      intro y14 hf; cbv
      refine d_br hS hf rfl ?_ ?_
      · intro hf; cbv
        refine d_b hS hf ?_ ?_
        · intro hf; cbv
          refine d_callL hS hf (fun _ => c12 hM) d_ll (fun _ => rfl) ?_
          intro y15 hf; cbv
          exact d_x hk12 hf
        intro hf; cbv
        exact d_x hk12 hf
      intro hf; cbv
      exact d_x hk12 hf
    intro s11 hf; cbv
    cases hf; exact hR _ (lp_eq rfl)
  intro hf; cbv
  refine d_cut hS [] [3, 4, 7, 9, 10, 98] (fun s16 => ⟨tpsL 0 176 [(3, .lv 0 0), (4, .lv 1 0), (7, .lv 2 0), (9, .lv 3 0), (10, .si .i64 y6.2.1), (98, .sb s16)], [(0, some (.var false [.si .i64 p.a0, .si .i64 p.a1, .si .i64 p.a2, .si .i64 p.a3, .si .i64 p.a4, .si .i64 p.a5])), (1, some (.var false (eGCost M c))), (2, some (.var false [.sl 14 (M.m GPlayer (eGPlayer M) s7.2) false, .sl 19 (M.m GObject (eGObject M) y1.objects) false, .sl 1 (M.m Int (eI .i64) y1.battlefield) false, .sl 1 (M.m Int (eI .i64) y1.exile) false, .sl 94 (M.m GItem (eGItem M) y1.stack) false, .sl 89 (M.m GWaiting (eGWaiting M) y1.waiting) false, .sl 6 (M.m GCont (eGCont M) y1.conts) false, .si .i64 y1.turn, .si .i64 y1.active, .si .i64 y1.step, .sb y1.begun, .si .i64 y1.priority, .si .i64 y1.passes, .si .i64 y1.nextId, .si .i64 y1.nextStamp, .si .u64 y1.seed, .sl 1 (M.m Int (eI .i64) y1.extra) false, .si .i64 y1.over, .si .i64 y1.winner])), (3, some (.var false [.os 4 0 (S.lenN (M.m GPlayer (eGPlayer M) y6.1.players)), .os 5 0 (S.lenN (M.m GObject (eGObject M) y6.1.objects)), .os 6 0 (S.lenN (M.m Int (eI .i64) y6.1.battlefield)), .os 7 0 (S.lenN (M.m Int (eI .i64) y6.1.exile)), .os 8 0 (S.lenN (M.m GItem (eGItem M) y6.1.stack)), .os 9 0 (S.lenN (M.m GWaiting (eGWaiting M) y6.1.waiting)), .os 10 0 (S.lenN (M.m GCont (eGCont M) y6.1.conts)), .si .i64 y6.1.turn, .si .i64 y6.1.active, .si .i64 y6.1.step, .sb y6.1.begun, .si .i64 y6.1.priority, .si .i64 y6.1.passes, .si .i64 y6.1.nextId, .si .i64 y6.1.nextStamp, .si .u64 y6.1.seed, .os 11 0 (S.lenN (M.m Int (eI .i64) y6.1.extra)), .si .i64 y6.1.over, .si .i64 y6.1.winner])), (4, some (.arr false 14 (M.m GPlayer (eGPlayer M) y6.1.players))), (5, some (.arr false 19 (M.m GObject (eGObject M) y6.1.objects))), (6, some (.arr false 1 (M.m Int (eI .i64) y6.1.battlefield))), (7, some (.arr false 1 (M.m Int (eI .i64) y6.1.exile))), (8, some (.arr false 94 (M.m GItem (eGItem M) y6.1.stack))), (9, some (.arr false 89 (M.m GWaiting (eGWaiting M) y6.1.waiting))), (10, some (.arr false 6 (M.m GCont (eGCont M) y6.1.conts))), (11, some (.arr false 1 (M.m Int (eI .i64) y6.1.extra)))], 12⟩) hf ?_ ?_
  · intro Ik17 k17 hk17 hf; cbv
    refine d_b hS hf ?_ ?_
    · intro hf; cbv
      exact d_x hk17 hf
    intro hf; cbv
    refine d_b hS hf ?_ ?_
    · intro hf; cbv
      exact d_x hk17 hf
    intro hf; cbv
    refine d_p hS hf (fun _ => c11 hM) ?_
    intro y19 hf; cbv
    refine d_b hS hf ?_ ?_
    · intro hf; cbv
      exact d_x hk17 hf
    intro hf; cbv
    refine d_b hS hf ?_ ?_
    · intro hf; cbv
      refine d_b hS hf ?_ ?_
      · intro hf; cbv
        refine d_callp hS hf (fun _ => c11 hM) d_ll ?_
        intro y20 hf; cbv
        refine d_br hS hf rfl ?_ ?_
        · intro hf; cbv
          exact d_x hk17 hf
        intro hf; cbv
        refine d_b hS hf ?_ ?_
        · intro hf; cbv
          exact d_x hk17 hf
        intro hf; cbv
        exact d_x hk17 hf
      intro hf; cbv
      refine d_b hS hf ?_ ?_
      · intro hf; cbv
        exact d_x hk17 hf
      intro hf; cbv
      exact d_x hk17 hf
    intro hf; cbv
    refine d_b hS hf ?_ ?_
    · intro hf; cbv
      exact d_x hk17 hf
    intro hf; cbv
    exact d_x hk17 hf
  intro s16 hf; cbv
  refine d_br hS hf rfl ?_ ?_
  · intro hf; cbv
    cases hf; exact hR _ (lp_eq rfl)
  intro hf; cbv
  refine d_ix hS hf d_e rfl ?_
  intro j21 _ hf; cbv
  refine d_row hS hM hf rfl d_e ?_
  intro x22 hf; cbv
  refine d_lp hS (tabcOK [6, 10, 16, 18, 26, 30, 40, 42]) wf [] [3, 4, 7, 9, 10, 12, 104] (fun s23 => ⟨tpsL 0 176 [(3, .lv 0 0), (4, .lv 1 0), (7, .lv 2 0), (9, .lv 3 0), (10, .si .i64 y6.2.1), (12, .lv 12 0), (104, .si .i64 s23)], [(0, some (.var false [.si .i64 p.a0, .si .i64 p.a1, .si .i64 p.a2, .si .i64 p.a3, .si .i64 p.a4, .si .i64 p.a5])), (1, some (.var false (eGCost M c))), (2, some (.var false [.sl 14 (M.m GPlayer (eGPlayer M) s7.2) false, .sl 19 (M.m GObject (eGObject M) y1.objects) false, .sl 1 (M.m Int (eI .i64) y1.battlefield) false, .sl 1 (M.m Int (eI .i64) y1.exile) false, .sl 94 (M.m GItem (eGItem M) y1.stack) false, .sl 89 (M.m GWaiting (eGWaiting M) y1.waiting) false, .sl 6 (M.m GCont (eGCont M) y1.conts) false, .si .i64 y1.turn, .si .i64 y1.active, .si .i64 y1.step, .sb y1.begun, .si .i64 y1.priority, .si .i64 y1.passes, .si .i64 y1.nextId, .si .i64 y1.nextStamp, .si .u64 y1.seed, .sl 1 (M.m Int (eI .i64) y1.extra) false, .si .i64 y1.over, .si .i64 y1.winner])), (3, some (.var false [.os 4 0 (S.lenN (M.m GPlayer (eGPlayer M) y6.1.players)), .os 5 0 (S.lenN (M.m GObject (eGObject M) y6.1.objects)), .os 6 0 (S.lenN (M.m Int (eI .i64) y6.1.battlefield)), .os 7 0 (S.lenN (M.m Int (eI .i64) y6.1.exile)), .os 8 0 (S.lenN (M.m GItem (eGItem M) y6.1.stack)), .os 9 0 (S.lenN (M.m GWaiting (eGWaiting M) y6.1.waiting)), .os 10 0 (S.lenN (M.m GCont (eGCont M) y6.1.conts)), .si .i64 y6.1.turn, .si .i64 y6.1.active, .si .i64 y6.1.step, .sb y6.1.begun, .si .i64 y6.1.priority, .si .i64 y6.1.passes, .si .i64 y6.1.nextId, .si .i64 y6.1.nextStamp, .si .u64 y6.1.seed, .os 11 0 (S.lenN (M.m Int (eI .i64) y6.1.extra)), .si .i64 y6.1.over, .si .i64 y6.1.winner])), (4, some (.arr false 14 (M.m GPlayer (eGPlayer M) y6.1.players))), (5, some (.arr false 19 (M.m GObject (eGObject M) y6.1.objects))), (6, some (.arr false 1 (M.m Int (eI .i64) y6.1.battlefield))), (7, some (.arr false 1 (M.m Int (eI .i64) y6.1.exile))), (8, some (.arr false 94 (M.m GItem (eGItem M) y6.1.stack))), (9, some (.arr false 89 (M.m GWaiting (eGWaiting M) y6.1.waiting))), (10, some (.arr false 6 (M.m GCont (eGCont M) y6.1.conts))), (11, some (.arr false 1 (M.m Int (eI .i64) y6.1.extra))), (12, some (.var false [.si .i64 x22.pool.a0, .si .i64 x22.pool.a1, .si .i64 x22.pool.a2, .si .i64 x22.pool.a3, .si .i64 x22.pool.a4, .si .i64 x22.pool.a5]))], 13⟩) hf ?_
  intro Ik24 k24 s23 hk24 hf e he; subst he
  unfold law39_CostPays_l2 at hf
  cbv
  refine l_seq hS ?_; cbv
  refine d_b hS hf ?_ ?_
  · intro hf; cbv
    refine d_cut hS [] [3, 4, 7, 9, 10, 12, 104, 138] (fun s26 => ⟨tpsL 0 176 [(3, .lv 0 0), (4, .lv 1 0), (7, .lv 2 0), (9, .lv 3 0), (10, .si .i64 y6.2.1), (12, .lv 12 0), (104, .si .i64 s23), (138, .sb s26)], [(0, some (.var false [.si .i64 p.a0, .si .i64 p.a1, .si .i64 p.a2, .si .i64 p.a3, .si .i64 p.a4, .si .i64 p.a5])), (1, some (.var false (eGCost M c))), (2, some (.var false [.sl 14 (M.m GPlayer (eGPlayer M) s7.2) false, .sl 19 (M.m GObject (eGObject M) y1.objects) false, .sl 1 (M.m Int (eI .i64) y1.battlefield) false, .sl 1 (M.m Int (eI .i64) y1.exile) false, .sl 94 (M.m GItem (eGItem M) y1.stack) false, .sl 89 (M.m GWaiting (eGWaiting M) y1.waiting) false, .sl 6 (M.m GCont (eGCont M) y1.conts) false, .si .i64 y1.turn, .si .i64 y1.active, .si .i64 y1.step, .sb y1.begun, .si .i64 y1.priority, .si .i64 y1.passes, .si .i64 y1.nextId, .si .i64 y1.nextStamp, .si .u64 y1.seed, .sl 1 (M.m Int (eI .i64) y1.extra) false, .si .i64 y1.over, .si .i64 y1.winner])), (3, some (.var false [.os 4 0 (S.lenN (M.m GPlayer (eGPlayer M) y6.1.players)), .os 5 0 (S.lenN (M.m GObject (eGObject M) y6.1.objects)), .os 6 0 (S.lenN (M.m Int (eI .i64) y6.1.battlefield)), .os 7 0 (S.lenN (M.m Int (eI .i64) y6.1.exile)), .os 8 0 (S.lenN (M.m GItem (eGItem M) y6.1.stack)), .os 9 0 (S.lenN (M.m GWaiting (eGWaiting M) y6.1.waiting)), .os 10 0 (S.lenN (M.m GCont (eGCont M) y6.1.conts)), .si .i64 y6.1.turn, .si .i64 y6.1.active, .si .i64 y6.1.step, .sb y6.1.begun, .si .i64 y6.1.priority, .si .i64 y6.1.passes, .si .i64 y6.1.nextId, .si .i64 y6.1.nextStamp, .si .u64 y6.1.seed, .os 11 0 (S.lenN (M.m Int (eI .i64) y6.1.extra)), .si .i64 y6.1.over, .si .i64 y6.1.winner])), (4, some (.arr false 14 (M.m GPlayer (eGPlayer M) y6.1.players))), (5, some (.arr false 19 (M.m GObject (eGObject M) y6.1.objects))), (6, some (.arr false 1 (M.m Int (eI .i64) y6.1.battlefield))), (7, some (.arr false 1 (M.m Int (eI .i64) y6.1.exile))), (8, some (.arr false 94 (M.m GItem (eGItem M) y6.1.stack))), (9, some (.arr false 89 (M.m GWaiting (eGWaiting M) y6.1.waiting))), (10, some (.arr false 6 (M.m GCont (eGCont M) y6.1.conts))), (11, some (.arr false 1 (M.m Int (eI .i64) y6.1.extra))), (12, some (.var false [.si .i64 x22.pool.a0, .si .i64 x22.pool.a1, .si .i64 x22.pool.a2, .si .i64 x22.pool.a3, .si .i64 x22.pool.a4, .si .i64 x22.pool.a5]))], 13⟩) hf ?_ ?_
    · intro Ik27 k27 hk27 hf; cbv
      refine d_o hS ?_; cbv
      obtain ⟨j29, hj29, ej29, hf⟩ := d_cases hf
      refine d_ixa hS rfl ⟨j29, hj29, ej29, ?_⟩
      rcases lt6 hj29 with rfl | rfl | rfl | rfl | rfl | rfl
      · cbv
        refine d_b hS hf ?_ ?_
        · intro hf; cbv
          exact d_x hk27 hf
        intro hf; cbv
        refine d_ixk hS (m := 0) rfl ej29 (by decide) ?_
        cbv
        refine d_ixk hS (m := 0) rfl ej29 (by decide) ?_
        cbv
        refine d_b hS hf ?_ ?_
        · intro hf; cbv
          exact d_x hk27 hf
        intro hf; cbv
        refine d_b hS hf ?_ ?_
        · intro hf; cbv
          refine d_ixk hS (m := 0) rfl ej29 (by decide) ?_
          cbv
          refine d_ixk hS (m := 0) rfl ej29 (by decide) ?_
          cbv
          cases hf
        intro hf; cbv
        exact d_x hk27 hf
      · cbv
        refine d_b hS hf ?_ ?_
        · intro hf; cbv
          exact d_x hk27 hf
        intro hf; cbv
        refine d_ixk hS (m := 1) rfl ej29 (by decide) ?_
        cbv
        refine d_ixk hS (m := 1) rfl ej29 (by decide) ?_
        cbv
        refine d_b hS hf ?_ ?_
        · intro hf; cbv
          exact d_x hk27 hf
        intro hf; cbv
        refine d_b hS hf ?_ ?_
        · intro hf; cbv
          refine d_ixk hS (m := 1) rfl ej29 (by decide) ?_
          cbv
          refine d_ixk hS (m := 1) rfl ej29 (by decide) ?_
          cbv
          refine d_ixk hS (m := 0) d_e (by rw [ej29]; kernel_rfl) (by decide) ?_
          cbv
          exact d_x hk27 hf
        intro hf; cbv
        exact d_x hk27 hf
      · cbv
        refine d_b hS hf ?_ ?_
        · intro hf; cbv
          exact d_x hk27 hf
        intro hf; cbv
        refine d_ixk hS (m := 2) rfl ej29 (by decide) ?_
        cbv
        refine d_ixk hS (m := 2) rfl ej29 (by decide) ?_
        cbv
        refine d_b hS hf ?_ ?_
        · intro hf; cbv
          exact d_x hk27 hf
        intro hf; cbv
        refine d_b hS hf ?_ ?_
        · intro hf; cbv
          refine d_ixk hS (m := 2) rfl ej29 (by decide) ?_
          cbv
          refine d_ixk hS (m := 2) rfl ej29 (by decide) ?_
          cbv
          refine d_ixk hS (m := 1) d_e (by rw [ej29]; kernel_rfl) (by decide) ?_
          cbv
          exact d_x hk27 hf
        intro hf; cbv
        exact d_x hk27 hf
      · cbv
        refine d_b hS hf ?_ ?_
        · intro hf; cbv
          exact d_x hk27 hf
        intro hf; cbv
        refine d_ixk hS (m := 3) rfl ej29 (by decide) ?_
        cbv
        refine d_ixk hS (m := 3) rfl ej29 (by decide) ?_
        cbv
        refine d_b hS hf ?_ ?_
        · intro hf; cbv
          exact d_x hk27 hf
        intro hf; cbv
        refine d_b hS hf ?_ ?_
        · intro hf; cbv
          refine d_ixk hS (m := 3) rfl ej29 (by decide) ?_
          cbv
          refine d_ixk hS (m := 3) rfl ej29 (by decide) ?_
          cbv
          refine d_ixk hS (m := 2) d_e (by rw [ej29]; kernel_rfl) (by decide) ?_
          cbv
          exact d_x hk27 hf
        intro hf; cbv
        exact d_x hk27 hf
      · cbv
        refine d_b hS hf ?_ ?_
        · intro hf; cbv
          exact d_x hk27 hf
        intro hf; cbv
        refine d_ixk hS (m := 4) rfl ej29 (by decide) ?_
        cbv
        refine d_ixk hS (m := 4) rfl ej29 (by decide) ?_
        cbv
        refine d_b hS hf ?_ ?_
        · intro hf; cbv
          exact d_x hk27 hf
        intro hf; cbv
        refine d_b hS hf ?_ ?_
        · intro hf; cbv
          refine d_ixk hS (m := 4) rfl ej29 (by decide) ?_
          cbv
          refine d_ixk hS (m := 4) rfl ej29 (by decide) ?_
          cbv
          refine d_ixk hS (m := 3) d_e (by rw [ej29]; kernel_rfl) (by decide) ?_
          cbv
          exact d_x hk27 hf
        intro hf; cbv
        exact d_x hk27 hf
      cbv
      refine d_b hS hf ?_ ?_
      · intro hf; cbv
        exact d_x hk27 hf
      intro hf; cbv
      refine d_ixk hS (m := 5) rfl ej29 (by decide) ?_
      cbv
      refine d_ixk hS (m := 5) rfl ej29 (by decide) ?_
      cbv
      refine d_b hS hf ?_ ?_
      · intro hf; cbv
        exact d_x hk27 hf
      intro hf; cbv
      refine d_b hS hf ?_ ?_
      · intro hf; cbv
        refine d_ixk hS (m := 5) rfl ej29 (by decide) ?_
        cbv
        refine d_ixk hS (m := 5) rfl ej29 (by decide) ?_
        cbv
        refine d_ixk hS (m := 4) d_e (by rw [ej29]; kernel_rfl) (by decide) ?_
        cbv
        exact d_x hk27 hf
      intro hf; cbv
      exact d_x hk27 hf
    intro s26 hf; cbv
    refine d_br hS hf rfl ?_ ?_
    · intro hf; cbv
      cases hf; exact hR _ (lp_eq rfl)
    intro hf; cbv
    exact d_x hk24 hf
  intro hf; cbv
  refine d_lp hS (tabcOK [6, 10, 16, 18, 26, 30, 40, 42]) wf [] [3, 7, 9, 12, 14, 148, 149] (fun s30 => ⟨tpsL 0 176 [(3, .lv 0 0), (7, .lv 1 0), (9, .lv 2 0), (12, .lv 11 0), (14, .si .i64 s30.1), (148, .agg [.si .i64 c.color.a0, .si .i64 c.color.a1, .si .i64 c.color.a2, .si .i64 c.color.a3, .si .i64 c.color.a4]), (149, .si .i64 s30.2)], [(0, some (.var false [.si .i64 p.a0, .si .i64 p.a1, .si .i64 p.a2, .si .i64 p.a3, .si .i64 p.a4, .si .i64 p.a5])), (1, some (.var false [.sl 14 (M.m GPlayer (eGPlayer M) s7.2) false, .sl 19 (M.m GObject (eGObject M) y1.objects) false, .sl 1 (M.m Int (eI .i64) y1.battlefield) false, .sl 1 (M.m Int (eI .i64) y1.exile) false, .sl 94 (M.m GItem (eGItem M) y1.stack) false, .sl 89 (M.m GWaiting (eGWaiting M) y1.waiting) false, .sl 6 (M.m GCont (eGCont M) y1.conts) false, .si .i64 y1.turn, .si .i64 y1.active, .si .i64 y1.step, .sb y1.begun, .si .i64 y1.priority, .si .i64 y1.passes, .si .i64 y1.nextId, .si .i64 y1.nextStamp, .si .u64 y1.seed, .sl 1 (M.m Int (eI .i64) y1.extra) false, .si .i64 y1.over, .si .i64 y1.winner])), (2, some (.var false [.os 3 0 (S.lenN (M.m GPlayer (eGPlayer M) y6.1.players)), .os 4 0 (S.lenN (M.m GObject (eGObject M) y6.1.objects)), .os 5 0 (S.lenN (M.m Int (eI .i64) y6.1.battlefield)), .os 6 0 (S.lenN (M.m Int (eI .i64) y6.1.exile)), .os 7 0 (S.lenN (M.m GItem (eGItem M) y6.1.stack)), .os 8 0 (S.lenN (M.m GWaiting (eGWaiting M) y6.1.waiting)), .os 9 0 (S.lenN (M.m GCont (eGCont M) y6.1.conts)), .si .i64 y6.1.turn, .si .i64 y6.1.active, .si .i64 y6.1.step, .sb y6.1.begun, .si .i64 y6.1.priority, .si .i64 y6.1.passes, .si .i64 y6.1.nextId, .si .i64 y6.1.nextStamp, .si .u64 y6.1.seed, .os 10 0 (S.lenN (M.m Int (eI .i64) y6.1.extra)), .si .i64 y6.1.over, .si .i64 y6.1.winner])), (3, some (.arr false 14 (M.m GPlayer (eGPlayer M) y6.1.players))), (4, some (.arr false 19 (M.m GObject (eGObject M) y6.1.objects))), (5, some (.arr false 1 (M.m Int (eI .i64) y6.1.battlefield))), (6, some (.arr false 1 (M.m Int (eI .i64) y6.1.exile))), (7, some (.arr false 94 (M.m GItem (eGItem M) y6.1.stack))), (8, some (.arr false 89 (M.m GWaiting (eGWaiting M) y6.1.waiting))), (9, some (.arr false 6 (M.m GCont (eGCont M) y6.1.conts))), (10, some (.arr false 1 (M.m Int (eI .i64) y6.1.extra))), (11, some (.var false [.si .i64 x22.pool.a0, .si .i64 x22.pool.a1, .si .i64 x22.pool.a2, .si .i64 x22.pool.a3, .si .i64 x22.pool.a4, .si .i64 x22.pool.a5]))], 12⟩) hf ?_
  intro Ik31 k31 s30 hk31 hf e he; subst he
  unfold law39_CostPays_l1 at hf
  cbv
  refine l_seq hS ?_; cbv
  refine d_b hS hf ?_ ?_
  · intro hf; cbv
    refine d_cut hS [] [3, 7, 9, 12, 14, 16, 148, 149] (fun s33 => ⟨tpsL 0 176 [(3, .lv 0 0), (7, .lv 1 0), (9, .lv 2 0), (12, .lv 11 0), (14, .si .i64 s30.1), (16, .si .i64 s33), (148, .agg [.si .i64 c.color.a0, .si .i64 c.color.a1, .si .i64 c.color.a2, .si .i64 c.color.a3, .si .i64 c.color.a4]), (149, .si .i64 s30.2)], [(0, some (.var false [.si .i64 p.a0, .si .i64 p.a1, .si .i64 p.a2, .si .i64 p.a3, .si .i64 p.a4, .si .i64 p.a5])), (1, some (.var false [.sl 14 (M.m GPlayer (eGPlayer M) s7.2) false, .sl 19 (M.m GObject (eGObject M) y1.objects) false, .sl 1 (M.m Int (eI .i64) y1.battlefield) false, .sl 1 (M.m Int (eI .i64) y1.exile) false, .sl 94 (M.m GItem (eGItem M) y1.stack) false, .sl 89 (M.m GWaiting (eGWaiting M) y1.waiting) false, .sl 6 (M.m GCont (eGCont M) y1.conts) false, .si .i64 y1.turn, .si .i64 y1.active, .si .i64 y1.step, .sb y1.begun, .si .i64 y1.priority, .si .i64 y1.passes, .si .i64 y1.nextId, .si .i64 y1.nextStamp, .si .u64 y1.seed, .sl 1 (M.m Int (eI .i64) y1.extra) false, .si .i64 y1.over, .si .i64 y1.winner])), (2, some (.var false [.os 3 0 (S.lenN (M.m GPlayer (eGPlayer M) y6.1.players)), .os 4 0 (S.lenN (M.m GObject (eGObject M) y6.1.objects)), .os 5 0 (S.lenN (M.m Int (eI .i64) y6.1.battlefield)), .os 6 0 (S.lenN (M.m Int (eI .i64) y6.1.exile)), .os 7 0 (S.lenN (M.m GItem (eGItem M) y6.1.stack)), .os 8 0 (S.lenN (M.m GWaiting (eGWaiting M) y6.1.waiting)), .os 9 0 (S.lenN (M.m GCont (eGCont M) y6.1.conts)), .si .i64 y6.1.turn, .si .i64 y6.1.active, .si .i64 y6.1.step, .sb y6.1.begun, .si .i64 y6.1.priority, .si .i64 y6.1.passes, .si .i64 y6.1.nextId, .si .i64 y6.1.nextStamp, .si .u64 y6.1.seed, .os 10 0 (S.lenN (M.m Int (eI .i64) y6.1.extra)), .si .i64 y6.1.over, .si .i64 y6.1.winner])), (3, some (.arr false 14 (M.m GPlayer (eGPlayer M) y6.1.players))), (4, some (.arr false 19 (M.m GObject (eGObject M) y6.1.objects))), (5, some (.arr false 1 (M.m Int (eI .i64) y6.1.battlefield))), (6, some (.arr false 1 (M.m Int (eI .i64) y6.1.exile))), (7, some (.arr false 94 (M.m GItem (eGItem M) y6.1.stack))), (8, some (.arr false 89 (M.m GWaiting (eGWaiting M) y6.1.waiting))), (9, some (.arr false 6 (M.m GCont (eGCont M) y6.1.conts))), (10, some (.arr false 1 (M.m Int (eI .i64) y6.1.extra))), (11, some (.var false [.si .i64 x22.pool.a0, .si .i64 x22.pool.a1, .si .i64 x22.pool.a2, .si .i64 x22.pool.a3, .si .i64 x22.pool.a4, .si .i64 x22.pool.a5]))], 12⟩) hf ?_ ?_
    · intro Ik34 k34 hk34 hf; cbv
      obtain ⟨j36, hj36, ej36, hf⟩ := d_cases hf
      refine d_ixa hS rfl ⟨j36, hj36, ej36, ?_⟩
      rcases lt5 hj36 with rfl | rfl | rfl | rfl | rfl
      · cbv
        exact d_x hk34 hf
      · cbv
        exact d_x hk34 hf
      · cbv
        exact d_x hk34 hf
      · cbv
        exact d_x hk34 hf
      cbv
      exact d_x hk34 hf
    intro s33 hf; cbv
    exact d_x hk31 hf
  intro hf; cbv
  refine d_ix hS hf d_e rfl ?_
  intro j37 _ hf; cbv
  refine d_row hS hM hf rfl d_e ?_
  intro x38 hf; cbv
  refine d_o hS ?_; cbv
  refine d_c hS hf (fun _ => c5 hM) ?_
  intro y39 hf; cbv
  refine d_br hS hf rfl ?_ ?_
  · intro hf; cbv
    refine d_c hS hf (fun _ => c13 hM) ?_
    intro y40 hf; cbv
    refine d_c hS hf (fun _ => c13 hM) ?_
    intro y41 hf; cbv
    refine d_b hS hf ?_ ?_
    · intro hf; cbv
      refine d_callf hS hf (fun _ => c12 hM) (le_eq (by simp only [eGState, eGPlayer, q])) (fun _ => rfl) ?_
      intro y42 hf; cbv
      cases hf; exact hR _ (lp_eq rfl)
    intro hf; cbv
    cases hf; exact hR _ (lp_eq rfl)
  intro hf; cbv
  cases hf; exact hR _ (lp_eq rfl)
theorem c3 {M : EncM} (hM : M = mapE) {p : Arr6 Int} {c : GCost} {r : Bool} (hf : law39_CostMost p c = some r) : Pv.Fn Try.prog glF 3 [.agg [.si .i64 p.a0, .si .i64 p.a1, .si .i64 p.a2, .si .i64 p.a3, .si .i64 p.a4, .si .i64 p.a5], .agg (eGCost M c)] (fun u => u = .sb r) := by
  refine fn_dec (T := tab) tabOK rfl wf Try.func3 rfl Try.call3 rfl ?_
  intro S R hS hR
  have q := sf hM hS
  unfold law39_CostMost at hf
  cbv
  refine d_o hS ?_; cbv
  refine d_c hS hf (fun _ => c5 hM) ?_
  intro y1 hf; cbv
  refine d_br hS hf rfl ?_ ?_
  · intro hf; cbv
    refine d_c hS hf (fun _ => c6 hM) ?_
    intro y2 hf; cbv
    refine d_c hS hf (fun _ => c7 hM) ?_
    intro y3 hf; cbv
    cases hf; exact hR _ d_l
  intro hf; cbv
  cases hf; exact hR _ (lp_eq rfl)
end Go.Proofs.Ytddcpnlflncahaa
namespace Go.Pv
open Go
section
variable {α β σ τ ρ : Type} {Q : ρ → Prop}
def szB (s : ByteArray) : Prop := s.size ≤ 1048576
def szL (e : α → Prop) (l : List α) : Prop := l.length ≤ 1048576 ∧ ∀ x ∈ l, e x
theorem subI_eq {a b : Int} (h1 : -9223372036854775808 ≤ a - b) (h2 : a - b < 9223372036854775808) : subI a b = a - b := by
  show IntKind.i64.wrap (a - b) = a - b
  exact wrap_in h1 h2
theorem mulI_eq {a b : Int} (h1 : -9223372036854775808 ≤ a * b) (h2 : a * b < 9223372036854775808) : mulI a b = a * b := by
  show IntKind.i64.wrap (a * b) = a * b
  exact wrap_in h1 h2
theorem ok_lte {x : α} {k : α → Option ρ} (hk : ∀ y, y = x → Ok Q (k y)) : Ok Q (lt x k) := hk x rfl
theorem ok_divquo {kd : IntKind} {a b : Int} {k : Int → Option ρ} (h0 : b ≠ 0) (hk : ∀ x, x = kd.wrap (a.tdiv b) → Ok Q (k x)) : Ok Q (bnd (divO .quo kd a b) k) := by
  have : divO .quo kd a b = some (kd.wrap (a.tdiv b)) := by unfold divO; rw [decide_eq_false h0]; rfl
  rw [this]; exact hk _ rfl
theorem ok_sel {i : Int} {n : Nat} {k : Nat → Option ρ} (h0 : 0 ≤ i) (h1 : i < (n : Int)) (hk : ∀ j : Nat, (j : Int) = i ∧ j < n → Ok Q (k j)) : Ok Q (sel i n k) := by
  obtain ⟨m, rfl⟩ := Int.eq_ofNat_of_zero_le h0
  have hm : m < n := by omega
  show Ok Q (bif Nat.blt m n then k m else none)
  have : Nat.blt m n = true := by rw [Nat.blt_eq]; exact hm
  rw [this]; exact hk m ⟨rfl, hm⟩
theorem ok_nl {a b : Option ρ} (h : Ok Q b) : Ok Q (nlO a b) := by unfold nlO; cases a <;> exact h
end
end Go.Pv
