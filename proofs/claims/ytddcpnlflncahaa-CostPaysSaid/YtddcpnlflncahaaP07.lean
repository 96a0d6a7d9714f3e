import Derived.Test.YtddcpnlflncahaaP06
set_option linter.all false
namespace Go.Proofs.Ytddcpnlflncahaa
open Go Go.Pv
set_option maxRecDepth 100000
set_option maxHeartbeats 2000000
theorem c40 {M : EncM} (hM : M = mapE) {p : Arr6 Int} {r : Bool} (hf : r08_Whole p = some r) : Pv.Fn Try.prog glF 40 [.agg [.si .i64 p.a0, .si .i64 p.a1, .si .i64 p.a2, .si .i64 p.a3, .si .i64 p.a4, .si .i64 p.a5]] (fun u => u = .sb r) := by
  refine fn_dec (T := (tabc [4, 8])) (tabcOK [4, 8]) rfl wf Try.func40 rfl Try.call40 rfl ?_
  intro S R hS hR
  have q := sf hM hS
  unfold r08_Whole at hf
  cbv
  refine d_lp hS (tabcOK [4, 8]) wf [] [1, 3] (fun s1 => ⟨tpsL 0 18 [(1, .lv 0 0), (3, .si .i64 s1)], [(0, some (.var false [.si .i64 p.a0, .si .i64 p.a1, .si .i64 p.a2, .si .i64 p.a3, .si .i64 p.a4, .si .i64 p.a5]))], 1⟩) hf ?_
  intro Ik2 k2 s1 hk2 hf e he; subst he
  unfold r08_Whole_l1 at hf
  cbv
  refine l_seq hS ?_; cbv
  refine d_b hS hf ?_ ?_
  · intro hf; cbv
    refine d_cut hS [] [1, 3, 17] (fun s4 => ⟨tpsL 0 18 [(1, .lv 0 0), (3, .si .i64 s1), (17, .sb s4)], [(0, some (.var false [.si .i64 p.a0, .si .i64 p.a1, .si .i64 p.a2, .si .i64 p.a3, .si .i64 p.a4, .si .i64 p.a5]))], 1⟩) hf ?_ ?_
    · intro Ik5 k5 hk5 hf; cbv
      obtain ⟨j7, hj7, ej7, hf⟩ := d_cases hf
      refine d_ixa hS rfl ⟨j7, hj7, ej7, ?_⟩
      rcases lt6 hj7 with rfl | rfl | rfl | rfl | rfl | rfl
      · cbv
        refine d_b hS hf ?_ ?_
        · intro hf; cbv
          exact d_x hk5 hf
        intro hf; cbv
        obtain ⟨j8, hj8, ej8, hf⟩ := d_cases hf
        refine d_ixa hS rfl ⟨j8, hj8, ej8, ?_⟩
        rcases lt6 hj8 with rfl | rfl | rfl | rfl | rfl | rfl
        · cbv
          exact d_x hk5 hf
        · cbv
          exact d_x hk5 hf
        · cbv
          exact d_x hk5 hf
        · cbv
          exact d_x hk5 hf
        · cbv
          exact d_x hk5 hf
        cbv
        exact d_x hk5 hf
      · cbv
        refine d_b hS hf ?_ ?_
        · intro hf; cbv
          exact d_x hk5 hf
        intro hf; cbv
        obtain ⟨j9, hj9, ej9, hf⟩ := d_cases hf
        refine d_ixa hS rfl ⟨j9, hj9, ej9, ?_⟩
        rcases lt6 hj9 with rfl | rfl | rfl | rfl | rfl | rfl
        · cbv
          exact d_x hk5 hf
        · cbv
          exact d_x hk5 hf
        · cbv
          exact d_x hk5 hf
        · cbv
          exact d_x hk5 hf
        · cbv
          exact d_x hk5 hf
        cbv
        exact d_x hk5 hf
      · cbv
        refine d_b hS hf ?_ ?_
        · intro hf; cbv
          exact d_x hk5 hf
        intro hf; cbv
        obtain ⟨j10, hj10, ej10, hf⟩ := d_cases hf
        refine d_ixa hS rfl ⟨j10, hj10, ej10, ?_⟩
        rcases lt6 hj10 with rfl | rfl | rfl | rfl | rfl | rfl
        · cbv
          exact d_x hk5 hf
        · cbv
          exact d_x hk5 hf
        · cbv
          exact d_x hk5 hf
        · cbv
          exact d_x hk5 hf
        · cbv
          exact d_x hk5 hf
        cbv
        exact d_x hk5 hf
      · cbv
        refine d_b hS hf ?_ ?_
        · intro hf; cbv
          exact d_x hk5 hf
        intro hf; cbv
        obtain ⟨j11, hj11, ej11, hf⟩ := d_cases hf
        refine d_ixa hS rfl ⟨j11, hj11, ej11, ?_⟩
        rcases lt6 hj11 with rfl | rfl | rfl | rfl | rfl | rfl
        · cbv
          exact d_x hk5 hf
        · cbv
          exact d_x hk5 hf
        · cbv
          exact d_x hk5 hf
        · cbv
          exact d_x hk5 hf
        · cbv
          exact d_x hk5 hf
        cbv
        exact d_x hk5 hf
      · cbv
        refine d_b hS hf ?_ ?_
        · intro hf; cbv
          exact d_x hk5 hf
        intro hf; cbv
        obtain ⟨j12, hj12, ej12, hf⟩ := d_cases hf
        refine d_ixa hS rfl ⟨j12, hj12, ej12, ?_⟩
        rcases lt6 hj12 with rfl | rfl | rfl | rfl | rfl | rfl
        · cbv
          exact d_x hk5 hf
        · cbv
          exact d_x hk5 hf
        · cbv
          exact d_x hk5 hf
        · cbv
          exact d_x hk5 hf
        · cbv
          exact d_x hk5 hf
        cbv
        exact d_x hk5 hf
      cbv
      refine d_b hS hf ?_ ?_
      · intro hf; cbv
        exact d_x hk5 hf
      intro hf; cbv
      obtain ⟨j13, hj13, ej13, hf⟩ := d_cases hf
      refine d_ixa hS rfl ⟨j13, hj13, ej13, ?_⟩
      rcases lt6 hj13 with rfl | rfl | rfl | rfl | rfl | rfl
      · cbv
        exact d_x hk5 hf
      · cbv
        exact d_x hk5 hf
      · cbv
        exact d_x hk5 hf
      · cbv
        exact d_x hk5 hf
      · cbv
        exact d_x hk5 hf
      cbv
      exact d_x hk5 hf
    intro s4 hf; cbv
    refine d_br hS hf rfl ?_ ?_
    · intro hf; cbv
      cases hf; exact hR _ (lp_eq rfl)
    intro hf; cbv
    exact d_x hk2 hf
  intro hf; cbv
  cases hf; exact hR _ (lp_eq rfl)
theorem c39 {M : EncM} (hM : M = mapE) {c : GCost} {r : Bool} (hf : r08_Is c = some r) : Pv.Fn Try.prog glF 39 [.agg (eGCost M c)] (fun u => u = .sb r) := by
  refine fn_dec (T := (tabc [2, 8, 12])) (tabcOK [2, 8, 12]) rfl wf Try.func39 rfl Try.call39 rfl ?_
  intro S R hS hR
  have q := sf hM hS
  unfold r08_Is at hf
  cbv
  refine d_cut hS [] [1, 21] (fun s1 => ⟨tpsL 0 38 [(1, .lv 0 0), (21, .sb s1)], [(0, some (.var false (eGCost M c)))], 1⟩) hf ?_ ?_
  · intro Ik2 k2 hk2 hf; cbv
    refine d_b hS hf ?_ ?_
    · intro hf; cbv
      exact d_x hk2 hf
    intro hf; cbv
    refine d_b hS hf ?_ ?_
    · intro hf; cbv
      exact d_x hk2 hf
    intro hf; cbv
    refine d_b hS hf ?_ ?_
    · intro hf; cbv
      exact d_x hk2 hf
    intro hf; cbv
    exact d_x hk2 hf
  intro s1 hf; cbv
  refine d_br hS hf rfl ?_ ?_
  · intro hf; cbv
    cases hf; exact hR _ (lp_eq rfl)
  intro hf; cbv
  refine d_lp hS (tabcOK [2, 8, 12]) wf [] [1, 3] (fun s4 => ⟨tpsL 0 38 [(1, .lv 0 0), (3, .si .i64 s4)], [(0, some (.var false (eGCost M c)))], 1⟩) hf ?_
  intro Ik5 k5 s4 hk5 hf e he; subst he
  unfold r08_Is_l1 at hf
  cbv
  refine l_seq hS ?_; cbv
  refine d_b hS hf ?_ ?_
  · intro hf; cbv
    refine d_cut hS [] [1, 3, 37] (fun s7 => ⟨tpsL 0 38 [(1, .lv 0 0), (3, .si .i64 s4), (37, .sb s7)], [(0, some (.var false (eGCost M c)))], 1⟩) hf ?_ ?_
    · intro Ik8 k8 hk8 hf; cbv
      obtain ⟨j10, hj10, ej10, hf⟩ := d_cases hf
      refine d_ixa hS rfl ⟨j10, hj10, ej10, ?_⟩
      rcases lt5 hj10 with rfl | rfl | rfl | rfl | rfl
      · cbv
        refine d_b hS hf ?_ ?_
        · intro hf; cbv
          exact d_x hk8 hf
        intro hf; cbv
        obtain ⟨j11, hj11, ej11, hf⟩ := d_cases hf
        refine d_ixa hS rfl ⟨j11, hj11, ej11, ?_⟩
        rcases lt5 hj11 with rfl | rfl | rfl | rfl | rfl
        · cbv
          exact d_x hk8 hf
        · cbv
          exact d_x hk8 hf
        · cbv
          exact d_x hk8 hf
        · cbv
          exact d_x hk8 hf
        cbv
        exact d_x hk8 hf
      · cbv
        refine d_b hS hf ?_ ?_
        · intro hf; cbv
          exact d_x hk8 hf
        intro hf; cbv
        obtain ⟨j12, hj12, ej12, hf⟩ := d_cases hf
        refine d_ixa hS rfl ⟨j12, hj12, ej12, ?_⟩
        rcases lt5 hj12 with rfl | rfl | rfl | rfl | rfl
        · cbv
          exact d_x hk8 hf
        · cbv
          exact d_x hk8 hf
        · cbv
          exact d_x hk8 hf
        · cbv
          exact d_x hk8 hf
        cbv
        exact d_x hk8 hf
      · cbv
        refine d_b hS hf ?_ ?_
        · intro hf; cbv
          exact d_x hk8 hf
        intro hf; cbv
        obtain ⟨j13, hj13, ej13, hf⟩ := d_cases hf
        refine d_ixa hS rfl ⟨j13, hj13, ej13, ?_⟩
        rcases lt5 hj13 with rfl | rfl | rfl | rfl | rfl
        · cbv
          exact d_x hk8 hf
        · cbv
          exact d_x hk8 hf
        · cbv
          exact d_x hk8 hf
        · cbv
          exact d_x hk8 hf
        cbv
        exact d_x hk8 hf
      · cbv
        refine d_b hS hf ?_ ?_
        · intro hf; cbv
          exact d_x hk8 hf
        intro hf; cbv
        obtain ⟨j14, hj14, ej14, hf⟩ := d_cases hf
        refine d_ixa hS rfl ⟨j14, hj14, ej14, ?_⟩
        rcases lt5 hj14 with rfl | rfl | rfl | rfl | rfl
        · cbv
          exact d_x hk8 hf
        · cbv
          exact d_x hk8 hf
        · cbv
          exact d_x hk8 hf
        · cbv
          exact d_x hk8 hf
        cbv
        exact d_x hk8 hf
      cbv
      refine d_b hS hf ?_ ?_
      · intro hf; cbv
        exact d_x hk8 hf
      intro hf; cbv
      obtain ⟨j15, hj15, ej15, hf⟩ := d_cases hf
      refine d_ixa hS rfl ⟨j15, hj15, ej15, ?_⟩
      rcases lt5 hj15 with rfl | rfl | rfl | rfl | rfl
      · cbv
        exact d_x hk8 hf
      · cbv
        exact d_x hk8 hf
      · cbv
        exact d_x hk8 hf
      · cbv
        exact d_x hk8 hf
      cbv
      exact d_x hk8 hf
    intro s7 hf; cbv
    refine d_br hS hf rfl ?_ ?_
    · intro hf; cbv
      cases hf; exact hR _ (lp_eq rfl)
    intro hf; cbv
    exact d_x hk5 hf
  intro hf; cbv
  cases hf; exact hR _ (lp_eq rfl)
theorem o8 {M : EncM} (hM : M = mapE) {players : Int} {first : Int} {seed : Int} {r : GState} (hf : r26_New players first seed = some r) : Pv.FnS Try.prog glF 8 [.si .i64 players, .si .i64 first, .si .u64 seed] [] 0 (fun u s n => u = .agg [.os 0 0 (M.n GPlayer r.players), .sl 19 (M.m GObject (eGObject M) r.objects) false, .sl 1 (M.m Int (eI .i64) r.battlefield) false, .sl 1 (M.m Int (eI .i64) r.exile) false, .sl 94 (M.m GItem (eGItem M) r.stack) false, .sl 89 (M.m GWaiting (eGWaiting M) r.waiting) false, .sl 6 (M.m GCont (eGCont M) r.conts) false, .si .i64 r.turn, .si .i64 r.active, .si .i64 r.step, .sb r.begun, .si .i64 r.priority, .si .i64 r.passes, .si .i64 r.nextId, .si .i64 r.nextStamp, .si .u64 r.seed, .sl 1 (M.m Int (eI .i64) r.extra) false, .si .i64 r.over, .si .i64 r.winner] ∧ s = [(0, some (.arr false 14 (M.m GPlayer (eGPlayer M) r.players)))] ∧ n = 1) := by
  refine fnS_dec (T := (tabx 0 [14] [[(14, true), (0, false), (0, false), (0, false), (0, false), (0, false), (0, false), (0, false), (0, false), (0, false), (0, false), (0, false), (0, false), (0, false), (0, false), (0, false), (0, false), (0, false), (0, false)]])) (tabxOK 0 [14] [[(14, true), (0, false), (0, false), (0, false), (0, false), (0, false), (0, false), (0, false), (0, false), (0, false), (0, false), (0, false), (0, false), (0, false), (0, false), (0, false), (0, false), (0, false), (0, false)]]) wf Try.func8 rfl Try.call8 rfl ?_
  intro S R hS hR
  have q := sf hM hS
  unfold r26_New at hf
  cbv
  refine d_lp hS (tabxOK 0 [14] [[(14, true), (0, false), (0, false), (0, false), (0, false), (0, false), (0, false), (0, false), (0, false), (0, false), (0, false), (0, false), (0, false), (0, false), (0, false), (0, false), (0, false), (0, false), (0, false)]]) wf [.cO 1 0 14] [1, 6, 7, 8, 9] (fun s1 => ⟨tpsL 0 38 [(1, .si .i64 first), (6, .lv 0 0), (7, .si .i64 (S.smin (S.smax players 2) 4)), (8, .lv 1 0), (9, .si .i64 s1.1)], [(0, some (.var false [.sl 0 [] true, .sl 0 [] true, .sl 0 [] true, .sl 0 [] true, .sl 0 [] true, .sl 0 [] true, .sl 0 [] true, .si .i64 0, .si .i64 0, .si .i64 0, .sb false, .si .i64 0, .si .i64 0, .si .i64 0, .si .i64 0, .si .u64 0, .sl 0 [] true, .si .i64 0, .si .i64 0])), (1, some (.var false [.os 2 0 (S.lenN (M.m GPlayer (eGPlayer M) s1.2)), .sl 0 [] true, .sl 0 [] true, .sl 0 [] true, .sl 0 [] true, .sl 0 [] true, .sl 0 [] true, .si .i64 0, .si .i64 0, .si .i64 0, .sb false, .si .i64 0, .si .i64 0, .si .i64 1, .si .i64 1, .si .u64 seed, .sl 0 [] true, .si .i64 0, .si .i64 (-1)])), (2, some (.arr false 14 (M.m GPlayer (eGPlayer M) s1.2)))], 3⟩) hf ?_
  intro Ik2 k2 s1 hk2 hf e he; subst he
  unfold r26_New_l1 at hf
  cbv
  replace hf := d_lt hf
  refine d_b hS hf ?_ ?_
  · intro hf; cbv
    refine d_wk hS (e := (eGPlayer M)) hf d_st ?_
    intro x5 hf; cbv
    refine d_room hS hf d_e ?_
    intro hf; cbv
    exact d_x hk2 hf
  intro hf; cbv
  refine d_cut hS [] [1, 6, 8, 32] (fun s6 => ⟨tpsL 0 38 [(1, .si .i64 first), (6, .lv 0 0), (8, .lv 1 0), (32, .sb s6)], [(0, some (.var false [.sl 0 [] true, .sl 0 [] true, .sl 0 [] true, .sl 0 [] true, .sl 0 [] true, .sl 0 [] true, .sl 0 [] true, .si .i64 0, .si .i64 0, .si .i64 0, .sb false, .si .i64 0, .si .i64 0, .si .i64 0, .si .i64 0, .si .u64 0, .sl 0 [] true, .si .i64 0, .si .i64 0])), (1, some (.var false [.os 2 0 (S.lenN (M.m GPlayer (eGPlayer M) s1.2)), .sl 0 [] true, .sl 0 [] true, .sl 0 [] true, .sl 0 [] true, .sl 0 [] true, .sl 0 [] true, .si .i64 0, .si .i64 0, .si .i64 0, .sb false, .si .i64 0, .si .i64 0, .si .i64 1, .si .i64 1, .si .u64 seed, .sl 0 [] true, .si .i64 0, .si .i64 (-1)])), (2, some (.arr false 14 (M.m GPlayer (eGPlayer M) s1.2)))], 3⟩) hf ?_ ?_
  · intro Ik7 k7 hk7 hf; cbv
    refine d_b hS hf ?_ ?_
    · intro hf; cbv
      replace hf := d_lt hf
      exact d_x hk7 hf
    intro hf; cbv
    exact d_x hk7 hf
  intro s6 hf; cbv
  refine d_br hS hf rfl ?_ ?_
  · intro hf; cbv
    cases hf; exact hR _ _ _ d_st d_st rfl
  intro hf; cbv
  cases hf; exact hR _ _ _ d_st d_st rfl
theorem c37 {M : EncM} (hM : M = mapE) {c : GCost} {r : Bool} (hf : mana_Is c = some r) : Pv.Fn Try.prog glF 37 [.agg (eGCost M c)] (fun u => u = .sb r) := by
  refine fn_dec (T := (tabc [4, 6, 8])) (tabcOK [4, 6, 8]) rfl wf Try.func37 rfl Try.call37 rfl ?_
  intro S R hS hR
  have q := sf hM hS
  unfold mana_Is at hf
  cbv
  refine d_lp hS (tabcOK [4, 6, 8]) wf [] [1, 6, 7] (fun s1 => ⟨tpsL 0 35 [(1, .lv 0 0), (6, .agg [.si .i64 c.color.a0, .si .i64 c.color.a1, .si .i64 c.color.a2, .si .i64 c.color.a3, .si .i64 c.color.a4]), (7, .si .i64 s1)], [(0, some (.var false (eGCost M c)))], 1⟩) hf ?_
  intro Ik2 k2 s1 hk2 hf e he; subst he
  unfold mana_Is_l1 at hf
  cbv
  refine l_seq hS ?_; cbv
  refine d_b hS hf ?_ ?_
  · intro hf; cbv
    refine d_cut hS [] [1, 4, 6, 7] (fun s4 => ⟨tpsL 0 35 [(1, .lv 0 0), (4, .si .i64 s4), (6, .agg [.si .i64 c.color.a0, .si .i64 c.color.a1, .si .i64 c.color.a2, .si .i64 c.color.a3, .si .i64 c.color.a4]), (7, .si .i64 s1)], [(0, some (.var false (eGCost M c)))], 1⟩) hf ?_ ?_
    · intro Ik5 k5 hk5 hf; cbv
      obtain ⟨j7, hj7, ej7, hf⟩ := d_cases hf
      refine d_ixa hS rfl ⟨j7, hj7, ej7, ?_⟩
      rcases lt5 hj7 with rfl | rfl | rfl | rfl | rfl
      · cbv
        exact d_x hk5 hf
      · cbv
        exact d_x hk5 hf
      · cbv
        exact d_x hk5 hf
      · cbv
        exact d_x hk5 hf
      cbv
      exact d_x hk5 hf
    intro s4 hf; cbv
    refine d_cut hS [] [1, 6, 7, 15] (fun s8 => ⟨tpsL 0 35 [(1, .lv 0 0), (6, .agg [.si .i64 c.color.a0, .si .i64 c.color.a1, .si .i64 c.color.a2, .si .i64 c.color.a3, .si .i64 c.color.a4]), (7, .si .i64 s1), (15, .sb s8)], [(0, some (.var false (eGCost M c)))], 1⟩) hf ?_ ?_
    · intro Ik9 k9 hk9 hf; cbv
      refine d_b hS hf ?_ ?_
      · intro hf; cbv
        exact d_x hk9 hf
      intro hf; cbv
      exact d_x hk9 hf
    intro s8 hf; cbv
    refine d_br hS hf rfl ?_ ?_
    · intro hf; cbv
      cases hf; exact hR _ (lp_eq rfl)
    intro hf; cbv
    exact d_x hk2 hf
  intro hf; cbv
  refine d_b hS hf ?_ ?_
  · intro hf; cbv
    refine d_b hS hf ?_ ?_
    · intro hf; cbv
      refine d_b hS hf ?_ ?_
      · intro hf; cbv
        cases hf; exact hR _ d_l
      intro hf; cbv
      cases hf; exact hR _ (lp_eq rfl)
    intro hf; cbv
    cases hf; exact hR _ (lp_eq rfl)
  intro hf; cbv
  cases hf; exact hR _ (lp_eq rfl)
theorem c38 {M : EncM} (hM : M = mapE) {p : Arr6 Int} {r : Bool} (hf : mana_Whole p = some r) : Pv.Fn Try.prog glF 38 [.agg [.si .i64 p.a0, .si .i64 p.a1, .si .i64 p.a2, .si .i64 p.a3, .si .i64 p.a4, .si .i64 p.a5]] (fun u => u = .sb r) := by
  refine fn_dec (T := (tabc [4, 6, 8])) (tabcOK [4, 6, 8]) rfl wf Try.func38 rfl Try.call38 rfl ?_
  intro S R hS hR
  have q := sf hM hS
  unfold mana_Whole at hf
  cbv
  refine d_lp hS (tabcOK [4, 6, 8]) wf [] [5, 6] (fun s1 => ⟨tpsL 0 16 [(5, .agg [.si .i64 p.a0, .si .i64 p.a1, .si .i64 p.a2, .si .i64 p.a3, .si .i64 p.a4, .si .i64 p.a5]), (6, .si .i64 s1)], [], 0⟩) hf ?_
  intro Ik2 k2 s1 hk2 hf e he; subst he
  unfold mana_Whole_l1 at hf
  cbv
  refine l_seq hS ?_; cbv
  refine d_b hS hf ?_ ?_
  · intro hf; cbv
    refine d_cut hS [] [4, 5, 6] (fun s4 => ⟨tpsL 0 16 [(4, .si .i64 s4), (5, .agg [.si .i64 p.a0, .si .i64 p.a1, .si .i64 p.a2, .si .i64 p.a3, .si .i64 p.a4, .si .i64 p.a5]), (6, .si .i64 s1)], [], 0⟩) hf ?_ ?_
    · intro Ik5 k5 hk5 hf; cbv
      obtain ⟨j7, hj7, ej7, hf⟩ := d_cases hf
      refine d_ixa hS rfl ⟨j7, hj7, ej7, ?_⟩
      rcases lt6 hj7 with rfl | rfl | rfl | rfl | rfl | rfl
      · cbv
        exact d_x hk5 hf
      · cbv
        exact d_x hk5 hf
      · cbv
        exact d_x hk5 hf
      · cbv
        exact d_x hk5 hf
      · cbv
        exact d_x hk5 hf
      cbv
      exact d_x hk5 hf
    intro s4 hf; cbv
    refine d_cut hS [] [5, 6, 14] (fun s8 => ⟨tpsL 0 16 [(5, .agg [.si .i64 p.a0, .si .i64 p.a1, .si .i64 p.a2, .si .i64 p.a3, .si .i64 p.a4, .si .i64 p.a5]), (6, .si .i64 s1), (14, .sb s8)], [], 0⟩) hf ?_ ?_
    · intro Ik9 k9 hk9 hf; cbv
      refine d_b hS hf ?_ ?_
      · intro hf; cbv
        exact d_x hk9 hf
      intro hf; cbv
      exact d_x hk9 hf
    intro s8 hf; cbv
    refine d_br hS hf rfl ?_ ?_
    · intro hf; cbv
      cases hf; exact hR _ (lp_eq rfl)
    intro hf; cbv
    exact d_x hk2 hf
  intro hf; cbv
  cases hf; exact hR _ (lp_eq rfl)
theorem c50 {M : EncM} (hM : M = mapE) {c : GChoice} {a : List Int} {r : Bool} (hf : ask_assigned c a = some r) : Pv.Fn Try.prog glF 50 [.agg (eGChoice M c), .sl 1 (M.m Int (eI .i64) a) false] (fun u => u = .sb r) := by
  refine fn_dec (T := (tabc [10])) (tabcOK [10]) rfl wf Try.func50 rfl Try.call50 rfl ?_
  intro S R hS hR
  have q := sf hM hS
  unfold ask_assigned at hf
  cbv
  refine d_lp hS (tabcOK [10]) wf [] [1, 2, 5, 8, 9, 10] (fun s1 => ⟨tpsL 0 36 [(1, .sl 1 (M.m Int (eI .i64) a) false), (2, .lv 0 0), (5, .si .i64 s1.1), (8, .sl 1 (M.m Int (eI .i64) a) false), (9, .si .i64 (S.len (M.m Int (eI .i64) a))), (10, .si .i64 s1.2)], [(0, some (.var false (eGChoice M c)))], 1⟩) hf ?_
  intro Ik2 k2 s1 hk2 hf e he; subst he
  unfold ask_assigned_l1 at hf
  cbv
  refine d_b hS hf ?_ ?_
  · intro hf; cbv
    refine d_idx hS hM hf rfl rfl ?_
    intro x4 hf; cbv
    refine d_cut hS [] [1, 2, 5, 7, 8, 9, 10, 19] (fun s5 => ⟨tpsL 0 36 [(1, .sl 1 (M.m Int (eI .i64) a) false), (2, .lv 0 0), (5, .si .i64 s1.1), (7, .si .i64 x4), (8, .sl 1 (M.m Int (eI .i64) a) false), (9, .si .i64 (S.len (M.m Int (eI .i64) a))), (10, .si .i64 s1.2), (19, .sb s5)], [(0, some (.var false (eGChoice M c)))], 1⟩) hf ?_ ?_
    · intro Ik6 k6 hk6 hf; cbv
      refine d_b hS hf ?_ ?_
      · intro hf; cbv
        exact d_x hk6 hf
      intro hf; cbv
      exact d_x hk6 hf
    intro s5 hf; cbv
    refine d_br hS hf rfl ?_ ?_
    · intro hf; cbv
      cases hf; exact hR _ (lp_eq rfl)
    intro hf; cbv
    exact d_x hk2 hf
  intro hf; cbv
  refine d_b hS hf ?_ ?_
  · intro hf; cbv
    cases hf; exact hR _ d_l
  intro hf; cbv
  cases hf; exact hR _ (lp_eq rfl)
theorem c33 {M : EncM} (hM : M = mapE) {c : GChoice} {r : Bool} (hf : ask_Forced c = some r) : Pv.Fn Try.prog glF 33 [.agg (eGChoice M c)] (fun u => u = .sb r) := by
  refine fn_dec (T := tab) tabOK rfl wf Try.func33 rfl Try.call33 rfl ?_
  intro S R hS hR
  have q := sf hM hS
  unfold ask_Forced at hf
  cbv
  refine d_b hS hf ?_ ?_
  · intro hf; cbv
    cases hf; exact hR _ d_l
  intro hf; cbv
  refine d_b hS hf ?_ ?_
  · intro hf; cbv
    cases hf; exact hR _ d_l
  intro hf; cbv
  refine d_b hS hf ?_ ?_
  · intro hf; cbv
    cases hf; exact hR _ d_l
  intro hf; cbv
  refine d_b hS hf ?_ ?_
  · intro hf; cbv
    cases hf; exact hR _ d_l
  intro hf; cbv
  refine d_b hS hf ?_ ?_
  · intro hf; cbv
    cases hf; exact hR _ d_l
  intro hf; cbv
  refine d_b hS hf ?_ ?_
  · intro hf; cbv
    cases hf; exact hR _ d_l
  intro hf; cbv
  refine d_b hS hf ?_ ?_
  · intro hf; cbv
    cases hf; exact hR _ d_l
  intro hf; cbv
  refine d_b hS hf ?_ ?_
  · intro hf; cbv
    cases hf; exact hR _ d_l
  intro hf; cbv
  refine d_b hS hf ?_ ?_
  · intro hf; cbv
    cases hf; exact hR _ d_l
  intro hf; cbv
  refine d_b hS hf ?_ ?_
  · intro hf; cbv
    refine d_b hS hf ?_ ?_
    · intro hf; cbv
      refine d_b hS hf ?_ ?_
      · intro hf; cbv
        cases hf; exact hR _ (lp_eq rfl)
      intro hf; cbv
      cases hf; exact hR _ d_l
    intro hf; cbv
    cases hf; exact hR _ (lp_eq rfl)
  intro hf; cbv
  refine d_b hS hf ?_ ?_
  · intro hf; cbv
    cases hf; exact hR _ d_l
  intro hf; cbv
  cases hf; exact hR _ (lp_eq rfl)
theorem c13 {M : EncM} (hM : M = mapE) {p : Arr6 Int} {r : Int} (hf : law39_total p = some r) : Pv.Fn Try.prog glF 13 [.agg [.si .i64 p.a0, .si .i64 p.a1, .si .i64 p.a2, .si .i64 p.a3, .si .i64 p.a4, .si .i64 p.a5]] (fun u => u = .si .i64 r) := by
  refine fn_dec (T := (tabc [6, 8])) (tabcOK [6, 8]) rfl wf Try.func13 rfl Try.call13 rfl ?_
  intro S R hS hR
  have q := sf hM hS
  unfold law39_total at hf
  cbv
  refine d_lp hS (tabcOK [6, 8]) wf [] [3, 6, 7] (fun s1 => ⟨tpsL 0 15 [(3, .si .i64 s1.1), (6, .agg [.si .i64 p.a0, .si .i64 p.a1, .si .i64 p.a2, .si .i64 p.a3, .si .i64 p.a4, .si .i64 p.a5]), (7, .si .i64 s1.2)], [], 0⟩) hf ?_
  intro Ik2 k2 s1 hk2 hf e he; subst he
  unfold law39_total_l1 at hf
  cbv
  refine l_seq hS ?_; cbv
  refine d_b hS hf ?_ ?_
  · intro hf; cbv
    refine d_cut hS [] [3, 5, 6, 7] (fun s4 => ⟨tpsL 0 15 [(3, .si .i64 s1.1), (5, .si .i64 s4), (6, .agg [.si .i64 p.a0, .si .i64 p.a1, .si .i64 p.a2, .si .i64 p.a3, .si .i64 p.a4, .si .i64 p.a5]), (7, .si .i64 s1.2)], [], 0⟩) hf ?_ ?_
    · intro Ik5 k5 hk5 hf; cbv
      obtain ⟨j7, hj7, ej7, hf⟩ := d_cases hf
      refine d_ixa hS rfl ⟨j7, hj7, ej7, ?_⟩
      rcases lt6 hj7 with rfl | rfl | rfl | rfl | rfl | rfl
      · cbv
        exact d_x hk5 hf
      · cbv
        exact d_x hk5 hf
      · cbv
        exact d_x hk5 hf
      · cbv
        exact d_x hk5 hf
      · cbv
        exact d_x hk5 hf
      cbv
      exact d_x hk5 hf
    intro s4 hf; cbv
    exact d_x hk2 hf
  intro hf; cbv
  cases hf; exact hR _ (lp_eq rfl)
theorem c55 {M : EncM} (hM : M = mapE) {a : List GMod} {b : List GMod} {r : Bool} (hf : r17_SameMods a b = some r) : Pv.Fn Try.prog glF 55 [.sl 20 (M.m GMod (eGMod M) a) false, .sl 20 (M.m GMod (eGMod M) b) false] (fun u => u = .sb r) := by
  refine fn_dec (T := tab) tabOK rfl wf Try.func55 rfl Try.call55 rfl ?_
  intro S R hS hR
  have q := sf hM hS
  unfold r17_SameMods at hf
  cbv
  refine d_b hS hf ?_ ?_
  · intro hf; cbv
    cases hf; exact hR _ (lp_eq rfl)
  intro hf; cbv
  refine d_lp hS tabOK wf [] [0, 1, 5] (fun s1 => ⟨tpsL 0 26 [(0, .sl 20 (M.m GMod (eGMod M) a) false), (1, .sl 20 (M.m GMod (eGMod M) b) false), (5, .si .i64 s1)], [], 0⟩) hf ?_
  intro Ik2 k2 s1 hk2 hf e he; subst he
  unfold r17_SameMods_l1 at hf
  cbv
  refine d_b hS hf ?_ ?_
  · intro hf; cbv
    refine d_o hS ?_; cbv
    refine d_idx hS hM hf rfl rfl ?_
    intro x4 hf; cbv
    refine d_idx hS hM hf rfl rfl ?_
    intro x5 hf; cbv
    replace hf := d_lt hf
    refine d_b hS hf ?_ ?_
    · intro hf; cbv
      cases hf; exact hR _ (lp_eq rfl)
    intro hf; cbv
    exact d_x hk2 hf
  intro hf; cbv
  cases hf; exact hR _ (lp_eq rfl)
theorem c52 {M : EncM} (hM : M = mapE) {a : List GMod} {b : List GMod} {r : Bool} (hf : r26_SameMods a b = some r) : Pv.Fn Try.prog glF 52 [.sl 20 (M.m GMod (eGMod M) a) false, .sl 20 (M.m GMod (eGMod M) b) false] (fun u => u = .sb r) := by
  refine fn_dec (T := tab) tabOK rfl wf Try.func52 rfl Try.call52 rfl ?_
  intro S R hS hR
  have q := sf hM hS
  unfold r26_SameMods at hf
  cbv
  refine d_b hS hf ?_ ?_
  · intro hf; cbv
    cases hf; exact hR _ (lp_eq rfl)
  intro hf; cbv
  refine d_lp hS tabOK wf [] [0, 1, 5] (fun s1 => ⟨tpsL 0 26 [(0, .sl 20 (M.m GMod (eGMod M) a) false), (1, .sl 20 (M.m GMod (eGMod M) b) false), (5, .si .i64 s1)], [], 0⟩) hf ?_
  intro Ik2 k2 s1 hk2 hf e he; subst he
  unfold r26_SameMods_l1 at hf
  cbv
  refine d_b hS hf ?_ ?_
  · intro hf; cbv
    refine d_o hS ?_; cbv
    refine d_idx hS hM hf rfl rfl ?_
    intro x4 hf; cbv
    refine d_idx hS hM hf rfl rfl ?_
    intro x5 hf; cbv
    replace hf := d_lt hf
    refine d_b hS hf ?_ ?_
    · intro hf; cbv
      cases hf; exact hR _ (lp_eq rfl)
    intro hf; cbv
    exact d_x hk2 hf
  intro hf; cbv
  cases hf; exact hR _ (lp_eq rfl)
theorem c22 {M : EncM} (hM : M = mapE) {a : List Int} {b : List Int} {r : Bool} (hf : r03_Same a b = some r) : Pv.Fn Try.prog glF 22 [.sl 1 (M.m Int (eI .i64) a) false, .sl 1 (M.m Int (eI .i64) b) false] (fun u => u = .sb r) := by
  refine fn_dec (T := tab) tabOK rfl wf Try.func22 rfl Try.call22 rfl ?_
  intro S R hS hR
  have q := sf hM hS
  unfold r03_Same at hf
  cbv
  refine d_b hS hf ?_ ?_
  · intro hf; cbv
    cases hf; exact hR _ (lp_eq rfl)
  intro hf; cbv
  refine d_lp hS tabOK wf [] [0, 1, 5] (fun s1 => ⟨tpsL 0 26 [(0, .sl 1 (M.m Int (eI .i64) a) false), (1, .sl 1 (M.m Int (eI .i64) b) false), (5, .si .i64 s1)], [], 0⟩) hf ?_
  intro Ik2 k2 s1 hk2 hf e he; subst he
  unfold r03_Same_l1 at hf
  cbv
  refine d_b hS hf ?_ ?_
  · intro hf; cbv
    refine d_o hS ?_; cbv
    refine d_idx hS hM hf rfl rfl ?_
    intro x4 hf; cbv
    refine d_idx hS hM hf rfl rfl ?_
    intro x5 hf; cbv
    refine d_b hS hf ?_ ?_
    · intro hf; cbv
      cases hf; exact hR _ (lp_eq rfl)
    intro hf; cbv
    exact d_x hk2 hf
  intro hf; cbv
  cases hf; exact hR _ (lp_eq rfl)
theorem c57 {M : EncM} (hM : M = mapE) {s : List Int} {v : Int} {r : Int} (hf : slices_Index_int s v = some r) : Pv.Fn Try.prog glF 57 [.sl 1 (M.m Int (eI .i64) s) false, .si .i64 v] (fun u => u = .si .i64 r) := by
  refine fn_dec (T := tab) tabOK rfl wf Try.func57 rfl Try.call57 rfl ?_
  intro S R hS hR
  have q := sf hM hS
  unfold slices_Index_int at hf
  cbv
  refine d_lp hS tabOK wf [] [0, 1, 7, 8] (fun s1 => ⟨tpsL 0 19 [(0, .sl 1 (M.m Int (eI .i64) s) false), (1, .si .i64 v), (7, .si .i64 (S.len (M.m Int (eI .i64) s))), (8, .si .i64 s1)], [], 0⟩) hf ?_
  intro Ik2 k2 s1 hk2 hf e he; subst he
  unfold slices_Index_int_l1 at hf
  cbv
  refine d_b hS hf ?_ ?_
  · intro hf; cbv
    refine d_idx hS hM hf rfl rfl ?_
    intro x4 hf; cbv
    refine d_b hS hf ?_ ?_
    · intro hf; cbv
      cases hf; exact hR _ (lp_eq rfl)
    intro hf; cbv
    exact d_x hk2 hf
  intro hf; cbv
  cases hf; exact hR _ (lp_eq rfl)
theorem o30 {M : EncM} (hM : M = mapE) {s : List GWaiting} {r : List GWaiting} (hf : slices_Clone_waiting s = some r) : Pv.FnS Try.prog glF 30 [.sl 89 (M.m GWaiting (eGWaiting M) s) false] [] 0 (fun u s n => u = .os 0 0 (M.n GWaiting r) ∧ s = [(0, some (.arr false 89 (M.m GWaiting (eGWaiting M) r)))] ∧ n = 1) := by
  refine fnS_dec (T := (tabx 0 [] [[(89, true)]])) (tabxOK 0 [] [[(89, true)]]) wf Try.func30 rfl Try.call30 rfl ?_
  intro S R hS hR
  have q := sf hM hS
  unfold slices_Clone_waiting at hf
  cbv
  refine d_nil hS hM hf rfl (by intro h; subst h; exact fun h => h) ?_ ?_
  · intro hf; cbv
    cases hf; exact hR _ _ _ (by (try simp only [q]); repeat' constructor) (by (try simp only [q]); repeat' constructor) rfl
  intro hf; cbv
  refine d_room hS hf d_e ?_
  intro hf; cbv
  cases hf; exact hR _ _ _ (by (try simp only [q]); repeat' constructor) (by (try simp only [q]); repeat' constructor) rfl
end Go.Proofs.Ytddcpnlflncahaa
namespace Go.Proofs.Ytddcpnlflncahaa
open Go Go.Pv
set_option maxRecDepth 100000
set_option maxHeartbeats 2000000
theorem o23 {M : EncM} (hM : M = mapE) {s : List GPlayer} {r : List GPlayer} (hf : slices_Clone_player s = some r) : Pv.FnS Try.prog glF 23 [.sl 14 (M.m GPlayer (eGPlayer M) s) false] [] 0 (fun u s n => u = .os 0 0 (M.n GPlayer r) ∧ s = [(0, some (.arr false 14 (M.m GPlayer (eGPlayer M) r)))] ∧ n = 1) := by
  refine fnS_dec (T := (tabx 0 [] [[(14, true)]])) (tabxOK 0 [] [[(14, true)]]) wf Try.func23 rfl Try.call23 rfl ?_
  intro S R hS hR
  have q := sf hM hS
  unfold slices_Clone_player at hf
  cbv
  refine d_nil hS hM hf rfl (by intro h; subst h; exact fun h => h) ?_ ?_
  · intro hf; cbv
    cases hf; exact hR _ _ _ (by (try simp only [q]); repeat' constructor) (by (try simp only [q]); repeat' constructor) rfl
  intro hf; cbv
  refine d_room hS hf d_e ?_
  intro hf; cbv
  cases hf; exact hR _ _ _ (by (try simp only [q]); repeat' constructor) (by (try simp only [q]); repeat' constructor) rfl
theorem o25 {M : EncM} (hM : M = mapE) {s : List GObject} {r : List GObject} (hf : slices_Clone_object s = some r) : Pv.FnS Try.prog glF 25 [.sl 19 (M.m GObject (eGObject M) s) false] [] 0 (fun u s n => u = .os 0 0 (M.n GObject r) ∧ s = [(0, some (.arr false 19 (M.m GObject (eGObject M) r)))] ∧ n = 1) := by
  refine fnS_dec (T := (tabx 0 [] [[(19, true)]])) (tabxOK 0 [] [[(19, true)]]) wf Try.func25 rfl Try.call25 rfl ?_
  intro S R hS hR
  have q := sf hM hS
  unfold slices_Clone_object at hf
  cbv
  refine d_nil hS hM hf rfl (by intro h; subst h; exact fun h => h) ?_ ?_
  · intro hf; cbv
    cases hf; exact hR _ _ _ (by (try simp only [q]); repeat' constructor) (by (try simp only [q]); repeat' constructor) rfl
  intro hf; cbv
  refine d_room hS hf d_e ?_
  intro hf; cbv
  cases hf; exact hR _ _ _ (by (try simp only [q]); repeat' constructor) (by (try simp only [q]); repeat' constructor) rfl
theorem o46 {M : EncM} (hM : M = mapE) {s : List GEffect} {r : List GEffect} (hf : slices_Clone_effect s = some r) : Pv.FnS Try.prog glF 46 [.sl 64 (M.m GEffect (eGEffect M) s) false] [] 0 (fun u s n => u = .os 0 0 (M.n GEffect r) ∧ s = [(0, some (.arr false 64 (M.m GEffect (eGEffect M) r)))] ∧ n = 1) := by
  refine fnS_dec (T := (tabx 0 [] [[(64, true)]])) (tabxOK 0 [] [[(64, true)]]) wf Try.func46 rfl Try.call46 rfl ?_
  intro S R hS hR
  have q := sf hM hS
  unfold slices_Clone_effect at hf
  cbv
  refine d_nil hS hM hf rfl (by intro h; subst h; exact fun h => h) ?_ ?_
  · intro hf; cbv
    cases hf; exact hR _ _ _ (by (try simp only [q]); repeat' constructor) (by (try simp only [q]); repeat' constructor) rfl
  intro hf; cbv
  refine d_room hS hf d_e ?_
  intro hf; cbv
  cases hf; exact hR _ _ _ (by (try simp only [q]); repeat' constructor) (by (try simp only [q]); repeat' constructor) rfl
theorem o27 {M : EncM} (hM : M = mapE) {s : List GItem} {r : List GItem} (hf : slices_Clone_item s = some r) : Pv.FnS Try.prog glF 27 [.sl 94 (M.m GItem (eGItem M) s) false] [] 0 (fun u s n => u = .os 0 0 (M.n GItem r) ∧ s = [(0, some (.arr false 94 (M.m GItem (eGItem M) r)))] ∧ n = 1) := by
  refine fnS_dec (T := (tabx 0 [] [[(94, true)]])) (tabxOK 0 [] [[(94, true)]]) wf Try.func27 rfl Try.call27 rfl ?_
  intro S R hS hR
  have q := sf hM hS
  unfold slices_Clone_item at hf
  cbv
  refine d_nil hS hM hf rfl (by intro h; subst h; exact fun h => h) ?_ ?_
  · intro hf; cbv
    cases hf; exact hR _ _ _ (by (try simp only [q]); repeat' constructor) (by (try simp only [q]); repeat' constructor) rfl
  intro hf; cbv
  refine d_room hS hf d_e ?_
  intro hf; cbv
  cases hf; exact hR _ _ _ (by (try simp only [q]); repeat' constructor) (by (try simp only [q]); repeat' constructor) rfl
theorem o45 {M : EncM} (hM : M = mapE) {s : List GSpec} {r : List GSpec} (hf : slices_Clone_spec s = some r) : Pv.FnS Try.prog glF 45 [.sl 18 (M.m GSpec (eGSpec M) s) false] [] 0 (fun u s n => u = .os 0 0 (M.n GSpec r) ∧ s = [(0, some (.arr false 18 (M.m GSpec (eGSpec M) r)))] ∧ n = 1) := by
  refine fnS_dec (T := (tabx 0 [] [[(18, true)]])) (tabxOK 0 [] [[(18, true)]]) wf Try.func45 rfl Try.call45 rfl ?_
  intro S R hS hR
  have q := sf hM hS
  unfold slices_Clone_spec at hf
  cbv
  refine d_nil hS hM hf rfl (by intro h; subst h; exact fun h => h) ?_ ?_
  · intro hf; cbv
    cases hf; exact hR _ _ _ (by (try simp only [q]); repeat' constructor) (by (try simp only [q]); repeat' constructor) rfl
  intro hf; cbv
  refine d_room hS hf d_e ?_
  intro hf; cbv
  cases hf; exact hR _ _ _ (by (try simp only [q]); repeat' constructor) (by (try simp only [q]); repeat' constructor) rfl
theorem o31 {M : EncM} (hM : M = mapE) {s : List GCont} {r : List GCont} (hf : slices_Clone_cont s = some r) : Pv.FnS Try.prog glF 31 [.sl 6 (M.m GCont (eGCont M) s) false] [] 0 (fun u s n => u = .os 0 0 (M.n GCont r) ∧ s = [(0, some (.arr false 6 (M.m GCont (eGCont M) r)))] ∧ n = 1) := by
  refine fnS_dec (T := (tabx 0 [] [[(6, true)]])) (tabxOK 0 [] [[(6, true)]]) wf Try.func31 rfl Try.call31 rfl ?_
  intro S R hS hR
  have q := sf hM hS
  unfold slices_Clone_cont at hf
  cbv
  refine d_nil hS hM hf rfl (by intro h; subst h; exact fun h => h) ?_ ?_
  · intro hf; cbv
    cases hf; exact hR _ _ _ (by (try simp only [q]); repeat' constructor) (by (try simp only [q]); repeat' constructor) rfl
  intro hf; cbv
  refine d_room hS hf d_e ?_
  intro hf; cbv
  cases hf; exact hR _ _ _ (by (try simp only [q]); repeat' constructor) (by (try simp only [q]); repeat' constructor) rfl
theorem o32 {M : EncM} (hM : M = mapE) {s : List GMod} {r : List GMod} (hf : slices_Clone_mod s = some r) : Pv.FnS Try.prog glF 32 [.sl 20 (M.m GMod (eGMod M) s) false] [] 0 (fun u s n => u = .os 0 0 (M.n GMod r) ∧ s = [(0, some (.arr false 20 (M.m GMod (eGMod M) r)))] ∧ n = 1) := by
  refine fnS_dec (T := (tabx 0 [] [[(20, true)]])) (tabxOK 0 [] [[(20, true)]]) wf Try.func32 rfl Try.call32 rfl ?_
  intro S R hS hR
  have q := sf hM hS
  unfold slices_Clone_mod at hf
  cbv
  refine d_nil hS hM hf rfl (by intro h; subst h; exact fun h => h) ?_ ?_
  · intro hf; cbv
    cases hf; exact hR _ _ _ (by (try simp only [q]); repeat' constructor) (by (try simp only [q]); repeat' constructor) rfl
  intro hf; cbv
  refine d_room hS hf d_e ?_
  intro hf; cbv
  cases hf; exact hR _ _ _ (by (try simp only [q]); repeat' constructor) (by (try simp only [q]); repeat' constructor) rfl
theorem o26 {M : EncM} (hM : M = mapE) {s : List Int} {r : List Int} (hf : slices_Clone_int s = some r) : Pv.FnS Try.prog glF 26 [.sl 1 (M.m Int (eI .i64) s) false] [] 0 (fun u s n => u = .os 0 0 (M.n Int r) ∧ s = [(0, some (.arr false 1 (M.m Int (eI .i64) r)))] ∧ n = 1) := by
  refine fnS_dec (T := (tabx 0 [] [[(1, true)]])) (tabxOK 0 [] [[(1, true)]]) wf Try.func26 rfl Try.call26 rfl ?_
  intro S R hS hR
  have q := sf hM hS
  unfold slices_Clone_int at hf
  cbv
  refine d_nil hS hM hf rfl (by intro h; subst h; exact fun h => h) ?_ ?_
  · intro hf; cbv
    cases hf; exact hR _ _ _ (by (try simp only [q]); repeat' constructor) (by (try simp only [q]); repeat' constructor) rfl
  intro hf; cbv
  refine d_room hS hf d_e ?_
  intro hf; cbv
  cases hf; exact hR _ _ _ (by (try simp only [q]); repeat' constructor) (by (try simp only [q]); repeat' constructor) rfl
theorem c47 {M : EncM} (hM : M = mapE) {n : Int} {r : List Int} (hf : ask_first n = some r) : Pv.Fn Try.prog glF 47 [.si .i64 n] (fun u => u = .sl 1 (M.m Int (eI .i64) r) false) := by
  refine fn_dec (T := tab) tabOK rfl wf Try.func47 rfl Try.call47 rfl ?_
  intro S R hS hR
  have q := sf hM hS
  unfold ask_first at hf
  cbv
  refine d_lp hS tabOK wf [.tO 3 1] [3, 5, 6] (fun s1 => ⟨tpsL 0 15 [(3, .os 0 0 (S.lenN (M.m Int (eI .i64) s1.2))), (5, .si .i64 n), (6, .si .i64 s1.1)], [(0, some (.arr false 1 (M.m Int (eI .i64) s1.2)))], 1⟩) hf ?_
  intro Ik2 k2 s1 hk2 hf e he; subst he
  unfold ask_first_l1 at hf
  cbv
  refine d_b hS hf ?_ ?_
  · intro hf; cbv
    refine d_room hS hf d_e ?_
    intro hf; cbv
    exact d_x hk2 hf
  intro hf; cbv
  cases hf; exact hR _ d_l
theorem c26 {M : EncM} (hM : M = mapE) {s : List Int} {r : List Int} (hf : slices_Clone_int s = some r) : Pv.Fn Try.prog glF 26 [.sl 1 (M.m Int (eI .i64) s) false] (fun u => u = .sl 1 (M.m Int (eI .i64) r) false) := by
  refine fn_dec (T := tab) tabOK rfl wf Try.func26 rfl Try.call26 rfl ?_
  intro S R hS hR
  have q := sf hM hS
  unfold slices_Clone_int at hf
  cbv
  refine d_nil hS hM hf rfl (by intro h; subst h; exact fun h => h) ?_ ?_
  · intro hf; cbv
    cases hf; exact hR _ (by (try simp only [q]); repeat' constructor)
  intro hf; cbv
  refine d_room hS hf d_e ?_
  intro hf; cbv
  cases hf; exact hR _ d_l
theorem c29 {M : EncM} (hM : M = mapE) {s : List GTarget} {r : List GTarget} (hf : slices_Clone_target s = some r) : Pv.Fn Try.prog glF 29 [.sl 2 (M.m GTarget (eGTarget M) s) false] (fun u => u = .sl 2 (M.m GTarget (eGTarget M) r) false) := by
  refine fn_dec (T := tab) tabOK rfl wf Try.func29 rfl Try.call29 rfl ?_
  intro S R hS hR
  have q := sf hM hS
  unfold slices_Clone_target at hf
  cbv
  refine d_nil hS hM hf rfl (by intro h; subst h; exact fun h => h) ?_ ?_
  · intro hf; cbv
    cases hf; exact hR _ d_st
  intro hf; cbv
  refine d_room hS hf d_e ?_
  intro hf; cbv
  cases hf; exact hR _ d_l
theorem c32 {M : EncM} (hM : M = mapE) {s : List GMod} {r : List GMod} (hf : slices_Clone_mod s = some r) : Pv.Fn Try.prog glF 32 [.sl 20 (M.m GMod (eGMod M) s) false] (fun u => u = .sl 20 (M.m GMod (eGMod M) r) false) := by
  refine fn_dec (T := tab) tabOK rfl wf Try.func32 rfl Try.call32 rfl ?_
  intro S R hS hR
  have q := sf hM hS
  unfold slices_Clone_mod at hf
  cbv
  refine d_nil hS hM hf rfl (by intro h; subst h; exact fun h => h) ?_ ?_
  · intro hf; cbv
    cases hf; exact hR _ d_st
  intro hf; cbv
  refine d_room hS hf d_e ?_
  intro hf; cbv
  cases hf; exact hR _ d_l
theorem c35 {M : EncM} (hM : M = mapE) {l : List GOption} {r : List GOption} (hf : ask_copied_option l = some r) : Pv.Fn Try.prog glF 35 [.sl 3 (M.m GOption (eGOption M) l) false] (fun u => u = .sl 3 (M.m GOption (eGOption M) r) false) := by
  refine fn_dec (T := tab) tabOK rfl wf Try.func35 rfl Try.call35 rfl ?_
  intro S R hS hR
  have q := sf hM hS
  unfold ask_copied_option at hf
  cbv
  refine d_room hS hf d_e ?_
  intro hf; cbv
  cases hf; exact hR _ d_l
theorem c19 {M : EncM} (hM : M = mapE) {l : List Int} {r : List Int} (hf : ask_copied_int l = some r) : Pv.Fn Try.prog glF 19 [.sl 1 (M.m Int (eI .i64) l) false] (fun u => u = .sl 1 (M.m Int (eI .i64) r) false) := by
  refine fn_dec (T := tab) tabOK rfl wf Try.func19 rfl Try.call19 rfl ?_
  intro S R hS hR
  have q := sf hM hS
  unfold ask_copied_int at hf
  cbv
  refine d_room hS hf d_e ?_
  intro hf; cbv
  cases hf; exact hR _ d_l
end Go.Proofs.Ytddcpnlflncahaa
namespace Go.Proofs.Ytddcpnlflncahaa
open Go Go.Pv
set_option maxRecDepth 100000
set_option maxHeartbeats 2000000
theorem c18 {M : EncM} (hM : M = mapE) {p : Arr6 Int} {c : GCost} {x : Int} {r : (Arr6 Int) × Int} (hf : mana_Pay p c x = some r) : Pv.Fn Try.prog glF 18 [.agg [.si .i64 p.a0, .si .i64 p.a1, .si .i64 p.a2, .si .i64 p.a3, .si .i64 p.a4, .si .i64 p.a5], .agg (eGCost M c), .si .i64 x] (fun u => u = .tup [.agg [.si .i64 r.1.a0, .si .i64 r.1.a1, .si .i64 r.1.a2, .si .i64 r.1.a3, .si .i64 r.1.a4, .si .i64 r.1.a5], .si .i64 r.2]) := by
  refine fn_dec (T := (tabc [2, 8, 16, 18, 20, 22, 30])) (tabcOK [2, 8, 16, 18, 20, 22, 30]) rfl wf Try.func18 rfl Try.call18 rfl ?_
  intro S R hS hR
  have q := sf hM hS
  unfold mana_Pay at hf
  cbv
  refine d_cut hS [] [2, 3, 4, 6, 29] (fun s1 => ⟨tpsL 0 90 [(2, .si .i64 x), (3, .lv 0 0), (4, .lv 1 0), (6, .lv 2 0), (29, .sb s1)], [(0, some (.var false [.si .i64 p.a0, .si .i64 p.a1, .si .i64 p.a2, .si .i64 p.a3, .si .i64 p.a4, .si .i64 p.a5])), (1, some (.var false (eGCost M c))), (2, some (.var false [.si .i64 0, .si .i64 0, .si .i64 0, .si .i64 0, .si .i64 0, .si .i64 0]))], 3⟩) hf ?_ ?_
  · intro Ik2 k2 hk2 hf; cbv
    refine d_p hS hf (fun _ => c37 hM) ?_
    intro y4 hf; cbv
    refine d_b hS hf ?_ ?_
    · intro hf; cbv
      exact d_x hk2 hf
    intro hf; cbv
    refine d_p hS hf (fun _ => c38 hM) ?_
    intro y5 hf; cbv
    refine d_b hS hf ?_ ?_
    · intro hf; cbv
      exact d_x hk2 hf
    intro hf; cbv
    refine d_b hS hf ?_ ?_
    · intro hf; cbv
      exact d_x hk2 hf
    intro hf; cbv
    exact d_x hk2 hf
  intro s1 hf; cbv
  refine d_br hS hf rfl ?_ ?_
  · intro hf; cbv
    cases hf; exact hR _ (lp_eq rfl)
  intro hf; cbv
  refine d_cut hS [] [3, 4, 6, 8, 45] (fun s6 => ⟨tpsL 0 90 [(3, .lv 0 0), (4, .lv 1 0), (6, .lv 2 0), (8, .si .i64 (S.bin .add .i64 c.generic (S.bin .mul .i64 c.x x))), (45, .sb s6)], [(0, some (.var false [.si .i64 p.a0, .si .i64 p.a1, .si .i64 p.a2, .si .i64 p.a3, .si .i64 p.a4, .si .i64 p.a5])), (1, some (.var false (eGCost M c))), (2, some (.var false [.si .i64 0, .si .i64 0, .si .i64 0, .si .i64 0, .si .i64 0, .si .i64 0]))], 3⟩) hf ?_ ?_
  · intro Ik7 k7 hk7 hf; cbv
    replace hf := d_lt hf
    refine d_b hS hf ?_ ?_
    · intro hf; cbv
      replace hf := d_lt hf
      exact d_x hk7 hf
    intro hf; cbv
    exact d_x hk7 hf
  intro s6 hf; cbv
  refine d_br hS hf rfl ?_ ?_
  · intro hf; cbv
    cases hf; exact hR _ (lp_eq rfl)
  intro hf; cbv
  refine d_lp hS (tabcOK [2, 8, 16, 18, 20, 22, 30]) wf [] [6, 8, 9, 49, 50] (fun s11 => ⟨tpsL 0 90 [(6, .lv 0 0), (8, .si .i64 (S.bin .add .i64 c.generic (S.bin .mul .i64 c.x x))), (9, .lv 1 0), (49, .agg [.si .i64 c.color.a0, .si .i64 c.color.a1, .si .i64 c.color.a2, .si .i64 c.color.a3, .si .i64 c.color.a4]), (50, .si .i64 s11.2)], [(0, some (.var false [.si .i64 0, .si .i64 0, .si .i64 0, .si .i64 0, .si .i64 0, .si .i64 0])), (1, some (.var false [.si .i64 s11.1.a0, .si .i64 s11.1.a1, .si .i64 s11.1.a2, .si .i64 s11.1.a3, .si .i64 s11.1.a4, .si .i64 s11.1.a5]))], 2⟩) hf ?_
  intro Ik12 k12 s11 hk12 hf e he; subst he
  unfold mana_Pay_l1 at hf
  cbv
  refine l_seq hS ?_; cbv
  refine d_b hS hf ?_ ?_
  · intro hf; cbv
    refine d_cut hS [] [6, 8, 9, 10, 11, 49, 50] (fun s14 => ⟨tpsL 0 90 [(6, .lv 0 0), (8, .si .i64 (S.bin .add .i64 c.generic (S.bin .mul .i64 c.x x))), (9, .lv 1 0), (10, .si .i64 s11.2), (11, .si .i64 s14), (49, .agg [.si .i64 c.color.a0, .si .i64 c.color.a1, .si .i64 c.color.a2, .si .i64 c.color.a3, .si .i64 c.color.a4]), (50, .si .i64 s11.2)], [(0, some (.var false [.si .i64 0, .si .i64 0, .si .i64 0, .si .i64 0, .si .i64 0, .si .i64 0])), (1, some (.var false [.si .i64 s11.1.a0, .si .i64 s11.1.a1, .si .i64 s11.1.a2, .si .i64 s11.1.a3, .si .i64 s11.1.a4, .si .i64 s11.1.a5]))], 2⟩) hf ?_ ?_
    · intro Ik15 k15 hk15 hf; cbv
      obtain ⟨j17, hj17, ej17, hf⟩ := d_cases hf
      refine d_ixa hS rfl ⟨j17, hj17, ej17, ?_⟩
      rcases lt5 hj17 with rfl | rfl | rfl | rfl | rfl
      · cbv
        exact d_x hk15 hf
      · cbv
        exact d_x hk15 hf
      · cbv
        exact d_x hk15 hf
      · cbv
        exact d_x hk15 hf
      cbv
      exact d_x hk15 hf
    intro s14 hf; cbv
    refine d_cut hS [] [6, 8, 9, 10, 49, 50] (fun s18 => ⟨tpsL 0 90 [(6, .lv 0 0), (8, .si .i64 (S.bin .add .i64 c.generic (S.bin .mul .i64 c.x x))), (9, .lv 1 0), (10, .si .i64 s11.2), (49, .agg [.si .i64 c.color.a0, .si .i64 c.color.a1, .si .i64 c.color.a2, .si .i64 c.color.a3, .si .i64 c.color.a4]), (50, .si .i64 s11.2)], [(0, some (.var false [.si .i64 0, .si .i64 0, .si .i64 0, .si .i64 0, .si .i64 0, .si .i64 0])), (1, some (.var false [.si .i64 s18.a0, .si .i64 s18.a1, .si .i64 s18.a2, .si .i64 s18.a3, .si .i64 s18.a4, .si .i64 s18.a5]))], 2⟩) hf ?_ ?_
    · intro Ik19 k19 hk19 hf; cbv
      obtain ⟨j21, hj21, ej21, hf⟩ := d_cases hf
      refine d_ixa hS d_e ⟨j21, hj21, ej21, ?_⟩
      rcases lt6 hj21 with rfl | rfl | rfl | rfl | rfl | rfl
      · cbv
        obtain ⟨j22, hj22, ej22, hf⟩ := d_cases hf
        refine d_ixa hS d_e ⟨j22, hj22, ej22, ?_⟩
        rcases lt6 hj22 with rfl | rfl | rfl | rfl | rfl | rfl
        · cbv
          exact d_x hk19 hf
        · cbv
          exact d_x hk19 hf
        · cbv
          exact d_x hk19 hf
        · cbv
          exact d_x hk19 hf
        · cbv
          exact d_x hk19 hf
        cbv
        exact d_x hk19 hf
      · cbv
        obtain ⟨j23, hj23, ej23, hf⟩ := d_cases hf
        refine d_ixa hS d_e ⟨j23, hj23, ej23, ?_⟩
        rcases lt6 hj23 with rfl | rfl | rfl | rfl | rfl | rfl
        · cbv
          exact d_x hk19 hf
        · cbv
          exact d_x hk19 hf
        · cbv
          exact d_x hk19 hf
        · cbv
          exact d_x hk19 hf
        · cbv
          exact d_x hk19 hf
        cbv
        exact d_x hk19 hf
      · cbv
        obtain ⟨j24, hj24, ej24, hf⟩ := d_cases hf
        refine d_ixa hS d_e ⟨j24, hj24, ej24, ?_⟩
        rcases lt6 hj24 with rfl | rfl | rfl | rfl | rfl | rfl
        · cbv
          exact d_x hk19 hf
        · cbv
          exact d_x hk19 hf
        · cbv
          exact d_x hk19 hf
        · cbv
          exact d_x hk19 hf
        · cbv
          exact d_x hk19 hf
        cbv
        exact d_x hk19 hf
      · cbv
        obtain ⟨j25, hj25, ej25, hf⟩ := d_cases hf
        refine d_ixa hS d_e ⟨j25, hj25, ej25, ?_⟩
        rcases lt6 hj25 with rfl | rfl | rfl | rfl | rfl | rfl
        · cbv
          exact d_x hk19 hf
        · cbv
          exact d_x hk19 hf
        · cbv
          exact d_x hk19 hf
        · cbv
          exact d_x hk19 hf
        · cbv
          exact d_x hk19 hf
        cbv
        exact d_x hk19 hf
      · cbv
        obtain ⟨j26, hj26, ej26, hf⟩ := d_cases hf
        refine d_ixa hS d_e ⟨j26, hj26, ej26, ?_⟩
        rcases lt6 hj26 with rfl | rfl | rfl | rfl | rfl | rfl
        · cbv
          exact d_x hk19 hf
        · cbv
          exact d_x hk19 hf
        · cbv
          exact d_x hk19 hf
        · cbv
          exact d_x hk19 hf
        · cbv
          exact d_x hk19 hf
        cbv
        exact d_x hk19 hf
      cbv
      obtain ⟨j27, hj27, ej27, hf⟩ := d_cases hf
      refine d_ixa hS d_e ⟨j27, hj27, ej27, ?_⟩
      rcases lt6 hj27 with rfl | rfl | rfl | rfl | rfl | rfl
      · cbv
        exact d_x hk19 hf
      · cbv
        exact d_x hk19 hf
      · cbv
        exact d_x hk19 hf
      · cbv
        exact d_x hk19 hf
      · cbv
        exact d_x hk19 hf
      cbv
      exact d_x hk19 hf
    intro s18 hf; cbv
    refine d_cut hS [] [6, 8, 9, 49, 50, 65] (fun s28 => ⟨tpsL 0 90 [(6, .lv 0 0), (8, .si .i64 (S.bin .add .i64 c.generic (S.bin .mul .i64 c.x x))), (9, .lv 1 0), (49, .agg [.si .i64 c.color.a0, .si .i64 c.color.a1, .si .i64 c.color.a2, .si .i64 c.color.a3, .si .i64 c.color.a4]), (50, .si .i64 s11.2), (65, .sb s28)], [(0, some (.var false [.si .i64 0, .si .i64 0, .si .i64 0, .si .i64 0, .si .i64 0, .si .i64 0])), (1, some (.var false [.si .i64 s18.a0, .si .i64 s18.a1, .si .i64 s18.a2, .si .i64 s18.a3, .si .i64 s18.a4, .si .i64 s18.a5]))], 2⟩) hf ?_ ?_
    · intro Ik29 k29 hk29 hf; cbv
      obtain ⟨j31, hj31, ej31, hf⟩ := d_cases hf
      refine d_ixa hS d_e ⟨j31, hj31, ej31, ?_⟩
      rcases lt6 hj31 with rfl | rfl | rfl | rfl | rfl | rfl
      · cbv
        exact d_x hk29 hf
      · cbv
        exact d_x hk29 hf
      · cbv
        exact d_x hk29 hf
      · cbv
        exact d_x hk29 hf
      · cbv
        exact d_x hk29 hf
      cbv
      exact d_x hk29 hf
    intro s28 hf; cbv
    refine d_br hS hf rfl ?_ ?_
    · intro hf; cbv
      cases hf; exact hR _ (lp_eq rfl)
    intro hf; cbv
    exact d_x hk12 hf
  intro hf; cbv
  refine l_roundsF hS (tabcOK [2, 8, 16, 18, 20, 22, 30]) wf 8 ?_; intro g32 hg32
  refine hg32 _ _ ?_; cbv
  refine l_seq hS ?_; cbv
  replace hf := d_lt hf
  obtain ⟨v33, gv33, ev33⟩ : ∃ z : Int, (S.bin .sub .i64 s11.1.a0 (S.smin (S.bin .add .i64 c.generic (S.bin .mul .i64 c.x x)) s11.1.a0)) = z ∧ (subI s11.1.a0 (if s11.1.a0 < (addI c.generic (mulI c.x x)) then s11.1.a0 else (addI c.generic (mulI c.x x)))) = z := ⟨_, rfl, d_e⟩
  (try rw [gv33]); (try (conv at gv33 => (lhs; cbv))); (try rw [gv33]); (try rw [ev33] at hf); clear gv33 ev33
  replace hf := d_lt hf
  obtain ⟨v34, gv34, ev34⟩ : ∃ z : Int, (S.bin .sub .i64 (S.bin .add .i64 c.generic (S.bin .mul .i64 c.x x)) (S.smin (S.bin .add .i64 c.generic (S.bin .mul .i64 c.x x)) s11.1.a0)) = z ∧ (subI (addI c.generic (mulI c.x x)) (if s11.1.a0 < (addI c.generic (mulI c.x x)) then s11.1.a0 else (addI c.generic (mulI c.x x)))) = z := ⟨_, rfl, d_e⟩
  (try rw [gv34]); (try (conv at gv34 => (lhs; cbv))); (try rw [gv34]); (try rw [ev34] at hf); clear gv34 ev34
  refine hg32 _ _ ?_; cbv
  refine l_seq hS ?_; cbv
  refine hg32 _ _ ?_; cbv
  refine l_seq hS ?_; cbv
  replace hf := d_lt hf
  obtain ⟨v35, gv35, ev35⟩ : ∃ z : Int, (S.bin .sub .i64 s11.1.a2 (S.smin (S.bin .sub .i64 v34 (S.smin v34 s11.1.a1)) s11.1.a2)) = z ∧ (subI s11.1.a2 (if s11.1.a2 < (subI v34 (if s11.1.a1 < v34 then s11.1.a1 else v34)) then s11.1.a2 else (subI v34 (if s11.1.a1 < v34 then s11.1.a1 else v34)))) = z := ⟨_, rfl, d_e⟩
  (try rw [gv35]); (try (conv at gv35 => (lhs; cbv))); (try rw [gv35]); (try rw [ev35] at hf); clear gv35 ev35
  replace hf := d_lt hf
  obtain ⟨v36, gv36, ev36⟩ : ∃ z : Int, (S.bin .sub .i64 (S.bin .sub .i64 v34 (S.smin v34 s11.1.a1)) (S.smin (S.bin .sub .i64 v34 (S.smin v34 s11.1.a1)) s11.1.a2)) = z ∧ (subI (subI v34 (if s11.1.a1 < v34 then s11.1.a1 else v34)) (if s11.1.a2 < (subI v34 (if s11.1.a1 < v34 then s11.1.a1 else v34)) then s11.1.a2 else (subI v34 (if s11.1.a1 < v34 then s11.1.a1 else v34)))) = z := ⟨_, rfl, d_e⟩
  (try rw [gv36]); (try (conv at gv36 => (lhs; cbv))); (try rw [gv36]); (try rw [ev36] at hf); clear gv36 ev36
  refine hg32 _ _ ?_; cbv
  refine l_seq hS ?_; cbv
  refine hg32 _ _ ?_; cbv
  refine l_seq hS ?_; cbv
  replace hf := d_lt hf
  obtain ⟨v37, gv37, ev37⟩ : ∃ z : Int, (S.bin .sub .i64 s11.1.a4 (S.smin (S.bin .sub .i64 v36 (S.smin v36 s11.1.a3)) s11.1.a4)) = z ∧ (subI s11.1.a4 (if s11.1.a4 < (subI v36 (if s11.1.a3 < v36 then s11.1.a3 else v36)) then s11.1.a4 else (subI v36 (if s11.1.a3 < v36 then s11.1.a3 else v36)))) = z := ⟨_, rfl, d_e⟩
  (try rw [gv37]); (try (conv at gv37 => (lhs; cbv))); (try rw [gv37]); (try rw [ev37] at hf); clear gv37 ev37
  replace hf := d_lt hf
  obtain ⟨v38, gv38, ev38⟩ : ∃ z : Int, (S.bin .sub .i64 (S.bin .sub .i64 v36 (S.smin v36 s11.1.a3)) (S.smin (S.bin .sub .i64 v36 (S.smin v36 s11.1.a3)) s11.1.a4)) = z ∧ (subI (subI v36 (if s11.1.a3 < v36 then s11.1.a3 else v36)) (if s11.1.a4 < (subI v36 (if s11.1.a3 < v36 then s11.1.a3 else v36)) then s11.1.a4 else (subI v36 (if s11.1.a3 < v36 then s11.1.a3 else v36)))) = z := ⟨_, rfl, d_e⟩
  (try rw [gv38]); (try (conv at gv38 => (lhs; cbv))); (try rw [gv38]); (try rw [ev38] at hf); clear gv38 ev38
  refine hg32 _ _ ?_; cbv
  refine l_seq hS ?_; cbv
  refine hg32 _ _ ?_; cbv
  refine l_seq hS ?_; cbv
  replace hf := d_lt hf
  refine d_b hS hf ?_ ?_
  · intro hf; cbv
    cases hf; exact hR _ (lp_eq rfl)
  intro hf; cbv
  cases hf; exact hR _ d_l
theorem c20 {M : EncM} (hM : M = mapE) {p : Arr6 Int} {c : GCost} {x : Int} {r : (Arr6 Int) × Int} (hf : r08_Pay p c x = some r) : Pv.Fn Try.prog glF 20 [.agg [.si .i64 p.a0, .si .i64 p.a1, .si .i64 p.a2, .si .i64 p.a3, .si .i64 p.a4, .si .i64 p.a5], .agg (eGCost M c), .si .i64 x] (fun u => u = .tup [.agg [.si .i64 r.1.a0, .si .i64 r.1.a1, .si .i64 r.1.a2, .si .i64 r.1.a3, .si .i64 r.1.a4, .si .i64 r.1.a5], .si .i64 r.2]) := by
  refine fn_dec (T := (tabc [2, 12, 32])) (tabcOK [2, 12, 32]) rfl wf Try.func20 rfl Try.call20 rfl ?_
  intro S R hS hR
  have q := sf hM hS
  unfold r08_Pay at hf
  cbv
  refine d_cut hS [] [2, 3, 4, 6, 29] (fun s1 => ⟨tpsL 0 97 [(2, .si .i64 x), (3, .lv 0 0), (4, .lv 1 0), (6, .lv 2 0), (29, .sb s1)], [(0, some (.var false [.si .i64 p.a0, .si .i64 p.a1, .si .i64 p.a2, .si .i64 p.a3, .si .i64 p.a4, .si .i64 p.a5])), (1, some (.var false (eGCost M c))), (2, some (.var false [.si .i64 0, .si .i64 0, .si .i64 0, .si .i64 0, .si .i64 0, .si .i64 0]))], 3⟩) hf ?_ ?_
  · intro Ik2 k2 hk2 hf; cbv
    refine d_p hS hf (fun _ => c39 hM) ?_
    intro y4 hf; cbv
    refine d_b hS hf ?_ ?_
    · intro hf; cbv
      exact d_x hk2 hf
    intro hf; cbv
    refine d_p hS hf (fun _ => c40 hM) ?_
    intro y5 hf; cbv
    refine d_b hS hf ?_ ?_
    · intro hf; cbv
      exact d_x hk2 hf
    intro hf; cbv
    refine d_b hS hf ?_ ?_
    · intro hf; cbv
      exact d_x hk2 hf
    intro hf; cbv
    exact d_x hk2 hf
  intro s1 hf; cbv
  refine d_br hS hf rfl ?_ ?_
  · intro hf; cbv
    cases hf; exact hR _ (lp_eq rfl)
  intro hf; cbv
  refine l_roundsF hS (tabcOK [2, 12, 32]) wf 7 ?_; intro g6 hg6
  refine hg6 _ _ ?_; cbv
  refine l_seq hS ?_; cbv
  refine d_o hS ?_; cbv
  refine d_b hS hf ?_ ?_
  · intro hf; cbv
    cases hf; exact hR _ (lp_eq rfl)
  intro hf; cbv
  refine d_o hS ?_; cbv
  refine hg6 _ _ ?_; cbv
  refine l_seq hS ?_; cbv
  refine d_o hS ?_; cbv
  refine d_b hS hf ?_ ?_
  · intro hf; cbv
    cases hf; exact hR _ (lp_eq rfl)
  intro hf; cbv
  refine d_o hS ?_; cbv
  replace hf := d_lt hf
  obtain ⟨v7, gv7, ev7⟩ : ∃ z : Int, (S.bin .add .i64 (S.bin .add .i64 p.a0 (S.bin .sub .i64 p.a1 c.color.a0)) (S.bin .sub .i64 p.a2 c.color.a1)) = z ∧ (addI (addI p.a0 (subI p.a1 c.color.a0)) (subI p.a2 c.color.a1)) = z := ⟨_, rfl, d_e⟩
  (try rw [gv7]); (try (conv at gv7 => (lhs; cbv))); (try rw [gv7]); (try rw [ev7] at hf); clear gv7 ev7
  refine hg6 _ _ ?_; cbv
  refine l_seq hS ?_; cbv
  refine d_o hS ?_; cbv
  refine d_b hS hf ?_ ?_
  · intro hf; cbv
    cases hf; exact hR _ (lp_eq rfl)
  intro hf; cbv
  refine d_o hS ?_; cbv
  refine hg6 _ _ ?_; cbv
  refine l_seq hS ?_; cbv
  refine d_o hS ?_; cbv
  refine d_b hS hf ?_ ?_
  · intro hf; cbv
    cases hf; exact hR _ (lp_eq rfl)
  intro hf; cbv
  refine d_o hS ?_; cbv
  replace hf := d_lt hf
  obtain ⟨v8, gv8, ev8⟩ : ∃ z : Int, (S.bin .add .i64 (S.bin .add .i64 v7 (S.bin .sub .i64 p.a3 c.color.a2)) (S.bin .sub .i64 p.a4 c.color.a3)) = z ∧ (addI (addI v7 (subI p.a3 c.color.a2)) (subI p.a4 c.color.a3)) = z := ⟨_, rfl, d_e⟩
  (try rw [gv8]); (try (conv at gv8 => (lhs; cbv))); (try rw [gv8]); (try rw [ev8] at hf); clear gv8 ev8
  refine hg6 _ _ ?_; cbv
  refine l_seq hS ?_; cbv
  refine d_o hS ?_; cbv
  refine d_b hS hf ?_ ?_
  · intro hf; cbv
    cases hf; exact hR _ (lp_eq rfl)
  intro hf; cbv
  refine d_o hS ?_; cbv
  refine hg6 _ _ ?_; cbv
  refine l_seq hS ?_; cbv
  replace hf := d_lt hf
  refine d_b hS hf ?_ ?_
  · intro hf; cbv
    cases hf; exact hR _ (lp_eq rfl)
  intro hf; cbv
  refine l_roundsF hS (tabcOK [2, 12, 32]) wf 8 ?_; intro g10 hg10
  refine hg10 _ _ ?_; cbv
  refine l_seq hS ?_; cbv
  replace hf := d_lt hf
  obtain ⟨v11, gv11, ev11⟩ : ∃ z : Int, (S.bin .sub .i64 p.a0 (S.smin (S.bin .add .i64 c.generic (S.bin .mul .i64 c.x x)) p.a0)) = z ∧ (subI p.a0 (if p.a0 < (addI c.generic (mulI c.x x)) then p.a0 else (addI c.generic (mulI c.x x)))) = z := ⟨_, rfl, d_e⟩
  (try rw [gv11]); (try (conv at gv11 => (lhs; cbv))); (try rw [gv11]); (try rw [ev11] at hf); clear gv11 ev11
  replace hf := d_lt hf
  obtain ⟨v12, gv12, ev12⟩ : ∃ z : Int, (S.bin .sub .i64 (S.bin .add .i64 c.generic (S.bin .mul .i64 c.x x)) (S.smin (S.bin .add .i64 c.generic (S.bin .mul .i64 c.x x)) p.a0)) = z ∧ (subI (addI c.generic (mulI c.x x)) (if p.a0 < (addI c.generic (mulI c.x x)) then p.a0 else (addI c.generic (mulI c.x x)))) = z := ⟨_, rfl, d_e⟩
  (try rw [gv12]); (try (conv at gv12 => (lhs; cbv))); (try rw [gv12]); (try rw [ev12] at hf); clear gv12 ev12
  refine hg10 _ _ ?_; cbv
  refine l_seq hS ?_; cbv
  replace hf := d_lt hf
  obtain ⟨v13, gv13, ev13⟩ : ∃ z : Int, (S.bin .sub .i64 (S.bin .sub .i64 p.a1 c.color.a0) (S.smin v12 (S.bin .sub .i64 p.a1 c.color.a0))) = z ∧ (subI (subI p.a1 c.color.a0) (if (subI p.a1 c.color.a0) < v12 then (subI p.a1 c.color.a0) else v12)) = z := ⟨_, rfl, d_e⟩
  (try rw [gv13]); (try (conv at gv13 => (lhs; cbv))); (try rw [gv13]); (try rw [ev13] at hf); clear gv13 ev13
  replace hf := d_lt hf
  obtain ⟨v14, gv14, ev14⟩ : ∃ z : Int, (S.bin .sub .i64 v12 (S.smin v12 (S.bin .sub .i64 p.a1 c.color.a0))) = z ∧ (subI v12 (if (subI p.a1 c.color.a0) < v12 then (subI p.a1 c.color.a0) else v12)) = z := ⟨_, rfl, d_e⟩
  (try rw [gv14]); (try (conv at gv14 => (lhs; cbv))); (try rw [gv14]); (try rw [ev14] at hf); clear gv14 ev14
  refine hg10 _ _ ?_; cbv
  refine l_seq hS ?_; cbv
  replace hf := d_lt hf
  obtain ⟨v15, gv15, ev15⟩ : ∃ z : Int, (S.bin .sub .i64 (S.bin .sub .i64 p.a2 c.color.a1) (S.smin v14 (S.bin .sub .i64 p.a2 c.color.a1))) = z ∧ (subI (subI p.a2 c.color.a1) (if (subI p.a2 c.color.a1) < v14 then (subI p.a2 c.color.a1) else v14)) = z := ⟨_, rfl, d_e⟩
  (try rw [gv15]); (try (conv at gv15 => (lhs; cbv))); (try rw [gv15]); (try rw [ev15] at hf); clear gv15 ev15
  replace hf := d_lt hf
  obtain ⟨v16, gv16, ev16⟩ : ∃ z : Int, (S.bin .sub .i64 v14 (S.smin v14 (S.bin .sub .i64 p.a2 c.color.a1))) = z ∧ (subI v14 (if (subI p.a2 c.color.a1) < v14 then (subI p.a2 c.color.a1) else v14)) = z := ⟨_, rfl, d_e⟩
  (try rw [gv16]); (try (conv at gv16 => (lhs; cbv))); (try rw [gv16]); (try rw [ev16] at hf); clear gv16 ev16
  refine hg10 _ _ ?_; cbv
  refine l_seq hS ?_; cbv
  replace hf := d_lt hf
  obtain ⟨v17, gv17, ev17⟩ : ∃ z : Int, (S.bin .sub .i64 (S.bin .sub .i64 p.a3 c.color.a2) (S.smin v16 (S.bin .sub .i64 p.a3 c.color.a2))) = z ∧ (subI (subI p.a3 c.color.a2) (if (subI p.a3 c.color.a2) < v16 then (subI p.a3 c.color.a2) else v16)) = z := ⟨_, rfl, d_e⟩
  (try rw [gv17]); (try (conv at gv17 => (lhs; cbv))); (try rw [gv17]); (try rw [ev17] at hf); clear gv17 ev17
  replace hf := d_lt hf
  obtain ⟨v18, gv18, ev18⟩ : ∃ z : Int, (S.bin .sub .i64 v16 (S.smin v16 (S.bin .sub .i64 p.a3 c.color.a2))) = z ∧ (subI v16 (if (subI p.a3 c.color.a2) < v16 then (subI p.a3 c.color.a2) else v16)) = z := ⟨_, rfl, d_e⟩
  (try rw [gv18]); (try (conv at gv18 => (lhs; cbv))); (try rw [gv18]); (try rw [ev18] at hf); clear gv18 ev18
  refine hg10 _ _ ?_; cbv
  refine l_seq hS ?_; cbv
  replace hf := d_lt hf
  obtain ⟨v19, gv19, ev19⟩ : ∃ z : Int, (S.bin .sub .i64 (S.bin .sub .i64 p.a4 c.color.a3) (S.smin v18 (S.bin .sub .i64 p.a4 c.color.a3))) = z ∧ (subI (subI p.a4 c.color.a3) (if (subI p.a4 c.color.a3) < v18 then (subI p.a4 c.color.a3) else v18)) = z := ⟨_, rfl, d_e⟩
  (try rw [gv19]); (try (conv at gv19 => (lhs; cbv))); (try rw [gv19]); (try rw [ev19] at hf); clear gv19 ev19
  replace hf := d_lt hf
  obtain ⟨v20, gv20, ev20⟩ : ∃ z : Int, (S.bin .sub .i64 v18 (S.smin v18 (S.bin .sub .i64 p.a4 c.color.a3))) = z ∧ (subI v18 (if (subI p.a4 c.color.a3) < v18 then (subI p.a4 c.color.a3) else v18)) = z := ⟨_, rfl, d_e⟩
  (try rw [gv20]); (try (conv at gv20 => (lhs; cbv))); (try rw [gv20]); (try rw [ev20] at hf); clear gv20 ev20
  refine hg10 _ _ ?_; cbv
  refine l_seq hS ?_; cbv
  replace hf := d_lt hf
  obtain ⟨v21, gv21, ev21⟩ : ∃ z : Int, (S.bin .sub .i64 (S.bin .sub .i64 p.a5 c.color.a4) (S.smin v20 (S.bin .sub .i64 p.a5 c.color.a4))) = z ∧ (subI (subI p.a5 c.color.a4) (if (subI p.a5 c.color.a4) < v20 then (subI p.a5 c.color.a4) else v20)) = z := ⟨_, rfl, d_e⟩
  (try rw [gv21]); (try (conv at gv21 => (lhs; cbv))); (try rw [gv21]); (try rw [ev21] at hf); clear gv21 ev21
  replace hf := d_lt hf
  obtain ⟨v22, gv22, ev22⟩ : ∃ z : Int, (S.bin .sub .i64 v20 (S.smin v20 (S.bin .sub .i64 p.a5 c.color.a4))) = z ∧ (subI v20 (if (subI p.a5 c.color.a4) < v20 then (subI p.a5 c.color.a4) else v20)) = z := ⟨_, rfl, d_e⟩
  (try rw [gv22]); (try (conv at gv22 => (lhs; cbv))); (try rw [gv22]); (try rw [ev22] at hf); clear gv22 ev22
  refine hg10 _ _ ?_; cbv
  refine l_seq hS ?_; cbv
  cases hf; exact hR _ (lp_eq rfl)
theorem c28 {M : EncM} (hM : M = mapE) {a : GAbility} {r : GAbility} (hf : zone_copyAbility a = some r) : Pv.Fn Try.prog glF 28 [.agg (eGAbility M a)] (fun u => u = .agg (eGAbility M r)) := by
  refine fn_dec (T := tab) tabOK rfl wf Try.func28 rfl Try.call28 rfl ?_
  intro S R hS hR
  have q := sf hM hS
  unfold zone_copyAbility at hf
  cbv
  refine d_callo hS hf (fun _ => o32 hM) (le_eq rfl) ?_
  intro y1 hf; cbv
  refine d_callo hS hf (fun _ => o45 hM) (le_eq rfl) ?_
  intro y2 hf; cbv
  refine d_callo hS hf (fun _ => o46 hM) (le_eq rfl) ?_
  intro y3 hf; cbv
  refine d_lp hS tabOK wf [] [1, 2, 18, 19] (fun s4 => ⟨tpsL 0 36 [(1, .lv 0 0), (2, .lv 4 0), (18, .si .i64 (S.nint (M.n GEffect y3))), (19, .si .i64 s4.1)], [(0, some (.var false [.si .i64 a.kind, .si .i64 a.filter.zone, .si .i64 a.filter.who, .si .i64 a.filter.self, .si .i64 a.filter.types, .si .i64 a.filter.notTypes, .si .i64 a.filter.colors, .si .i64 a.filter.notColors, .str a.filter.sub, .si .i64 a.filter.keys, .si .i64 a.filter.tap, .si .i64 a.filter.power.kind, .si .i64 a.filter.power.n, .si .i64 a.filter.tough.kind, .si .i64 a.filter.tough.n, .si .i64 a.filter.value.kind, .si .i64 a.filter.value.n, .os 1 0 (S.lenN (M.m GMod (eGMod M) y1)), .si .i64 a.price.mana.generic, .si .i64 a.price.mana.x, .si .i64 a.price.mana.color.a0, .si .i64 a.price.mana.color.a1, .si .i64 a.price.mana.color.a2, .si .i64 a.price.mana.color.a3, .si .i64 a.price.mana.color.a4, .sb a.price.tap, .sb a.price.sacrifice, .si .i64 a.price.life, .sb a.slow, .si .i64 a.trigger.when, .si .i64 a.trigger.who, .si .i64 a.trigger.filter.zone, .si .i64 a.trigger.filter.who, .si .i64 a.trigger.filter.self, .si .i64 a.trigger.filter.types, .si .i64 a.trigger.filter.notTypes, .si .i64 a.trigger.filter.colors, .si .i64 a.trigger.filter.notColors, .str a.trigger.filter.sub, .si .i64 a.trigger.filter.keys, .si .i64 a.trigger.filter.tap, .si .i64 a.trigger.filter.power.kind, .si .i64 a.trigger.filter.power.n, .si .i64 a.trigger.filter.tough.kind, .si .i64 a.trigger.filter.tough.n, .si .i64 a.trigger.filter.value.kind, .si .i64 a.trigger.filter.value.n, .sb a.may, .os 2 0 (S.lenN (M.m GSpec (eGSpec M) y2)), .os 3 0 (S.lenN (M.m GEffect (eGEffect M) s4.2)), .si .i64 a.replace.on, .si .i64 a.replace.who, .si .i64 a.replace.filter.zone, .si .i64 a.replace.filter.who, .si .i64 a.replace.filter.self, .si .i64 a.replace.filter.types, .si .i64 a.replace.filter.notTypes, .si .i64 a.replace.filter.colors, .si .i64 a.replace.filter.notColors, .str a.replace.filter.sub, .si .i64 a.replace.filter.keys, .si .i64 a.replace.filter.tap, .si .i64 a.replace.filter.power.kind, .si .i64 a.replace.filter.power.n, .si .i64 a.replace.filter.tough.kind, .si .i64 a.replace.filter.tough.n, .si .i64 a.replace.filter.value.kind, .si .i64 a.replace.filter.value.n, .si .i64 a.replace.doF, .si .i64 a.replace.n, .si .i64 a.replace.zone, .si .i64 a.replace.counter])), (1, some (.arr false 20 (M.m GMod (eGMod M) y1))), (2, some (.arr false 18 (M.m GSpec (eGSpec M) y2))), (3, some (.arr false 64 (M.m GEffect (eGEffect M) s4.2))), (4, some (.var false [.si .i64 0, .si .i64 0, .si .i64 0, .si .i64 0, .si .i64 0, .si .i64 0, .si .i64 0, .si .i64 0, .str (bs []), .si .i64 0, .si .i64 0, .si .i64 0, .si .i64 0, .si .i64 0, .si .i64 0, .si .i64 0, .si .i64 0, .sl 0 [] true, .si .i64 0, .si .i64 0, .si .i64 0, .si .i64 0, .si .i64 0, .si .i64 0, .si .i64 0, .sb false, .sb false, .si .i64 0, .sb false, .si .i64 0, .si .i64 0, .si .i64 0, .si .i64 0, .si .i64 0, .si .i64 0, .si .i64 0, .si .i64 0, .si .i64 0, .str (bs []), .si .i64 0, .si .i64 0, .si .i64 0, .si .i64 0, .si .i64 0, .si .i64 0, .si .i64 0, .si .i64 0, .sb false, .sl 0 [] true, .sl 0 [] true, .si .i64 0, .si .i64 0, .si .i64 0, .si .i64 0, .si .i64 0, .si .i64 0, .si .i64 0, .si .i64 0, .si .i64 0, .str (bs []), .si .i64 0, .si .i64 0, .si .i64 0, .si .i64 0, .si .i64 0, .si .i64 0, .si .i64 0, .si .i64 0, .si .i64 0, .si .i64 0, .si .i64 0, .si .i64 0]))], 5⟩) hf ?_
  intro Ik5 k5 s4 hk5 hf e he; subst he
  unfold zone_copyAbility_l1 at hf
  cbv
  refine d_b hS hf ?_ ?_
  · intro hf; cbv
    refine d_o hS ?_; cbv
    refine d_ix hS hf d_e rfl ?_
    intro j7 _ hf; cbv
    refine d_row hS hM hf rfl d_e ?_
    intro x8 hf; cbv
    refine d_c hS hf (fun _ => c32 hM) ?_
    intro y9 hf; cbv
    refine d_ix hS hf d_e rfl ?_
    intro j10 _ hf; cbv
    refine d_row hS hM hf rfl d_e ?_
    intro x11 hf; cbv
    exact d_x hk5 hf
  intro hf; cbv
  cases hf; exact hR _ d_l
theorem c34 {M : EncM} (hM : M = mapE) {c : GChoice} {r : List Int} (hf : ask_Default c = some r) : Pv.Fn Try.prog glF 34 [.agg (eGChoice M c)] (fun u => u = .sl 1 (M.m Int (eI .i64) r) false) := by
  refine fn_dec (T := tab) tabOK rfl wf Try.func34 rfl Try.call34 rfl ?_
  intro S R hS hR
  have q := sf hM hS
  unfold ask_Default at hf
  cbv
  refine d_b hS hf ?_ ?_
  · intro hf; cbv
    refine d_wk hS (e := (eI .i64)) hf (by (try simp only [q]); repeat' constructor) ?_
    intro x1 hf; cbv
    cases hf; exact hR _ d_l
  intro hf; cbv
  refine d_b hS hf ?_ ?_
  · intro hf; cbv
    refine d_wk hS (e := (eI .i64)) hf (by (try simp only [q]); repeat' constructor) ?_
    intro x2 hf; cbv
    cases hf; exact hR _ d_l
  intro hf; cbv
  refine d_b hS hf ?_ ?_
  · intro hf; cbv
    refine d_wk hS (e := (eI .i64)) hf (by (try simp only [q]); repeat' constructor) ?_
    intro x3 hf; cbv
    cases hf; exact hR _ d_l
  intro hf; cbv
  refine d_b hS hf ?_ ?_
  · intro hf; cbv
    refine d_wk hS (e := (eI .i64)) hf (by (try simp only [q]); repeat' constructor) ?_
    intro x4 hf; cbv
    cases hf; exact hR _ d_l
  intro hf; cbv
  refine d_b hS hf ?_ ?_
  · intro hf; cbv
    refine d_wk hS (e := (eI .i64)) hf (by (try simp only [q]); repeat' constructor) ?_
    intro x5 hf; cbv
    cases hf; exact hR _ d_l
  intro hf; cbv
  refine d_b hS hf ?_ ?_
  · intro hf; cbv
    refine d_callp hS hf (fun _ => c47 hM) d_ll ?_
    intro y6 hf; cbv
    cases hf; exact hR _ (lp_eq rfl)
  intro hf; cbv
  refine d_b hS hf ?_ ?_
  · intro hf; cbv
    refine d_callp hS hf (fun _ => c47 hM) d_ll ?_
    intro y7 hf; cbv
    cases hf; exact hR _ (lp_eq rfl)
  intro hf; cbv
  refine d_b hS hf ?_ ?_
  · intro hf; cbv
    cases hf; exact hR _ d_l
  intro hf; cbv
  refine d_b hS hf ?_ ?_
  · intro hf; cbv
    refine d_b hS hf ?_ ?_
    · intro hf; cbv
      refine d_mks hS hf d_e d_e ?_
      intro j8 hf; cbv
      refine d_wk hS (e := (eI .i64)) hf (by (try simp only [q]); repeat' constructor) ?_
      intro x9 hf; cbv
      refine d_ix hS hf rfl rfl ?_
      intro j10 _ hf; cbv
      refine d_row hS hM (e := (eI .i64)) hf d_e d_e ?_
      intro x11 hf; cbv
      cases hf; exact hR _ d_l
    intro hf; cbv
    cases hf; exact hR _ (by (try simp only [q]); repeat' constructor)
  intro hf; cbv
  cases hf; exact hR _ (by (try simp only [q]); repeat' constructor)
theorem o10 {M : EncM} (hM : M = mapE) {answers : List (List Int)} {r : GAskAsker} (hf : ask_New answers = some r) : Pv.FnS Try.prog glF 10 [.sl 1 (M.m (List Int) (eL M 1 (eI .i64)) answers) false] [] 0 (fun u s n => u = .lv 0 0 ∧ s = [(0, some (.var false [.os 1 0 (M.n (List Int) r.answers), .si .i64 r.used, .si .i64 r.pending.kind, .si .i64 r.pending.player, .si .i64 r.pending.source, .si .i64 r.pending.least, .si .i64 r.pending.most, .si .i64 r.pending.n, .sl 3 (M.m GOption (eGOption M) r.pending.options) false, .sb r.waits, .sb r.bad])), (1, some (.arr false 1 (M.m (List Int) (eL M 1 (eI .i64)) r.answers)))] ∧ n = 2) := by
  refine fnS_dec (T := (tabx 0 [] [])) (tabxOK 0 [] []) wf Try.func10 rfl Try.call10 rfl ?_
  intro S R hS hR
  have q := sf hM hS
  unfold ask_New at hf
  cbv
  refine d_lp hS (tabxOK 0 [] []) wf [.cO 0 0 1] [3, 8, 9, 10] (fun s1 => ⟨tpsL 0 27 [(3, .lv 0 0), (8, .sl 1 (M.m (List Int) (eL M 1 (eI .i64)) answers) false), (9, .si .i64 (S.len (M.m (List Int) (eL M 1 (eI .i64)) answers))), (10, .si .i64 s1.1)], [(0, some (.var false [.os 1 0 (S.lenN (M.m (List Int) (eL M 1 (eI .i64)) s1.2)), .si .i64 0, .si .i64 0, .si .i64 0, .si .i64 0, .si .i64 0, .si .i64 0, .si .i64 0, .sl 0 [] true, .sb false, .sb false])), (1, some (.arr false 1 (M.m (List Int) (eL M 1 (eI .i64)) s1.2)))], 2⟩) hf ?_
  intro Ik2 k2 s1 hk2 hf e he; subst he
  unfold ask_New_l1 at hf
  cbv
  refine d_b hS hf ?_ ?_
  · intro hf; cbv
    refine d_idx hS hM hf rfl rfl ?_
    intro x4 hf; cbv
    refine d_o hS ?_; cbv
    refine d_c hS hf (fun _ => c19 hM) ?_
    intro y5 hf; cbv
    refine d_room hS hf d_e ?_
    intro hf; cbv
    exact d_x hk2 hf
  intro hf; cbv
  cases hf; exact hR _ _ _ d_st d_st rfl
end Go.Proofs.Ytddcpnlflncahaa
namespace Go.Proofs.Ytddcpnlflncahaa
open Go Go.Pv
set_option maxRecDepth 100000
set_option maxHeartbeats 2000000
theorem c41 {M : EncM} (hM : M = mapE) {a : GPlayer} {b : GPlayer} {r : Bool} (hf : r26_SamePlayer a b = some r) : Pv.Fn Try.prog glF 41 [.agg (eGPlayer M a), .agg (eGPlayer M b)] (fun u => u = .sb r) := by
  refine fn_dec (T := (tabc [2])) (tabcOK [2]) rfl wf Try.func41 rfl Try.call41 rfl ?_
  intro S R hS hR
  have q := sf hM hS
  unfold r26_SamePlayer at hf
  cbv
  refine d_cut hS [] [2, 3, 44] (fun s1 => ⟨tpsL 0 64 [(2, .lv 0 0), (3, .lv 1 0), (44, .sb s1)], [(0, some (.var false (eGPlayer M a))), (1, some (.var false (eGPlayer M b)))], 2⟩) hf ?_ ?_
  · intro Ik2 k2 hk2 hf; cbv
    refine d_b hS hf ?_ ?_
    · intro hf; cbv
      exact d_x hk2 hf
    intro hf; cbv
    refine d_b hS hf ?_ ?_
    · intro hf; cbv
      exact d_x hk2 hf
    intro hf; cbv
    refine d_b hS hf ?_ ?_
    · intro hf; cbv
      exact d_x hk2 hf
    intro hf; cbv
    replace hf := d_lt hf
    refine d_b hS hf ?_ ?_
    · intro hf; cbv
      exact d_x hk2 hf
    intro hf; cbv
    refine d_b hS hf ?_ ?_
    · intro hf; cbv
      exact d_x hk2 hf
    intro hf; cbv
    exact d_x hk2 hf
  intro s1 hf; cbv
  refine d_br hS hf rfl ?_ ?_
  · intro hf; cbv
    cases hf; exact hR _ (lp_eq rfl)
  intro hf; cbv
  refine d_p hS hf (fun _ => c22 hM) ?_
  intro y5 hf; cbv
  refine d_br hS hf rfl ?_ ?_
  · intro hf; cbv
    refine d_p hS hf (fun _ => c22 hM) ?_
    intro y6 hf; cbv
    refine d_br hS hf rfl ?_ ?_
    · intro hf; cbv
      refine d_p hS hf (fun _ => c22 hM) ?_
      intro y7 hf; cbv
      cases hf; exact hR _ (lp_eq rfl)
    intro hf; cbv
    cases hf; exact hR _ (lp_eq rfl)
  intro hf; cbv
  cases hf; exact hR _ (lp_eq rfl)
theorem c59 {M : EncM} (hM : M = mapE) {a : GEffect} {b : GEffect} {r : Bool} (hf : r17_Same a b = some r) : Pv.Fn Try.prog glF 59 [.agg (eGEffect M a), .agg (eGEffect M b)] (fun u => u = .sb r) := by
  refine fn_dec (T := tab) tabOK rfl wf Try.func59 rfl Try.call59 rfl ?_
  intro S R hS hR
  have q := sf hM hS
  unfold r17_Same at hf
  cbv
  refine d_b hS hf ?_ ?_
  · intro hf; cbv
    replace hf := d_lt hf
    refine d_b hS hf ?_ ?_
    · intro hf; cbv
      replace hf := d_lt hf
      refine d_b hS hf ?_ ?_
      · intro hf; cbv
        refine d_b hS hf ?_ ?_
        · intro hf; cbv
          refine d_b hS hf ?_ ?_
          · intro hf; cbv
            refine d_b hS hf ?_ ?_
            · intro hf; cbv
              replace hf := d_lt hf
              refine d_b hS hf ?_ ?_
              · intro hf; cbv
                replace hf := d_lt hf
                refine d_b hS hf ?_ ?_
                · intro hf; cbv
                  refine d_p hS hf (fun _ => c55 hM) ?_
                  intro y5 hf; cbv
                  cases hf; exact hR _ (lp_eq rfl)
                intro hf; cbv
                cases hf; exact hR _ (lp_eq rfl)
              intro hf; cbv
              cases hf; exact hR _ (lp_eq rfl)
            intro hf; cbv
            cases hf; exact hR _ (lp_eq rfl)
          intro hf; cbv
          cases hf; exact hR _ (lp_eq rfl)
        intro hf; cbv
        cases hf; exact hR _ (lp_eq rfl)
      intro hf; cbv
      cases hf; exact hR _ (lp_eq rfl)
    intro hf; cbv
    cases hf; exact hR _ (lp_eq rfl)
  intro hf; cbv
  cases hf; exact hR _ (lp_eq rfl)
theorem c44 {M : EncM} (hM : M = mapE) {a : GCont} {b : GCont} {r : Bool} (hf : r26_SameCont a b = some r) : Pv.Fn Try.prog glF 44 [.agg (eGCont M a), .agg (eGCont M b)] (fun u => u = .sb r) := by
  refine fn_dec (T := tab) tabOK rfl wf Try.func44 rfl Try.call44 rfl ?_
  intro S R hS hR
  have q := sf hM hS
  unfold r26_SameCont at hf
  cbv
  refine d_b hS hf ?_ ?_
  · intro hf; cbv
    refine d_b hS hf ?_ ?_
    · intro hf; cbv
      refine d_b hS hf ?_ ?_
      · intro hf; cbv
        refine d_b hS hf ?_ ?_
        · intro hf; cbv
          refine d_p hS hf (fun _ => c22 hM) ?_
          intro y1 hf; cbv
          refine d_br hS hf rfl ?_ ?_
          · intro hf; cbv
            refine d_p hS hf (fun _ => c52 hM) ?_
            intro y2 hf; cbv
            cases hf; exact hR _ (lp_eq rfl)
          intro hf; cbv
          cases hf; exact hR _ (lp_eq rfl)
        intro hf; cbv
        cases hf; exact hR _ (lp_eq rfl)
      intro hf; cbv
      cases hf; exact hR _ (lp_eq rfl)
    intro hf; cbv
    cases hf; exact hR _ (lp_eq rfl)
  intro hf; cbv
  cases hf; exact hR _ (lp_eq rfl)
theorem c24 {M : EncM} (hM : M = mapE) {p : GPlayer} {r : GPlayer} (hf : zone_copyPlayer p = some r) : Pv.Fn Try.prog glF 24 [.agg (eGPlayer M p)] (fun u => u = .agg (eGPlayer M r)) := by
  refine fn_dec (T := tab) tabOK rfl wf Try.func24 rfl Try.call24 rfl ?_
  intro S R hS hR
  have q := sf hM hS
  unfold zone_copyPlayer at hf
  cbv
  refine d_p hS hf (fun _ => c26 hM) ?_
  intro y1 hf; cbv
  refine d_p hS hf (fun _ => c26 hM) ?_
  intro y2 hf; cbv
  refine d_p hS hf (fun _ => c26 hM) ?_
  intro y3 hf; cbv
  cases hf; exact hR _ (lp_eq rfl)
theorem c58 {M : EncM} (hM : M = mapE) {s : List Int} {v : Int} {r : Bool} (hf : slices_Contains_int s v = some r) : Pv.Fn Try.prog glF 58 [.sl 1 (M.m Int (eI .i64) s) false, .si .i64 v] (fun u => u = .sb r) := by
  refine fn_dec (T := tab) tabOK rfl wf Try.func58 rfl Try.call58 rfl ?_
  intro S R hS hR
  have q := sf hM hS
  unfold slices_Contains_int at hf
  cbv
  refine d_p hS hf (fun _ => c57 hM) ?_
  intro y1 hf; cbv
  cases hf; exact hR _ d_l
theorem c53 {M : EncM} (hM : M = mapE) {l : List Int} {n : Int} {r : Int} (hf : idset_Index l n = some r) : Pv.Fn Try.prog glF 53 [.sl 1 (M.m Int (eI .i64) l) false, .si .i64 n] (fun u => u = .si .i64 r) := by
  refine fn_dec (T := tab) tabOK rfl wf Try.func53 rfl Try.call53 rfl ?_
  intro S R hS hR
  have q := sf hM hS
  unfold idset_Index at hf
  cbv
  refine d_p hS hf (fun _ => c57 hM) ?_
  intro y1 hf; cbv
  cases hf; exact hR _ (lp_eq rfl)
end Go.Proofs.Ytddcpnlflncahaa
namespace Go.Proofs.Ytddcpnlflncahaa
open Go Go.Pv
set_option maxRecDepth 100000
set_option maxHeartbeats 2000000
theorem o16 {M : EncM} (hM : M = mapE) {s : GState} {r : GState} (hf : zone_Copy s = some r) : Pv.FnS Try.prog glF 16 [.agg (eGState M s)] [] 0 (fun u s n => u = .agg [.os 0 0 (M.n GPlayer r.players), .os 1 0 (M.n GObject r.objects), .os 2 0 (M.n Int r.battlefield), .os 3 0 (M.n Int r.exile), .os 4 0 (M.n GItem r.stack), .os 5 0 (M.n GWaiting r.waiting), .os 6 0 (M.n GCont r.conts), .si .i64 r.turn, .si .i64 r.active, .si .i64 r.step, .sb r.begun, .si .i64 r.priority, .si .i64 r.passes, .si .i64 r.nextId, .si .i64 r.nextStamp, .si .u64 r.seed, .os 7 0 (M.n Int r.extra), .si .i64 r.over, .si .i64 r.winner] ∧ s = [(0, some (.arr false 14 (M.m GPlayer (eGPlayer M) r.players))), (1, some (.arr false 19 (M.m GObject (eGObject M) r.objects))), (2, some (.arr false 1 (M.m Int (eI .i64) r.battlefield))), (3, some (.arr false 1 (M.m Int (eI .i64) r.exile))), (4, some (.arr false 94 (M.m GItem (eGItem M) r.stack))), (5, some (.arr false 89 (M.m GWaiting (eGWaiting M) r.waiting))), (6, some (.arr false 6 (M.m GCont (eGCont M) r.conts))), (7, some (.arr false 1 (M.m Int (eI .i64) r.extra)))] ∧ n = 8) := by
  refine fnS_dec (T := (tabx 0 [] [[(14, true), (19, true), (1, true), (1, true), (94, true), (89, true), (6, true), (0, false), (0, false), (0, false), (0, false), (0, false), (0, false), (0, false), (0, false), (0, false), (1, true), (0, false), (0, false)]])) (tabxOK 0 [] [[(14, true), (19, true), (1, true), (1, true), (94, true), (89, true), (6, true), (0, false), (0, false), (0, false), (0, false), (0, false), (0, false), (0, false), (0, false), (0, false), (1, true), (0, false), (0, false)]]) wf Try.func16 rfl Try.call16 rfl ?_
  intro S R hS hR
  have q := sf hM hS
  unfold zone_Copy at hf
  cbv
  refine d_callo hS hf (fun _ => o23 hM) (le_eq rfl) ?_
  intro y1 hf; cbv
  refine d_lp hS (tabxOK 0 [] [[(14, true), (19, true), (1, true), (1, true), (94, true), (89, true), (6, true), (0, false), (0, false), (0, false), (0, false), (0, false), (0, false), (0, false), (0, false), (0, false), (1, true), (0, false), (0, false)]]) wf [] [1, 2, 13, 14] (fun s2 => ⟨tpsL 0 138 [(1, .lv 0 0), (2, .lv 2 0), (13, .si .i64 (S.nint (M.n GPlayer y1))), (14, .si .i64 s2.1)], [(0, some (.var false [.os 1 0 (S.lenN (M.m GPlayer (eGPlayer M) s2.2)), .sl 19 (M.m GObject (eGObject M) s.objects) false, .sl 1 (M.m Int (eI .i64) s.battlefield) false, .sl 1 (M.m Int (eI .i64) s.exile) false, .sl 94 (M.m GItem (eGItem M) s.stack) false, .sl 89 (M.m GWaiting (eGWaiting M) s.waiting) false, .sl 6 (M.m GCont (eGCont M) s.conts) false, .si .i64 s.turn, .si .i64 s.active, .si .i64 s.step, .sb s.begun, .si .i64 s.priority, .si .i64 s.passes, .si .i64 s.nextId, .si .i64 s.nextStamp, .si .u64 s.seed, .sl 1 (M.m Int (eI .i64) s.extra) false, .si .i64 s.over, .si .i64 s.winner])), (1, some (.arr false 14 (M.m GPlayer (eGPlayer M) s2.2))), (2, some (.var false [.sl 0 [] true, .sl 0 [] true, .sl 0 [] true, .sl 0 [] true, .sl 0 [] true, .sl 0 [] true, .sl 0 [] true, .si .i64 0, .si .i64 0, .si .i64 0, .sb false, .si .i64 0, .si .i64 0, .si .i64 0, .si .i64 0, .si .u64 0, .sl 0 [] true, .si .i64 0, .si .i64 0]))], 3⟩) hf ?_
  intro Ik3 k3 s2 hk3 hf e he; subst he
  unfold zone_Copy_l4 at hf
  cbv
  refine d_b hS hf ?_ ?_
  · intro hf; cbv
    refine d_o hS ?_; cbv
    refine d_ix hS hf d_e rfl ?_
    intro j5 _ hf; cbv
    refine d_row hS hM hf rfl d_e ?_
    intro x6 hf; cbv
    refine d_c hS hf (fun _ => c24 hM) ?_
    intro y7 hf; cbv
    refine d_ix hS hf d_e rfl ?_
    intro j8 _ hf; cbv
    refine d_row hS hM hf rfl d_e ?_
    intro x9 hf; cbv
    exact d_x hk3 hf
  intro hf; cbv
  refine d_callo hS hf (fun _ => o25 hM) (le_eq rfl) ?_
  intro y10 hf; cbv
  refine d_callo hS hf (fun _ => o26 hM) (le_eq rfl) ?_
  intro y11 hf; cbv
  refine d_callo hS hf (fun _ => o26 hM) (le_eq rfl) ?_
  intro y12 hf; cbv
  refine d_callo hS hf (fun _ => o27 hM) (le_eq rfl) ?_
  intro y13 hf; cbv
  refine d_lp hS (tabxOK 0 [] [[(14, true), (19, true), (1, true), (1, true), (94, true), (89, true), (6, true), (0, false), (0, false), (0, false), (0, false), (0, false), (0, false), (0, false), (0, false), (0, false), (1, true), (0, false), (0, false)]]) wf [] [1, 2, 46, 47] (fun s14 => ⟨tpsL 0 138 [(1, .lv 0 0), (2, .lv 6 0), (46, .si .i64 (S.nint (M.n GItem y13))), (47, .si .i64 s14.1)], [(0, some (.var false [.os 1 0 (S.lenN (M.m GPlayer (eGPlayer M) s2.2)), .os 2 0 (S.lenN (M.m GObject (eGObject M) y10)), .os 3 0 (S.lenN (M.m Int (eI .i64) y11)), .os 4 0 (S.lenN (M.m Int (eI .i64) y12)), .os 5 0 (S.lenN (M.m GItem (eGItem M) s14.2)), .sl 89 (M.m GWaiting (eGWaiting M) s.waiting) false, .sl 6 (M.m GCont (eGCont M) s.conts) false, .si .i64 s.turn, .si .i64 s.active, .si .i64 s.step, .sb s.begun, .si .i64 s.priority, .si .i64 s.passes, .si .i64 s.nextId, .si .i64 s.nextStamp, .si .u64 s.seed, .sl 1 (M.m Int (eI .i64) s.extra) false, .si .i64 s.over, .si .i64 s.winner])), (1, some (.arr false 14 (M.m GPlayer (eGPlayer M) s2.2))), (2, some (.arr false 19 (M.m GObject (eGObject M) y10))), (3, some (.arr false 1 (M.m Int (eI .i64) y11))), (4, some (.arr false 1 (M.m Int (eI .i64) y12))), (5, some (.arr false 94 (M.m GItem (eGItem M) s14.2))), (6, some (.var false [.sl 0 [] true, .sl 0 [] true, .sl 0 [] true, .sl 0 [] true, .sl 0 [] true, .sl 0 [] true, .sl 0 [] true, .si .i64 0, .si .i64 0, .si .i64 0, .sb false, .si .i64 0, .si .i64 0, .si .i64 0, .si .i64 0, .si .u64 0, .sl 0 [] true, .si .i64 0, .si .i64 0]))], 7⟩) hf ?_
  intro Ik15 k15 s14 hk15 hf e he; subst he
  unfold zone_Copy_l3 at hf
  cbv
  refine d_b hS hf ?_ ?_
  · intro hf; cbv
    refine d_o hS ?_; cbv
    refine d_ix hS hf d_e rfl ?_
    intro j17 _ hf; cbv
    refine d_row hS hM hf rfl d_e ?_
    intro x18 hf; cbv
    refine d_c hS hf (fun _ => c28 hM) ?_
    intro y19 hf; cbv
    refine d_ix hS hf d_e rfl ?_
    intro j20 _ hf; cbv
    refine d_row hS hM hf rfl d_e ?_
    intro x21 hf; cbv
    refine d_o hS ?_; cbv
    refine d_ix hS hf d_e rfl ?_
    intro j22 _ hf; cbv
    refine d_row hS hM (e := (eGItem M)) hf d_e d_e ?_
    intro x23 hf; cbv
    refine d_c hS hf (fun _ => c29 hM) ?_
    intro y24 hf; cbv
    refine d_ix hS hf d_e rfl ?_
    intro j25 _ hf; cbv
    refine d_row hS hM (e := (eGItem M)) hf d_e d_e ?_
    intro x26 hf; cbv
    exact d_x hk15 hf
  intro hf; cbv
  refine d_callo hS hf (fun _ => o30 hM) (le_eq rfl) ?_
  intro y27 hf; cbv
  refine d_lp hS (tabxOK 0 [] [[(14, true), (19, true), (1, true), (1, true), (94, true), (89, true), (6, true), (0, false), (0, false), (0, false), (0, false), (0, false), (0, false), (0, false), (0, false), (0, false), (1, true), (0, false), (0, false)]]) wf [] [1, 2, 81, 82] (fun s28 => ⟨tpsL 0 138 [(1, .lv 0 0), (2, .lv 7 0), (81, .si .i64 (S.nint (M.n GWaiting y27))), (82, .si .i64 s28.1)], [(0, some (.var false [.os 1 0 (S.lenN (M.m GPlayer (eGPlayer M) s2.2)), .os 2 0 (S.lenN (M.m GObject (eGObject M) y10)), .os 3 0 (S.lenN (M.m Int (eI .i64) y11)), .os 4 0 (S.lenN (M.m Int (eI .i64) y12)), .os 5 0 (S.lenN (M.m GItem (eGItem M) s14.2)), .os 6 0 (S.lenN (M.m GWaiting (eGWaiting M) s28.2)), .sl 6 (M.m GCont (eGCont M) s.conts) false, .si .i64 s.turn, .si .i64 s.active, .si .i64 s.step, .sb s.begun, .si .i64 s.priority, .si .i64 s.passes, .si .i64 s.nextId, .si .i64 s.nextStamp, .si .u64 s.seed, .sl 1 (M.m Int (eI .i64) s.extra) false, .si .i64 s.over, .si .i64 s.winner])), (1, some (.arr false 14 (M.m GPlayer (eGPlayer M) s2.2))), (2, some (.arr false 19 (M.m GObject (eGObject M) y10))), (3, some (.arr false 1 (M.m Int (eI .i64) y11))), (4, some (.arr false 1 (M.m Int (eI .i64) y12))), (5, some (.arr false 94 (M.m GItem (eGItem M) s14.2))), (6, some (.arr false 89 (M.m GWaiting (eGWaiting M) s28.2))), (7, some (.var false [.sl 0 [] true, .sl 0 [] true, .sl 0 [] true, .sl 0 [] true, .sl 0 [] true, .sl 0 [] true, .sl 0 [] true, .si .i64 0, .si .i64 0, .si .i64 0, .sb false, .si .i64 0, .si .i64 0, .si .i64 0, .si .i64 0, .si .u64 0, .sl 0 [] true, .si .i64 0, .si .i64 0]))], 8⟩) hf ?_
  intro Ik29 k29 s28 hk29 hf e he; subst he
  unfold zone_Copy_l2 at hf
  cbv
  refine d_b hS hf ?_ ?_
  · intro hf; cbv
    refine d_o hS ?_; cbv
    refine d_ix hS hf d_e rfl ?_
    intro j31 _ hf; cbv
    refine d_row hS hM hf rfl d_e ?_
    intro x32 hf; cbv
    refine d_c hS hf (fun _ => c28 hM) ?_
    intro y33 hf; cbv
    refine d_ix hS hf d_e rfl ?_
    intro j34 _ hf; cbv
    refine d_row hS hM hf rfl d_e ?_
    intro x35 hf; cbv
    exact d_x hk29 hf
  intro hf; cbv
  refine d_callo hS hf (fun _ => o31 hM) (le_eq rfl) ?_
  intro y36 hf; cbv
  refine d_lp hS (tabxOK 0 [] [[(14, true), (19, true), (1, true), (1, true), (94, true), (89, true), (6, true), (0, false), (0, false), (0, false), (0, false), (0, false), (0, false), (0, false), (0, false), (0, false), (1, true), (0, false), (0, false)]]) wf [] [1, 2, 104, 105] (fun s37 => ⟨tpsL 0 138 [(1, .lv 0 0), (2, .lv 8 0), (104, .si .i64 (S.nint (M.n GCont y36))), (105, .si .i64 s37.1)], [(0, some (.var false [.os 1 0 (S.lenN (M.m GPlayer (eGPlayer M) s2.2)), .os 2 0 (S.lenN (M.m GObject (eGObject M) y10)), .os 3 0 (S.lenN (M.m Int (eI .i64) y11)), .os 4 0 (S.lenN (M.m Int (eI .i64) y12)), .os 5 0 (S.lenN (M.m GItem (eGItem M) s14.2)), .os 6 0 (S.lenN (M.m GWaiting (eGWaiting M) s28.2)), .os 7 0 (S.lenN (M.m GCont (eGCont M) s37.2)), .si .i64 s.turn, .si .i64 s.active, .si .i64 s.step, .sb s.begun, .si .i64 s.priority, .si .i64 s.passes, .si .i64 s.nextId, .si .i64 s.nextStamp, .si .u64 s.seed, .sl 1 (M.m Int (eI .i64) s.extra) false, .si .i64 s.over, .si .i64 s.winner])), (1, some (.arr false 14 (M.m GPlayer (eGPlayer M) s2.2))), (2, some (.arr false 19 (M.m GObject (eGObject M) y10))), (3, some (.arr false 1 (M.m Int (eI .i64) y11))), (4, some (.arr false 1 (M.m Int (eI .i64) y12))), (5, some (.arr false 94 (M.m GItem (eGItem M) s14.2))), (6, some (.arr false 89 (M.m GWaiting (eGWaiting M) s28.2))), (7, some (.arr false 6 (M.m GCont (eGCont M) s37.2))), (8, some (.var false [.sl 0 [] true, .sl 0 [] true, .sl 0 [] true, .sl 0 [] true, .sl 0 [] true, .sl 0 [] true, .sl 0 [] true, .si .i64 0, .si .i64 0, .si .i64 0, .sb false, .si .i64 0, .si .i64 0, .si .i64 0, .si .i64 0, .si .u64 0, .sl 0 [] true, .si .i64 0, .si .i64 0]))], 9⟩) hf ?_
  intro Ik38 k38 s37 hk38 hf e he; subst he
  unfold zone_Copy_l1 at hf
  cbv
  refine d_b hS hf ?_ ?_
  · intro hf; cbv
    refine d_o hS ?_; cbv
    refine d_ix hS hf d_e rfl ?_
    intro j40 _ hf; cbv
    refine d_row hS hM hf rfl d_e ?_
    intro x41 hf; cbv
    refine d_c hS hf (fun _ => c26 hM) ?_
    intro y42 hf; cbv
    refine d_ix hS hf d_e rfl ?_
    intro j43 _ hf; cbv
    refine d_row hS hM hf rfl d_e ?_
    intro x44 hf; cbv
    refine d_o hS ?_; cbv
    refine d_ix hS hf d_e rfl ?_
    intro j45 _ hf; cbv
    refine d_row hS hM (e := (eGCont M)) hf d_e d_e ?_
    intro x46 hf; cbv
    refine d_c hS hf (fun _ => c32 hM) ?_
    intro y47 hf; cbv
    refine d_ix hS hf d_e rfl ?_
    intro j48 _ hf; cbv
    refine d_row hS hM (e := (eGCont M)) hf d_e d_e ?_
    intro x49 hf; cbv
    exact d_x hk38 hf
  intro hf; cbv
  refine d_callo hS hf (fun _ => o26 hM) (le_eq rfl) ?_
  intro y50 hf; cbv
  cases hf; exact hR _ _ _ d_st d_st rfl
theorem c48 {M : EncM} (hM : M = mapE) {c : GChoice} {a : List Int} {r : Bool} (hf : ask_indexes c a = some r) : Pv.Fn Try.prog glF 48 [.agg (eGChoice M c), .sl 1 (M.m Int (eI .i64) a) false] (fun u => u = .sb r) := by
  refine fn_dec (T := (tabc [8])) (tabcOK [8]) rfl wf Try.func48 rfl Try.call48 rfl ?_
  intro S R hS hR
  have q := sf hM hS
  unfold ask_indexes at hf
  cbv
  refine d_lp hS (tabcOK [8]) wf [] [1, 2, 7, 8, 9] (fun s1 => ⟨tpsL 0 31 [(1, .sl 1 (M.m Int (eI .i64) a) false), (2, .lv 0 0), (7, .sl 1 (M.m Int (eI .i64) a) false), (8, .si .i64 (S.len (M.m Int (eI .i64) a))), (9, .si .i64 s1)], [(0, some (.var false (eGChoice M c)))], 1⟩) hf ?_
  intro Ik2 k2 s1 hk2 hf e he; subst he
  unfold ask_indexes_l1 at hf
  cbv
  refine d_b hS hf ?_ ?_
  · intro hf; cbv
    refine d_idx hS hM hf rfl rfl ?_
    intro x4 hf; cbv
    refine d_cut hS [] [1, 2, 7, 8, 9, 29] (fun s5 => ⟨tpsL 0 31 [(1, .sl 1 (M.m Int (eI .i64) a) false), (2, .lv 0 0), (7, .sl 1 (M.m Int (eI .i64) a) false), (8, .si .i64 (S.len (M.m Int (eI .i64) a))), (9, .si .i64 s1), (29, .sb s5)], [(0, some (.var false (eGChoice M c)))], 1⟩) hf ?_ ?_
    · intro Ik6 k6 hk6 hf; cbv
      refine d_b hS hf ?_ ?_
      · intro hf; cbv
        exact d_x hk6 hf
      intro hf; cbv
      refine d_b hS hf ?_ ?_
      · intro hf; cbv
        exact d_x hk6 hf
      intro hf; cbv
      refine d_p hS hf (fun _ => c53 hM) ?_
      intro y8 hf; cbv
      exact d_x hk6 hf
    intro s5 hf; cbv
    refine d_br hS hf rfl ?_ ?_
    · intro hf; cbv
      cases hf; exact hR _ (lp_eq rfl)
    intro hf; cbv
    exact d_x hk2 hf
  intro hf; cbv
  cases hf; exact hR _ (lp_eq rfl)
theorem c56 {M : EncM} (hM : M = mapE) {a : List GEffect} {b : List GEffect} {r : Bool} (hf : r17_SameList a b = some r) : Pv.Fn Try.prog glF 56 [.sl 64 (M.m GEffect (eGEffect M) a) false, .sl 64 (M.m GEffect (eGEffect M) b) false] (fun u => u = .sb r) := by
  refine fn_dec (T := tab) tabOK rfl wf Try.func56 rfl Try.call56 rfl ?_
  intro S R hS hR
  have q := sf hM hS
  unfold r17_SameList at hf
  cbv
  refine d_b hS hf ?_ ?_
  · intro hf; cbv
    cases hf; exact hR _ (lp_eq rfl)
  intro hf; cbv
  refine d_lp hS tabOK wf [] [0, 1, 5] (fun s1 => ⟨tpsL 0 27 [(0, .sl 64 (M.m GEffect (eGEffect M) a) false), (1, .sl 64 (M.m GEffect (eGEffect M) b) false), (5, .si .i64 s1)], [], 0⟩) hf ?_
  intro Ik2 k2 s1 hk2 hf e he; subst he
  unfold r17_SameList_l1 at hf
  cbv
  refine d_b hS hf ?_ ?_
  · intro hf; cbv
    refine d_o hS ?_; cbv
    refine d_idx hS hM hf rfl rfl ?_
    intro x4 hf; cbv
    refine d_idx hS hM hf rfl rfl ?_
    intro x5 hf; cbv
    refine d_c hS hf (fun _ => c59 hM) ?_
    intro y6 hf; cbv
    refine d_b hS hf ?_ ?_
    · intro hf; cbv
      cases hf; exact hR _ (lp_eq rfl)
    intro hf; cbv
    exact d_x hk2 hf
  intro hf; cbv
  cases hf; exact hR _ (lp_eq rfl)
theorem c15 {M : EncM} (hM : M = mapE) {p : Arr6 Int} {c : GCost} {x : Int} {r : Bool} (hf : mana_CanPay p c x = some r) : Pv.Fn Try.prog glF 15 [.agg [.si .i64 p.a0, .si .i64 p.a1, .si .i64 p.a2, .si .i64 p.a3, .si .i64 p.a4, .si .i64 p.a5], .agg (eGCost M c), .si .i64 x] (fun u => u = .sb r) := by
  refine fn_dec (T := tab) tabOK rfl wf Try.func15 rfl Try.call15 rfl ?_
  intro S R hS hR
  have q := sf hM hS
  unfold mana_CanPay at hf
  cbv
  refine d_p hS hf (fun _ => c18 hM) ?_
  intro y1 hf; cbv
  cases hf; exact hR _ d_l
theorem c11 {M : EncM} (hM : M = mapE) {p : Arr6 Int} {c : GCost} {x : Int} {r : Bool} (hf : r08_CanPay p c x = some r) : Pv.Fn Try.prog glF 11 [.agg [.si .i64 p.a0, .si .i64 p.a1, .si .i64 p.a2, .si .i64 p.a3, .si .i64 p.a4, .si .i64 p.a5], .agg (eGCost M c), .si .i64 x] (fun u => u = .sb r) := by
  refine fn_dec (T := tab) tabOK rfl wf Try.func11 rfl Try.call11 rfl ?_
  intro S R hS hR
  have q := sf hM hS
  unfold r08_CanPay at hf
  cbv
  refine d_p hS hf (fun _ => c20 hM) ?_
  intro y1 hf; cbv
  cases hf; exact hR _ d_l
theorem c54 {M : EncM} (hM : M = mapE) {l : List Int} {n : Int} {r : Bool} (hf : idset_Has l n = some r) : Pv.Fn Try.prog glF 54 [.sl 1 (M.m Int (eI .i64) l) false, .si .i64 n] (fun u => u = .sb r) := by
  refine fn_dec (T := tab) tabOK rfl wf Try.func54 rfl Try.call54 rfl ?_
  intro S R hS hR
  have q := sf hM hS
  unfold idset_Has at hf
  cbv
  refine d_p hS hf (fun _ => c58 hM) ?_
  intro y1 hf; cbv
  cases hf; exact hR _ (lp_eq rfl)
end Go.Proofs.Ytddcpnlflncahaa
namespace Go.Proofs.Ytddcpnlflncahaa
open Go Go.Pv
set_option maxRecDepth 100000
set_option maxHeartbeats 2000000
theorem c51 {M : EncM} (hM : M = mapE) {a : GAbility} {b : GAbility} {r : Bool} (hf : r20_Same a b = some r) : Pv.Fn Try.prog glF 51 [.agg (eGAbility M a), .agg (eGAbility M b)] (fun u => u = .sb r) := by
  refine fn_dec (T := tab) tabOK rfl wf Try.func51 rfl Try.call51 rfl ?_
  intro S R hS hR
  have q := sf hM hS
  unfold r20_Same at hf
  cbv
  refine d_b hS hf ?_ ?_
  · intro hf; cbv
    cases hf; exact hR _ (lp_eq rfl)
  intro hf; cbv
  refine d_lp hS tabOK wf [] [2, 3, 5] (fun s1 => ⟨tpsL 0 92 [(2, .lv 0 0), (3, .lv 1 0), (5, .si .i64 s1)], [(0, some (.var false (eGAbility M a))), (1, some (.var false (eGAbility M b)))], 2⟩) hf ?_
  intro Ik2 k2 s1 hk2 hf e he; subst he
  unfold r20_Same_l1 at hf
  cbv
  refine d_b hS hf ?_ ?_
  · intro hf; cbv
    refine d_o hS ?_; cbv
    refine d_idx hS hM hf rfl rfl ?_
    intro x4 hf; cbv
    refine d_idx hS hM hf rfl rfl ?_
    intro x5 hf; cbv
    replace hf := d_lt hf
    refine d_b hS hf ?_ ?_
    · intro hf; cbv
      cases hf; exact hR _ (lp_eq rfl)
    intro hf; cbv
    exact d_x hk2 hf
  intro hf; cbv
  refine d_b hS hf ?_ ?_
  · intro hf; cbv
    replace hf := d_lt hf
    refine d_b hS hf ?_ ?_
    · intro hf; cbv
      refine d_p hS hf (fun _ => c55 hM) ?_
      intro y8 hf; cbv
      refine d_br hS hf rfl ?_ ?_
      · intro hf; cbv
        replace hf := d_lt hf
        refine d_b hS hf ?_ ?_
        · intro hf; cbv
          refine d_b hS hf ?_ ?_
          · intro hf; cbv
            replace hf := d_lt hf
            refine d_b hS hf ?_ ?_
            · intro hf; cbv
              refine d_b hS hf ?_ ?_
              · intro hf; cbv
                refine d_p hS hf (fun _ => c56 hM) ?_
                intro y11 hf; cbv
                refine d_br hS hf rfl ?_ ?_
                · intro hf; cbv
                  replace hf := d_lt hf
                  cases hf; exact hR _ d_l
                intro hf; cbv
                cases hf; exact hR _ (lp_eq rfl)
              intro hf; cbv
              cases hf; exact hR _ (lp_eq rfl)
            intro hf; cbv
            cases hf; exact hR _ (lp_eq rfl)
          intro hf; cbv
          cases hf; exact hR _ (lp_eq rfl)
        intro hf; cbv
        cases hf; exact hR _ (lp_eq rfl)
      intro hf; cbv
      cases hf; exact hR _ (lp_eq rfl)
    intro hf; cbv
    cases hf; exact hR _ (lp_eq rfl)
  intro hf; cbv
  cases hf; exact hR _ (lp_eq rfl)
theorem c7 {M : EncM} (hM : M = mapE) {p : Arr6 Int} {c : GCost} {r : Int} (hf : r39_MostX p c = some r) : Pv.Fn Try.prog glF 7 [.agg [.si .i64 p.a0, .si .i64 p.a1, .si .i64 p.a2, .si .i64 p.a3, .si .i64 p.a4, .si .i64 p.a5], .agg (eGCost M c)] (fun u => u = .si .i64 r) := by
  refine fn_dec (T := (tabc [14])) (tabcOK [14]) rfl wf Try.func7 rfl Try.call7 rfl ?_
  intro S R hS hR
  have q := sf hM hS
  unfold r39_MostX at hf
  cbv
  refine d_p hS hf (fun _ => c11 hM) ?_
  intro y1 hf; cbv
  refine d_b hS hf ?_ ?_
  · intro hf; cbv
    cases hf; exact hR _ (lp_eq rfl)
  intro hf; cbv
  refine d_b hS hf ?_ ?_
  · intro hf; cbv
    cases hf; exact hR _ (lp_eq rfl)
  intro hf; cbv
  refine d_lp hS (tabcOK [14]) wf [] [2, 3, 5, 6] (fun s2 => ⟨tpsL 0 31 [(2, .lv 0 0), (3, .lv 1 0), (5, .si .i64 s2.1), (6, .si .i64 s2.2)], [(0, some (.var false [.si .i64 p.a0, .si .i64 p.a1, .si .i64 p.a2, .si .i64 p.a3, .si .i64 p.a4, .si .i64 p.a5])), (1, some (.var false (eGCost M c)))], 2⟩) hf ?_
  intro Ik3 k3 s2 hk3 hf e he; subst he
  unfold r39_MostX_l1 at hf
  cbv
  refine l_seq hS ?_; cbv
  refine d_b hS hf ?_ ?_
  · intro hf; cbv
    refine d_div hS hf d_e rfl ?_
    intro x5 hf; cbv
    refine d_p hS hf (fun _ => c11 hM) ?_
    intro y6 hf; cbv
    refine d_br hS hf rfl ?_ ?_
    · intro hf; cbv
      exact d_x hk3 hf
    intro hf; cbv
    exact d_x hk3 hf
  intro hf; cbv
  cases hf; exact hR _ (lp_eq rfl)
theorem c49 {M : EncM} (hM : M = mapE) {c : GChoice} {a : List Int} {r : Bool} (hf : ask_distinct c a = some r) : Pv.Fn Try.prog glF 49 [.agg (eGChoice M c), .sl 1 (M.m Int (eI .i64) a) false] (fun u => u = .sb r) := by
  refine fn_dec (T := tab) tabOK rfl wf Try.func49 rfl Try.call49 rfl ?_
  intro S R hS hR
  have q := sf hM hS
  unfold ask_distinct at hf
  cbv
  refine d_lp hS tabOK wf [.tO 5 1] [2, 5, 8, 9, 10] (fun s1 => ⟨tpsL 0 32 [(2, .lv 0 0), (5, .os 1 0 (S.lenN (M.m Int (eI .i64) s1.2))), (8, .sl 1 (M.m Int (eI .i64) a) false), (9, .si .i64 (S.len (M.m Int (eI .i64) a))), (10, .si .i64 s1.1)], [(0, some (.var false (eGChoice M c))), (1, some (.arr false 1 (M.m Int (eI .i64) s1.2)))], 2⟩) hf ?_
  intro Ik2 k2 s1 hk2 hf e he; subst he
  unfold ask_distinct_l1 at hf
  cbv
  refine d_b hS hf ?_ ?_
  · intro hf; cbv
    refine d_idx hS hM hf rfl rfl ?_
    intro x4 hf; cbv
    refine d_idx hS hM hf rfl rfl ?_
    intro x5 hf; cbv
    refine d_callL hS hf (fun _ => c54 hM) d_ll (fun _ => rfl) ?_
    intro y6 hf; cbv
    refine d_br hS hf rfl ?_ ?_
    · intro hf; cbv
      cases hf; exact hR _ (lp_eq rfl)
    intro hf; cbv
    refine d_idx hS hM hf rfl rfl ?_
    intro x7 hf; cbv
    refine d_room hS hf d_e ?_
    intro hf; cbv
    exact d_x hk2 hf
  intro hf; cbv
  cases hf; exact hR _ (lp_eq rfl)
theorem c14 {M : EncM} (hM : M = mapE) {x : Int} {c1 : Arr6 Int} {c2 : GCost} {r : Bool} (hf : cost_MostX_1 x c1 c2 = some r) : Pv.Fn Try.prog glF 14 [.si .i64 x, .pp [.si .i64 c1.a0, .si .i64 c1.a1, .si .i64 c1.a2, .si .i64 c1.a3, .si .i64 c1.a4, .si .i64 c1.a5], .pp (eGCost M c2)] (fun u => u = .sb r) := by
  refine fn_dec (T := tab) tabOK rfl wf Try.func14 rfl Try.call14 rfl ?_
  intro S R hS hR
  have q := sf hM hS
  unfold cost_MostX_1 at hf
  cbv
  refine d_p hS hf (fun _ => c15 hM) ?_
  intro y1 hf; cbv
  cases hf; exact hR _ (lp_eq rfl)
end Go.Proofs.Ytddcpnlflncahaa
namespace Go.Proofs.Ytddcpnlflncahaa
open Go Go.Pv
set_option maxRecDepth 100000
set_option maxHeartbeats 2000000
theorem c36 {M : EncM} (hM : M = mapE) {c : GChoice} {a : List Int} {r : Bool} (hf : ask_Valid c a = some r) : Pv.Fn Try.prog glF 36 [.agg (eGChoice M c), .sl 1 (M.m Int (eI .i64) a) false] (fun u => u = .sb r) := by
  refine fn_dec (T := tab) tabOK rfl wf Try.func36 rfl Try.call36 rfl ?_
  intro S R hS hR
  have q := sf hM hS
  unfold ask_Valid at hf
  cbv
  refine d_b hS hf ?_ ?_
  · intro hf; cbv
    cases hf; exact hR _ (lp_eq rfl)
  intro hf; cbv
  refine d_b hS hf ?_ ?_
  · intro hf; cbv
    refine d_b hS hf ?_ ?_
    · intro hf; cbv
      refine d_p hS hf (fun _ => c48 hM) ?_
      intro y1 hf; cbv
      cases hf; exact hR _ (lp_eq rfl)
    intro hf; cbv
    cases hf; exact hR _ (lp_eq rfl)
  intro hf; cbv
  refine d_b hS hf ?_ ?_
  · intro hf; cbv
    refine d_b hS hf ?_ ?_
    · intro hf; cbv
      refine d_p hS hf (fun _ => c48 hM) ?_
      intro y2 hf; cbv
      cases hf; exact hR _ (lp_eq rfl)
    intro hf; cbv
    cases hf; exact hR _ (lp_eq rfl)
  intro hf; cbv
  refine d_b hS hf ?_ ?_
  · intro hf; cbv
    refine d_b hS hf ?_ ?_
    · intro hf; cbv
      refine d_p hS hf (fun _ => c48 hM) ?_
      intro y3 hf; cbv
      cases hf; exact hR _ (lp_eq rfl)
    intro hf; cbv
    cases hf; exact hR _ (lp_eq rfl)
  intro hf; cbv
  refine d_b hS hf ?_ ?_
  · intro hf; cbv
    refine d_b hS hf ?_ ?_
    · intro hf; cbv
      refine d_p hS hf (fun _ => c48 hM) ?_
      intro y4 hf; cbv
      cases hf; exact hR _ (lp_eq rfl)
    intro hf; cbv
    cases hf; exact hR _ (lp_eq rfl)
  intro hf; cbv
  refine d_b hS hf ?_ ?_
  · intro hf; cbv
    refine d_b hS hf ?_ ?_
    · intro hf; cbv
      refine d_p hS hf (fun _ => c48 hM) ?_
      intro y5 hf; cbv
      cases hf; exact hR _ (lp_eq rfl)
    intro hf; cbv
    cases hf; exact hR _ (lp_eq rfl)
  intro hf; cbv
  refine d_b hS hf ?_ ?_
  · intro hf; cbv
    refine d_b hS hf ?_ ?_
    · intro hf; cbv
      refine d_b hS hf ?_ ?_
      · intro hf; cbv
        refine d_p hS hf (fun _ => c48 hM) ?_
        intro y6 hf; cbv
        cases hf; exact hR _ (lp_eq rfl)
      intro hf; cbv
      cases hf; exact hR _ (lp_eq rfl)
    intro hf; cbv
    cases hf; exact hR _ (lp_eq rfl)
  intro hf; cbv
  refine d_b hS hf ?_ ?_
  · intro hf; cbv
    refine d_b hS hf ?_ ?_
    · intro hf; cbv
      refine d_p hS hf (fun _ => c48 hM) ?_
      intro y7 hf; cbv
      cases hf; exact hR _ (lp_eq rfl)
    intro hf; cbv
    cases hf; exact hR _ (lp_eq rfl)
  intro hf; cbv
  refine d_b hS hf ?_ ?_
  · intro hf; cbv
    refine d_o hS ?_; cbv
    refine d_b hS hf ?_ ?_
    · intro hf; cbv
      refine d_idx hS hM hf rfl rfl ?_
      intro x8 hf; cbv
      refine d_b hS hf ?_ ?_
      · intro hf; cbv
        refine d_idx hS hM hf rfl rfl ?_
        intro x9 hf; cbv
        cases hf; exact hR _ d_l
      intro hf; cbv
      cases hf; exact hR _ (lp_eq rfl)
    intro hf; cbv
    cases hf; exact hR _ (lp_eq rfl)
  intro hf; cbv
  refine d_b hS hf ?_ ?_
  · intro hf; cbv
    refine d_p hS hf (fun _ => c48 hM) ?_
    intro y10 hf; cbv
    refine d_br hS hf rfl ?_ ?_
    · intro hf; cbv
      refine d_p hS hf (fun _ => c49 hM) ?_
      intro y11 hf; cbv
      cases hf; exact hR _ (lp_eq rfl)
    intro hf; cbv
    cases hf; exact hR _ (lp_eq rfl)
  intro hf; cbv
  refine d_b hS hf ?_ ?_
  · intro hf; cbv
    refine d_p hS hf (fun _ => c48 hM) ?_
    intro y12 hf; cbv
    refine d_br hS hf rfl ?_ ?_
    · intro hf; cbv
      refine d_p hS hf (fun _ => c49 hM) ?_
      intro y13 hf; cbv
      cases hf; exact hR _ (lp_eq rfl)
    intro hf; cbv
    cases hf; exact hR _ (lp_eq rfl)
  intro hf; cbv
  refine d_b hS hf ?_ ?_
  · intro hf; cbv
    refine d_p hS hf (fun _ => c50 hM) ?_
    intro y14 hf; cbv
    cases hf; exact hR _ (lp_eq rfl)
  intro hf; cbv
  cases hf; exact hR _ (lp_eq rfl)
theorem c42 {M : EncM} (hM : M = mapE) {a : GItem} {b : GItem} {r : Bool} (hf : r26_SameItem a b = some r) : Pv.Fn Try.prog glF 42 [.agg (eGItem M a), .agg (eGItem M b)] (fun u => u = .sb r) := by
  refine fn_dec (T := tab) tabOK rfl wf Try.func42 rfl Try.call42 rfl ?_
  intro S R hS hR
  have q := sf hM hS
  unfold r26_SameItem at hf
  cbv
  refine d_b hS hf ?_ ?_
  · intro hf; cbv
    cases hf; exact hR _ (lp_eq rfl)
  intro hf; cbv
  refine d_lp hS tabOK wf [] [2, 3, 5] (fun s1 => ⟨tpsL 0 85 [(2, .lv 0 0), (3, .lv 1 0), (5, .si .i64 s1)], [(0, some (.var false (eGItem M a))), (1, some (.var false (eGItem M b)))], 2⟩) hf ?_
  intro Ik2 k2 s1 hk2 hf e he; subst he
  unfold r26_SameItem_l1 at hf
  cbv
  refine d_b hS hf ?_ ?_
  · intro hf; cbv
    refine d_o hS ?_; cbv
    refine d_idx hS hM hf rfl rfl ?_
    intro x4 hf; cbv
    refine d_idx hS hM hf rfl rfl ?_
    intro x5 hf; cbv
    replace hf := d_lt hf
    refine d_b hS hf ?_ ?_
    · intro hf; cbv
      cases hf; exact hR _ (lp_eq rfl)
    intro hf; cbv
    exact d_x hk2 hf
  intro hf; cbv
  refine d_b hS hf ?_ ?_
  · intro hf; cbv
    refine d_b hS hf ?_ ?_
    · intro hf; cbv
      refine d_b hS hf ?_ ?_
      · intro hf; cbv
        refine d_b hS hf ?_ ?_
        · intro hf; cbv
          refine d_b hS hf ?_ ?_
          · intro hf; cbv
            refine d_b hS hf ?_ ?_
            · intro hf; cbv
              refine d_p hS hf (fun _ => c51 hM) ?_
              intro y7 hf; cbv
              refine d_br hS hf rfl ?_ ?_
              · intro hf; cbv
                replace hf := d_lt hf
                cases hf; exact hR _ d_l
              intro hf; cbv
              cases hf; exact hR _ (lp_eq rfl)
            intro hf; cbv
            cases hf; exact hR _ (lp_eq rfl)
          intro hf; cbv
          cases hf; exact hR _ (lp_eq rfl)
        intro hf; cbv
        cases hf; exact hR _ (lp_eq rfl)
      intro hf; cbv
      cases hf; exact hR _ (lp_eq rfl)
    intro hf; cbv
    cases hf; exact hR _ (lp_eq rfl)
  intro hf; cbv
  cases hf; exact hR _ (lp_eq rfl)
theorem c6 {M : EncM} (hM : M = mapE) {p : Arr6 Int} {c : GCost} {r : Int} (hf : cost_MostX p c = some r) : Pv.Fn Try.prog glF 6 [.agg [.si .i64 p.a0, .si .i64 p.a1, .si .i64 p.a2, .si .i64 p.a3, .si .i64 p.a4, .si .i64 p.a5], .agg (eGCost M c)] (fun u => u = .si .i64 r) := by
  refine fn_dec (T := (tabc [14])) (tabcOK [14]) rfl wf Try.func6 rfl Try.call6 rfl ?_
  intro S R hS hR
  have q := sf hM hS
  unfold cost_MostX at hf
  cbv
  refine d_callL hS hf (fun _ => c14 hM) (le_eq rfl) (fun _ => rfl) ?_
  intro y1 hf; cbv
  refine d_b hS hf ?_ ?_
  · intro hf; cbv
    cases hf; exact hR _ (lp_eq rfl)
  intro hf; cbv
  refine d_b hS hf ?_ ?_
  · intro hf; cbv
    cases hf; exact hR _ (lp_eq rfl)
  intro hf; cbv
  refine d_lp hS (tabcOK [14]) wf [] [5, 6, 7] (fun s2 => ⟨tpsL 0 32 [(5, .fn 14 [.lv 0 0, .lv 1 0]), (6, .si .i64 s2.1), (7, .si .i64 s2.2)], [(0, some (.var false [.si .i64 p.a0, .si .i64 p.a1, .si .i64 p.a2, .si .i64 p.a3, .si .i64 p.a4, .si .i64 p.a5])), (1, some (.var false (eGCost M c)))], 2⟩) hf ?_
  intro Ik3 k3 s2 hk3 hf e he; subst he
  unfold cost_MostX_l1 at hf
  cbv
  refine l_seq hS ?_; cbv
  refine d_b hS hf ?_ ?_
  · intro hf; cbv
    refine d_div hS hf d_e rfl ?_
    intro x5 hf; cbv
    refine d_callL hS hf (fun _ => c14 hM) d_ll (fun _ => rfl) ?_
    intro y6 hf; cbv
    refine d_br hS hf rfl ?_ ?_
    · intro hf; cbv
      exact d_x hk3 hf
    intro hf; cbv
    exact d_x hk3 hf
  intro hf; cbv
  cases hf; exact hR _ (lp_eq rfl)
theorem c43 {M : EncM} (hM : M = mapE) {a : GWaiting} {b : GWaiting} {r : Bool} (hf : r26_SameWaiting a b = some r) : Pv.Fn Try.prog glF 43 [.agg (eGWaiting M a), .agg (eGWaiting M b)] (fun u => u = .sb r) := by
  refine fn_dec (T := tab) tabOK rfl wf Try.func43 rfl Try.call43 rfl ?_
  intro S R hS hR
  have q := sf hM hS
  unfold r26_SameWaiting at hf
  cbv
  refine d_b hS hf ?_ ?_
  · intro hf; cbv
    refine d_b hS hf ?_ ?_
    · intro hf; cbv
      refine d_p hS hf (fun _ => c51 hM) ?_
      intro y1 hf; cbv
      refine d_br hS hf rfl ?_ ?_
      · intro hf; cbv
        replace hf := d_lt hf
        cases hf; exact hR _ d_l
      intro hf; cbv
      cases hf; exact hR _ (lp_eq rfl)
    intro hf; cbv
    cases hf; exact hR _ (lp_eq rfl)
  intro hf; cbv
  cases hf; exact hR _ (lp_eq rfl)
end Go.Proofs.Ytddcpnlflncahaa
namespace Go.Proofs.Ytddcpnlflncahaa
open Go Go.Pv
set_option maxRecDepth 100000
set_option maxHeartbeats 2000000
theorem c21 {M : EncM} (hM : M = mapE) {a : GState} {b : GState} {r : Bool} (hf : r26_lists a b = some r) : Pv.Fn Try.prog glF 21 [.agg (eGState M a), .agg (eGState M b)] (fun u => u = .sb r) := by
  refine fn_dec (T := (tabc [2])) (tabcOK [2]) rfl wf Try.func21 rfl Try.call21 rfl ?_
  intro S R hS hR
  have q := sf hM hS
  unfold r26_lists at hf
  cbv
  refine d_cut hS [] [2, 3, 52] (fun s1 => ⟨tpsL 0 147 [(2, .lv 0 0), (3, .lv 1 0), (52, .sb s1)], [(0, some (.var false (eGState M a))), (1, some (.var false (eGState M b)))], 2⟩) hf ?_ ?_
  · intro Ik2 k2 hk2 hf; cbv
    refine d_b hS hf ?_ ?_
    · intro hf; cbv
      exact d_x hk2 hf
    intro hf; cbv
    refine d_b hS hf ?_ ?_
    · intro hf; cbv
      exact d_x hk2 hf
    intro hf; cbv
    refine d_b hS hf ?_ ?_
    · intro hf; cbv
      exact d_x hk2 hf
    intro hf; cbv
    refine d_b hS hf ?_ ?_
    · intro hf; cbv
      exact d_x hk2 hf
    intro hf; cbv
    exact d_x hk2 hf
  intro s1 hf; cbv
  refine d_br hS hf rfl ?_ ?_
  · intro hf; cbv
    cases hf; exact hR _ (lp_eq rfl)
  intro hf; cbv
  refine d_lp hS (tabcOK [2]) wf [] [2, 3, 5] (fun s4 => ⟨tpsL 0 147 [(2, .lv 0 0), (3, .lv 1 0), (5, .si .i64 s4)], [(0, some (.var false (eGState M a))), (1, some (.var false (eGState M b)))], 2⟩) hf ?_
  intro Ik5 k5 s4 hk5 hf e he; subst he
  unfold r26_lists_l5 at hf
  cbv
  refine d_b hS hf ?_ ?_
  · intro hf; cbv
    refine d_o hS ?_; cbv
    refine d_idx hS hM hf rfl rfl ?_
    intro x7 hf; cbv
    refine d_idx hS hM hf rfl rfl ?_
    intro x8 hf; cbv
    refine d_c hS hf (fun _ => c41 hM) ?_
    intro y9 hf; cbv
    refine d_b hS hf ?_ ?_
    · intro hf; cbv
      cases hf; exact hR _ (lp_eq rfl)
    intro hf; cbv
    exact d_x hk5 hf
  intro hf; cbv
  refine d_lp hS (tabcOK [2]) wf [] [2, 3, 6] (fun s10 => ⟨tpsL 0 147 [(2, .lv 0 0), (3, .lv 1 0), (6, .si .i64 s10)], [(0, some (.var false (eGState M a))), (1, some (.var false (eGState M b)))], 2⟩) hf ?_
  intro Ik11 k11 s10 hk11 hf e he; subst he
  unfold r26_lists_l4 at hf
  cbv
  refine d_b hS hf ?_ ?_
  · intro hf; cbv
    refine d_o hS ?_; cbv
    refine d_idx hS hM hf rfl rfl ?_
    intro x13 hf; cbv
    refine d_idx hS hM hf rfl rfl ?_
    intro x14 hf; cbv
    replace hf := d_lt hf
    refine d_b hS hf ?_ ?_
    · intro hf; cbv
      cases hf; exact hR _ (lp_eq rfl)
    intro hf; cbv
    exact d_x hk11 hf
  intro hf; cbv
  refine d_lp hS (tabcOK [2]) wf [] [2, 3, 7] (fun s16 => ⟨tpsL 0 147 [(2, .lv 0 0), (3, .lv 1 0), (7, .si .i64 s16)], [(0, some (.var false (eGState M a))), (1, some (.var false (eGState M b)))], 2⟩) hf ?_
  intro Ik17 k17 s16 hk17 hf e he; subst he
  unfold r26_lists_l3 at hf
  cbv
  refine d_b hS hf ?_ ?_
  · intro hf; cbv
    refine d_o hS ?_; cbv
    refine d_idx hS hM hf rfl rfl ?_
    intro x19 hf; cbv
    refine d_idx hS hM hf rfl rfl ?_
    intro x20 hf; cbv
    refine d_c hS hf (fun _ => c42 hM) ?_
    intro y21 hf; cbv
    refine d_b hS hf ?_ ?_
    · intro hf; cbv
      cases hf; exact hR _ (lp_eq rfl)
    intro hf; cbv
    exact d_x hk17 hf
  intro hf; cbv
  refine d_lp hS (tabcOK [2]) wf [] [2, 3, 8] (fun s22 => ⟨tpsL 0 147 [(2, .lv 0 0), (3, .lv 1 0), (8, .si .i64 s22)], [(0, some (.var false (eGState M a))), (1, some (.var false (eGState M b)))], 2⟩) hf ?_
  intro Ik23 k23 s22 hk23 hf e he; subst he
  unfold r26_lists_l2 at hf
  cbv
  refine d_b hS hf ?_ ?_
  · intro hf; cbv
    refine d_o hS ?_; cbv
    refine d_idx hS hM hf rfl rfl ?_
    intro x25 hf; cbv
    refine d_idx hS hM hf rfl rfl ?_
    intro x26 hf; cbv
    refine d_c hS hf (fun _ => c43 hM) ?_
    intro y27 hf; cbv
    refine d_b hS hf ?_ ?_
    · intro hf; cbv
      cases hf; exact hR _ (lp_eq rfl)
    intro hf; cbv
    exact d_x hk23 hf
  intro hf; cbv
  refine d_lp hS (tabcOK [2]) wf [] [2, 3, 9] (fun s28 => ⟨tpsL 0 147 [(2, .lv 0 0), (3, .lv 1 0), (9, .si .i64 s28)], [(0, some (.var false (eGState M a))), (1, some (.var false (eGState M b)))], 2⟩) hf ?_
  intro Ik29 k29 s28 hk29 hf e he; subst he
  unfold r26_lists_l1 at hf
  cbv
  refine d_b hS hf ?_ ?_
  · intro hf; cbv
    refine d_o hS ?_; cbv
    refine d_idx hS hM hf rfl rfl ?_
    intro x31 hf; cbv
    refine d_idx hS hM hf rfl rfl ?_
    intro x32 hf; cbv
    refine d_c hS hf (fun _ => c44 hM) ?_
    intro y33 hf; cbv
    refine d_b hS hf ?_ ?_
    · intro hf; cbv
      cases hf; exact hR _ (lp_eq rfl)
    intro hf; cbv
    exact d_x hk29 hf
  intro hf; cbv
  cases hf; exact hR _ (lp_eq rfl)
theorem s17 {M : EncM} (hM : M = mapE) {k : GAskAsker} {c : GChoice} {r : (List Int) × GAskAsker} (hf : ask_Asker_Pick k c = some r) : Pv.FnS Try.prog glF 17 [.lv 0 0, .agg (eGChoice M c)] [(0, some (.var false (eGAskAsker M k)))] 1 (fun u s n => u = .sl 1 (M.m Int (eI .i64) r.1) false ∧ s = [(0, some (.var false (eGAskAsker M r.2)))] ∧ n = 1) := by
  refine fnS_dec (T := (tabx 1 [2] [])) (tabxOK 1 [2] []) wf Try.func17 rfl Try.call17 rfl ?_
  intro S R hS hR
  have q := sf hM hS
  unfold ask_Asker_Pick at hf
  cbv
  refine d_cut hS [] [0, 3, 23] (fun s1 => ⟨tpsL 0 77 [(0, .lv 0 0), (3, .lv 1 0), (23, .sb s1)], [(0, some (.var false (eGAskAsker M k))), (1, some (.var false (eGChoice M c)))], 2⟩) hf ?_ ?_
  · intro Ik2 k2 hk2 hf; cbv
    refine d_br hS hf rfl ?_ ?_
    · intro hf; cbv
      exact d_x hk2 hf
    intro hf; cbv
    refine d_br hS hf rfl ?_ ?_
    · intro hf; cbv
      exact d_x hk2 hf
    intro hf; cbv
    refine d_p hS hf (fun _ => c33 hM) ?_
    intro y4 hf; cbv
    exact d_x hk2 hf
  intro s1 hf; cbv
  refine d_br hS hf rfl ?_ ?_
  · intro hf; cbv
    refine d_p hS hf (fun _ => c34 hM) ?_
    intro y5 hf; cbv
    cases hf; exact hR _ _ _ d_st d_st rfl
  intro hf; cbv
  refine d_o hS ?_; cbv
  refine d_b hS hf ?_ ?_
  · intro hf; cbv
    refine d_p hS hf (fun _ => c35 hM) ?_
    intro y6 hf; cbv
    refine d_p hS hf (fun _ => c34 hM) ?_
    intro y7 hf; cbv
    cases hf; exact hR _ _ _ d_st d_st rfl
  intro hf; cbv
  refine d_o hS ?_; cbv
  refine d_idx hS hM hf rfl rfl ?_
  intro x8 hf; cbv
  refine d_p hS hf (fun _ => c36 hM) ?_
  intro y9 hf; cbv
  refine d_b hS hf ?_ ?_
  · intro hf; cbv
    refine d_p hS hf (fun _ => c34 hM) ?_
    intro y10 hf; cbv
    cases hf; exact hR _ _ _ d_st d_st rfl
  intro hf; cbv
  refine d_p hS hf (fun _ => c19 hM) ?_
  intro y11 hf; cbv
  cases hf; exact hR _ _ _ d_st d_st rfl
end Go.Proofs.Ytddcpnlflncahaa
namespace Go.Proofs.Ytddcpnlflncahaa
open Go Go.Pv
set_option maxRecDepth 100000
set_option maxHeartbeats 2000000
theorem s9 {M : EncM} (hM : M = mapE) {k : GAskAsker} {s : GState} {p : Int} {source : Int} {c : GCost} {r : GState × Int × Bool × GAskAsker} (hf : cost_Mana k s p source c = some r) : Pv.FnS Try.prog glF 9 [.lv 0 0, .agg (eGState M s), .si .i64 p, .si .i64 source, .agg (eGCost M c)] [(0, some (.var false (eGAskAsker M k)))] 1 (fun u s n => u = .tup [.agg [.os 1 0 (M.n GPlayer r.1.players), .os 2 0 (M.n GObject r.1.objects), .os 3 0 (M.n Int r.1.battlefield), .os 4 0 (M.n Int r.1.exile), .os 5 0 (M.n GItem r.1.stack), .os 6 0 (M.n GWaiting r.1.waiting), .os 7 0 (M.n GCont r.1.conts), .si .i64 r.1.turn, .si .i64 r.1.active, .si .i64 r.1.step, .sb r.1.begun, .si .i64 r.1.priority, .si .i64 r.1.passes, .si .i64 r.1.nextId, .si .i64 r.1.nextStamp, .si .u64 r.1.seed, .os 8 0 (M.n Int r.1.extra), .si .i64 r.1.over, .si .i64 r.1.winner], .si .i64 r.2.1, .sb r.2.2.1] ∧ s = [(0, some (.var false (eGAskAsker M r.2.2.2))), (1, some (.arr false 14 (M.m GPlayer (eGPlayer M) r.1.players))), (2, some (.arr false 19 (M.m GObject (eGObject M) r.1.objects))), (3, some (.arr false 1 (M.m Int (eI .i64) r.1.battlefield))), (4, some (.arr false 1 (M.m Int (eI .i64) r.1.exile))), (5, some (.arr false 94 (M.m GItem (eGItem M) r.1.stack))), (6, some (.arr false 89 (M.m GWaiting (eGWaiting M) r.1.waiting))), (7, some (.arr false 6 (M.m GCont (eGCont M) r.1.conts))), (8, some (.arr false 1 (M.m Int (eI .i64) r.1.extra)))] ∧ n = 9) := by
  refine fnS_dec (T := (tabx 1 [2, 19] [[(14, true), (19, true), (1, true), (1, true), (94, true), (89, true), (6, true), (0, false), (0, false), (0, false), (0, false), (0, false), (0, false), (0, false), (0, false), (0, false), (1, true), (0, false), (0, false)], [(0, false)], [(0, false)]])) (tabxOK 1 [2, 19] [[(14, true), (19, true), (1, true), (1, true), (94, true), (89, true), (6, true), (0, false), (0, false), (0, false), (0, false), (0, false), (0, false), (0, false), (0, false), (0, false), (1, true), (0, false), (0, false)], [(0, false)], [(0, false)]]) wf Try.func9 rfl Try.call9 rfl ?_
  intro S R hS hR
  have q := sf hM hS
  unfold cost_Mana at hf
  cbv
  refine d_cut hS [] [0, 2, 3, 6, 9, 10, 25] (fun s1 => ⟨tpsL 0 73 [(0, .lv 0 0), (2, .si .i64 p), (3, .si .i64 source), (6, .lv 1 0), (9, .lv 2 0), (10, .lv 3 0), (25, .sb s1)], [(0, some (.var false (eGAskAsker M k))), (1, some (.var false (eGState M s))), (2, some (.var false (eGCost M c))), (3, some (.var false [.sl 0 [] true, .sl 0 [] true, .sl 0 [] true, .sl 0 [] true, .sl 0 [] true, .sl 0 [] true, .sl 0 [] true, .si .i64 0, .si .i64 0, .si .i64 0, .sb false, .si .i64 0, .si .i64 0, .si .i64 0, .si .i64 0, .si .u64 0, .sl 0 [] true, .si .i64 0, .si .i64 0]))], 4⟩) hf ?_ ?_
  · intro Ik2 k2 hk2 hf; cbv
    refine d_b hS hf ?_ ?_
    · intro hf; cbv
      exact d_x hk2 hf
    intro hf; cbv
    exact d_x hk2 hf
  intro s1 hf; cbv
  refine d_br hS hf rfl ?_ ?_
  · intro hf; cbv
    refine d_callo hS hf (fun _ => o16 hM) (le_eq rfl) ?_
    intro y4 hf; cbv
    cases hf; exact hR _ _ _ d_st d_st rfl
  intro hf; cbv
  refine d_o hS ?_; cbv
  refine d_idx hS hM hf rfl rfl ?_
  intro x5 hf; cbv
  refine d_c hS hf (fun _ => c6 hM) ?_
  intro y6 hf; cbv
  refine d_b hS hf ?_ ?_
  · intro hf; cbv
    refine d_callo hS hf (fun _ => o16 hM) (le_eq rfl) ?_
    intro y7 hf; cbv
    cases hf; exact hR _ _ _ d_st d_st rfl
  intro hf; cbv
  refine d_cut hS [] [2, 6, 9, 10, 14] (fun s8 => ⟨tpsL 0 73 [(2, .si .i64 p), (6, .lv 1 0), (9, .lv 2 0), (10, .lv 3 0), (14, .si .i64 s8.2)], [(0, some (.var false (eGAskAsker M s8.1))), (1, some (.var false (eGState M s))), (2, some (.var false (eGCost M c))), (3, some (.var false [.sl 0 [] true, .sl 0 [] true, .sl 0 [] true, .sl 0 [] true, .sl 0 [] true, .sl 0 [] true, .sl 0 [] true, .si .i64 0, .si .i64 0, .si .i64 0, .sb false, .si .i64 0, .si .i64 0, .si .i64 0, .si .i64 0, .si .u64 0, .sl 0 [] true, .si .i64 0, .si .i64 0]))], 4⟩) hf ?_ ?_
  · intro Ik9 k9 hk9 hf; cbv
    refine d_b hS hf ?_ ?_
    · intro hf; cbv
      refine d_callS hS hf (fun _ => s17 hM) d_st d_st rfl rfl rfl rfl ?_
      intro y11 hf; cbv
      refine d_idx hS hM hf rfl rfl ?_
      intro x12 hf; cbv
      exact d_x hk9 hf
    intro hf; cbv
    exact d_x hk9 hf
  intro s8 hf; cbv
  refine d_o hS ?_; cbv
  refine d_idx hS hM hf rfl rfl ?_
  intro x13 hf; cbv
  refine d_c hS hf (fun _ => c18 hM) ?_
  intro y14 hf; cbv
  refine d_callo hS hf (fun _ => o16 hM) (le_eq rfl) ?_
  intro y15 hf; cbv
  refine d_ix hS hf d_e rfl ?_
  intro j16 _ hf; cbv
  refine d_row hS hM hf rfl d_e ?_
  intro x17 hf; cbv
  cases hf; exact hR _ _ _ d_st d_st rfl
theorem c12 {M : EncM} (hM : M = mapE) {a : GState} {b : GState} {r : Bool} (hf : r26_Same a b = some r) : Pv.Fn Try.prog glF 12 [.agg (eGState M a), .agg (eGState M b)] (fun u => u = .sb r) := by
  refine fn_dec (T := (tabc [2])) (tabcOK [2]) rfl wf Try.func12 rfl Try.call12 rfl ?_
  intro S R hS hR
  have q := sf hM hS
  unfold r26_Same at hf
  cbv
  refine d_cut hS [] [2, 3, 79] (fun s1 => ⟨tpsL 0 104 [(2, .lv 0 0), (3, .lv 1 0), (79, .sb s1)], [(0, some (.var false (eGState M a))), (1, some (.var false (eGState M b)))], 2⟩) hf ?_ ?_
  · intro Ik2 k2 hk2 hf; cbv
    refine d_b hS hf ?_ ?_
    · intro hf; cbv
      exact d_x hk2 hf
    intro hf; cbv
    refine d_b hS hf ?_ ?_
    · intro hf; cbv
      exact d_x hk2 hf
    intro hf; cbv
    refine d_b hS hf ?_ ?_
    · intro hf; cbv
      exact d_x hk2 hf
    intro hf; cbv
    refine d_b hS hf ?_ ?_
    · intro hf; cbv
      exact d_x hk2 hf
    intro hf; cbv
    refine d_b hS hf ?_ ?_
    · intro hf; cbv
      exact d_x hk2 hf
    intro hf; cbv
    refine d_b hS hf ?_ ?_
    · intro hf; cbv
      exact d_x hk2 hf
    intro hf; cbv
    refine d_b hS hf ?_ ?_
    · intro hf; cbv
      exact d_x hk2 hf
    intro hf; cbv
    refine d_b hS hf ?_ ?_
    · intro hf; cbv
      exact d_x hk2 hf
    intro hf; cbv
    refine d_b hS hf ?_ ?_
    · intro hf; cbv
      exact d_x hk2 hf
    intro hf; cbv
    refine d_b hS hf ?_ ?_
    · intro hf; cbv
      exact d_x hk2 hf
    intro hf; cbv
    exact d_x hk2 hf
  intro s1 hf; cbv
  refine d_br hS hf rfl ?_ ?_
  · intro hf; cbv
    cases hf; exact hR _ (lp_eq rfl)
  intro hf; cbv
  refine d_p hS hf (fun _ => c21 hM) ?_
  intro y4 hf; cbv
  refine d_br hS hf rfl ?_ ?_
  · intro hf; cbv
    refine d_p hS hf (fun _ => c22 hM) ?_
    intro y5 hf; cbv
    refine d_br hS hf rfl ?_ ?_
    · intro hf; cbv
      refine d_p hS hf (fun _ => c22 hM) ?_
      intro y6 hf; cbv
      refine d_br hS hf rfl ?_ ?_
      · intro hf; cbv
        refine d_p hS hf (fun _ => c22 hM) ?_
        intro y7 hf; cbv
        cases hf; exact hR _ (lp_eq rfl)
      intro hf; cbv
      cases hf; exact hR _ (lp_eq rfl)
    intro hf; cbv
    cases hf; exact hR _ (lp_eq rfl)
  intro hf; cbv
  cases hf; exact hR _ (lp_eq rfl)
end Go.Proofs.Ytddcpnlflncahaa
