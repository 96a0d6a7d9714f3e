import Derived.Test.YtchmoabpofnbaaaGreatC88
set_option linter.all false
namespace Go.Proofs.YtchmoabpofnbaaaGreat
open Go Go.Pv Proofs.Tryz
set_option maxRecDepth 100000
set_option maxHeartbeats 20000000
variable [GM]
attribute [local irreducible] bnd br jn qE gK jv lJ jl rD uo divO kT jL kN kP lI lS lM
variable {M:iG}[HM M]
theorem len95 {x : List Int} : OkP (fun r => r.length = x.length) (slices_Sort_int x) := by
  intro r e
  obtain ⟨_, rfl⟩ := adx e
  exact (OI x).length_eq
theorem z33_0 {M : iG} (hM : M = kX) {k : iH} {cards : List iZ} {s : gB} {r : gB × Bool × iH} (O : Ih k cards s = some r) : Pv.FnS Tryz.prog glF 33 [.lv 0 0, oh M cards, .agg (iF M s)] [(0, (vR ([.os 1 0 (M.n (List Int) k.answers), sI k.used] ++ (lN M k.pending ++ [.sb k.waits, .sb k.bad])))), (1, (aR 1 (M.m (List Int) (eL M 1 (eI .i64)) k.answers)))] 2 (fun uu ss nn => uu = .DJ [.agg (iF M r.1), .sb r.2.1] ∧ ss = [(0, (vR ([.os 1 0 (M.n (List Int) r.2.2.answers), sI r.2.2.used] ++ (lN M r.2.2.pending ++ [.sb r.2.2.waits, .sb r.2.2.bad])))), (1, (aR 1 (M.m (List Int) (eL M 1 (eI .i64)) r.2.2.answers)))] ∧ nn = 2) := by
  haveI : HM M := ⟨hM⟩
  refine yS (T := (GY 2 [31, 45] [])) (iV 2 [31, 45] []) wf Tryz.func33 rfl Tryz.call33 rfl [] ?_
  intro S R hS hR
  have q := sf hM hS
  unfold Ih at O
  cbv
  refine zn hS O (cI hM) ?_
  intro y1 O; cbv
  refine zn hS O (cI hM) ?_
  intro y2 O; cbv
  refine jT hS O (cZ hM) ji ji rfl rfl rfl rfl ?_
  intro y3 O; cbv
  refine wG hS O (cZ hM) (by (try simp only [q]); repeat' constructor) (by (try simp only [q]); repeat' constructor) rfl rfl rfl rfl ?_
  intro y4 he O; have q := And.intro q (pY len95 he).symm; cbv
  refine d_L (iV 2 [31, 45] []) [.tR 33, .tO 11 3] [0, 1, 5, 6, 8, 9, 11, 33, 34, 35] (fun s5 => f4 100 [.lv 0 0, oh M cards, .lv 2 0, .lv 3 0, lq M y1, pF M y2, .os 4 0 (S.gZ (ry M s5.2.1)), .os 5 0 (S.gZ (mI M s5.2.2)), sI (S.yO (M.n Int y3.1)), sI s5.1] [vR ([.os 1 0 (S.gZ (M.m (List Int) (eL M 1 (eI .i64)) y3.2.answers)), sI y3.2.used] ++ (lN M y3.2.pending ++ [.sb y3.2.waits, .sb y3.2.bad])), aR 1 (M.m (List Int) (eL M 1 (eI .i64)) y3.2.answers), vR (iF M s), vR [.sl 0 [] true, .sl 0 [] true, .sl 0 [] true, .sl 0 [] true, .sl 0 [] true, .sl 0 [] true, .sl 0 [] true, sI 0, sI 0, sI 0, .sb false, sI 0, sI 0, sI 0, sI 0, .si .u64 0, .sl 0 [] true, sI 0, sI 0], aR 3 (ry M s5.2.1), aR 1 (mI M s5.2.2)]) O ?_
  intro Ik6 k6 s5 hk6 O e he; subst he
  unfold L9 at O
  cbv
  refine nZ ?_ ?_
  · intro O; cbv
    refine mG hS O lC rfl ?_
    intro j8 _ O; cbv
    refine jW hS hM O rfl lC ?_
    intro x9 O; cbv
    refine d_I ?_
    intro x10 O; cbv
    refine tH hS O lC ?_
    exact vF
  intro O; cbv
  refine DR [.tF 11] [0, 1, 5, 6, 8, 11] (fun s11 => f4 100 [.lv 0 0, oh M cards, .lv 2 0, .lv 3 0, lq M y1, pF M s11] [vR ([.os 1 0 (S.gZ (M.m (List Int) (eL M 1 (eI .i64)) y3.2.answers)), sI y3.2.used] ++ (lN M y3.2.pending ++ [.sb y3.2.waits, .sb y3.2.bad])), aR 1 (M.m (List Int) (eL M 1 (eI .i64)) y3.2.answers), vR (iF M s), vR [.sl 0 [] true, .sl 0 [] true, .sl 0 [] true, .sl 0 [] true, .sl 0 [] true, .sl 0 [] true, .sl 0 [] true, sI 0, sI 0, sI 0, .sb false, sI 0, sI 0, sI 0, sI 0, .si .u64 0, .sl 0 [] true, sI 0, sI 0]]) O ?_ ?_
  · intro Ik12 k12 hk12 O; cbv
    refine JK hS O (cI hM) Lr (fun _ => rfl) ?_
    intro y14 O; cbv
    refine nZ ?_ ?_
    · intro O; cbv
      refine nZ ?_ ?_
      · intro O; cbv
        refine zn hS O (cI hM) ?_
        intro y15 O; cbv
        cases O; exact hR _ _ _ ji ji rfl
      intro O; cbv
      refine zn hS O (cI hM) ?_
      exact xZ
    exact vF
  intro s11 O; cbv
  refine zn hS O (cI hM) ?_
  intro y17 O; cbv
  refine d_L (iV 2 [31, 45] []) [] [0, 1, 5, 6, 8, 11, 14, 63, 64, 65] (fun s18 => f4 100 [.lv 0 0, oh M cards, .lv 2 0, .lv 3 0, lq M y1, pF M s11, .lv 4 0, pF M s11, sI (S.len (ry M s11)), sI s18.2] [vR ([.os 1 0 (S.gZ (M.m (List Int) (eL M 1 (eI .i64)) y3.2.answers)), sI y3.2.used] ++ (lN M y3.2.pending ++ [.sb y3.2.waits, .sb y3.2.bad])), aR 1 (M.m (List Int) (eL M 1 (eI .i64)) y3.2.answers), vR (iF M s18.1), vR [.sl 0 [] true, .sl 0 [] true, .sl 0 [] true, .sl 0 [] true, .sl 0 [] true, .sl 0 [] true, .sl 0 [] true, sI 0, sI 0, sI 0, .sb false, sI 0, sI 0, sI 0, sI 0, .si .u64 0, .sl 0 [] true, sI 0, sI 0], vR (iF M s)]) O ?_
  intro Ik19 k19 s18 hk19 O e he; subst he
  unfold L8 at O
  cbv
  refine nZ ?_ ?_
  · intro O; cbv
    refine DR [] [0, 1, 5, 6, 8, 11, 14, 63, 64, 65] (fun s21 => f4 100 [.lv 0 0, oh M cards, .lv 2 0, .lv 3 0, lq M y1, pF M s11, .lv 4 0, pF M s11, sI (S.len (ry M s11)), sI s18.2] [vR ([.os 1 0 (S.gZ (M.m (List Int) (eL M 1 (eI .i64)) y3.2.answers)), sI y3.2.used] ++ (lN M y3.2.pending ++ [.sb y3.2.waits, .sb y3.2.bad])), aR 1 (M.m (List Int) (eL M 1 (eI .i64)) y3.2.answers), vR (iF M s21), vR [.sl 0 [] true, .sl 0 [] true, .sl 0 [] true, .sl 0 [] true, .sl 0 [] true, .sl 0 [] true, .sl 0 [] true, sI 0, sI 0, sI 0, .sb false, sI 0, sI 0, sI 0, sI 0, .si .u64 0, .sl 0 [] true, sI 0, sI 0], vR (iF M s)]) O ?_ ?_
    · intro Ik22 k22 hk22 O; cbv
      refine d_I ?_
      intro x24 O; cbv
      refine zn hS O (cI hM) ?_
      intro y25 O; cbv
      refine nZ ?_ ?_
      · intro O; cbv
        refine jT hS O (cZ hM) ji ji rfl rfl rfl rfl ?_
        exact xZ
      exact vF
    intro s21 O; cbv
    exact vw
  intro O; cbv
  refine d_L (iV 2 [31, 45] []) [] [0, 1, 5, 6, 83, 84, 85] (fun s27 => f4 100 [.lv 0 0, oh M cards, .lv 2 0, .lv 3 0, pF M s11, sI (S.len (ry M s11)), sI s27.2] [vR ([.os 1 0 (S.gZ (M.m (List Int) (eL M 1 (eI .i64)) y3.2.answers)), sI y3.2.used] ++ (lN M y3.2.pending ++ [.sb y3.2.waits, .sb y3.2.bad])), aR 1 (M.m (List Int) (eL M 1 (eI .i64)) y3.2.answers), vR (iF M s27.1), vR [.sl 0 [] true, .sl 0 [] true, .sl 0 [] true, .sl 0 [] true, .sl 0 [] true, .sl 0 [] true, .sl 0 [] true, sI 0, sI 0, sI 0, .sb false, sI 0, sI 0, sI 0, sI 0, .si .u64 0, .sl 0 [] true, sI 0, sI 0]]) O ?_
  intro Ik28 k28 s27 hk28 O e he; subst he
  unfold L6 at O
  cbv
  refine nZ ?_ ?_
  · intro O; cbv
    refine d_I ?_
    intro x30 O; cbv
    refine jT hS O (cZ hM) ji ji rfl rfl rfl rfl ?_
    exact xZ
  intro O; cbv
  cases O; exact hR _ _ _ ji ji rfl
instance iz33_0 {k} {cards} {s} : CZ M 33 (Ih k cards s) [.lv 0 0, oh M cards, .agg (iF M s)] [(0, (vR ([.os 1 0 (M.n (List Int) k.answers), sI k.used] ++ (lN M k.pending ++ [.sb k.waits, .sb k.bad])))), (1, (aR 1 (M.m (List Int) (eL M 1 (eI .i64)) k.answers)))] 2 (fun r => .DJ [.agg (iF M r.1), .sb r.2.1]) (fun r => [(0, (vR ([.os 1 0 (M.n (List Int) r.2.2.answers), sI r.2.2.used] ++ (lN M r.2.2.pending ++ [.sb r.2.2.waits, .sb r.2.2.bad])))), (1, (aR 1 (M.m (List Int) (eL M 1 (eI .i64)) r.2.2.answers)))]) 2 := ⟨fun _ h => z33_0 HM.h h⟩
theorem s33 {M : iG} (hM : M = kX) {k : iH} {cards : List iZ} {s : gB} {r : gB × Bool × iH} (O : xM k cards s = some r) : Pv.FnS Tryz.prog glF 33 [.lv 0 0, oh M cards, .agg (iF M s)] [(0, (vR (lV M k)))] 1 (fun uu ss nn => uu = .DJ [.agg (iF M r.1), .sb r.2.1] ∧ ss = [(0, (vR (lV M r.2.2)))] ∧ nn = 1) := by
  haveI : HM M := ⟨hM⟩
  refine AQ (T := (GY 1 [31, 45] [])) (iV 1 [31, 45] []) wf Tryz.func33 rfl Tryz.call33 rfl ?_
  intro S R hS hR
  have q := sf hM hS
  unfold xM at O
  cbv
  refine zn hS O (cI hM) ?_
  intro y1 O; cbv
  refine zn hS O (cI hM) ?_
  intro y2 O; cbv
  refine jT hS O (cZ hM) ji ji rfl rfl rfl rfl ?_
  intro y3 O; cbv
  refine wG hS O (cZ hM) (by (try simp only [q]); repeat' constructor) (by (try simp only [q]); repeat' constructor) rfl rfl rfl rfl ?_
  intro y4 he O; have q := And.intro q (pY len95 he).symm; cbv
  refine d_L (iV 1 [31, 45] []) [.tR 33, .tO 11 3] [0, 1, 5, 6, 8, 9, 11, 33, 34, 35] (fun s5 => f4 100 [.lv 0 0, oh M cards, .lv 1 0, .lv 2 0, lq M y1, pF M y2, .os 3 0 (S.gZ (ry M s5.2.1)), .os 4 0 (S.gZ (mI M s5.2.2)), sI (S.yO (M.n Int y3.1)), sI s5.1] [vR (lV M y3.2), vR (iF M s), vR [.sl 0 [] true, .sl 0 [] true, .sl 0 [] true, .sl 0 [] true, .sl 0 [] true, .sl 0 [] true, .sl 0 [] true, sI 0, sI 0, sI 0, .sb false, sI 0, sI 0, sI 0, sI 0, .si .u64 0, .sl 0 [] true, sI 0, sI 0], aR 3 (ry M s5.2.1), aR 1 (mI M s5.2.2)]) O ?_
  intro Ik6 k6 s5 hk6 O e he; subst he
  unfold BI at O
  cbv
  refine nZ ?_ ?_
  · intro O; cbv
    refine mG hS O lC rfl ?_
    intro j8 _ O; cbv
    refine jW hS hM O rfl lC ?_
    intro x9 O; cbv
    refine d_I ?_
    intro x10 O; cbv
    refine tH hS O lC ?_
    exact vF
  intro O; cbv
  refine DR [.tF 11] [0, 1, 5, 6, 8, 11] (fun s11 => f4 100 [.lv 0 0, oh M cards, .lv 1 0, .lv 2 0, lq M y1, pF M s11] [vR (lV M y3.2), vR (iF M s), vR [.sl 0 [] true, .sl 0 [] true, .sl 0 [] true, .sl 0 [] true, .sl 0 [] true, .sl 0 [] true, .sl 0 [] true, sI 0, sI 0, sI 0, .sb false, sI 0, sI 0, sI 0, sI 0, .si .u64 0, .sl 0 [] true, sI 0, sI 0]]) O ?_ ?_
  · intro Ik12 k12 hk12 O; cbv
    refine JK hS O (cI hM) Lr (fun _ => rfl) ?_
    intro y14 O; cbv
    refine nZ ?_ ?_
    · intro O; cbv
      refine nZ ?_ ?_
      · intro O; cbv
        refine zn hS O (cI hM) ?_
        intro y15 O; cbv
        cases O; exact hR _ _ _ ji ji rfl
      intro O; cbv
      refine zn hS O (cI hM) ?_
      exact xZ
    exact vF
  intro s11 O; cbv
  refine zn hS O (cI hM) ?_
  intro y17 O; cbv
  refine d_L (iV 1 [31, 45] []) [] [0, 1, 5, 6, 8, 11, 14, 63, 64, 65] (fun s18 => f4 100 [.lv 0 0, oh M cards, .lv 1 0, .lv 2 0, lq M y1, pF M s11, .lv 3 0, pF M s11, sI (S.len (ry M s11)), sI s18.2.2] [vR (lV M s18.1), vR (iF M s18.2.1), vR [.sl 0 [] true, .sl 0 [] true, .sl 0 [] true, .sl 0 [] true, .sl 0 [] true, .sl 0 [] true, .sl 0 [] true, sI 0, sI 0, sI 0, .sb false, sI 0, sI 0, sI 0, sI 0, .si .u64 0, .sl 0 [] true, sI 0, sI 0], vR (iF M s)]) O ?_
  intro Ik19 k19 s18 hk19 O e he; subst he
  unfold Ik at O
  cbv
  refine nZ ?_ ?_
  · intro O; cbv
    refine DR [] [0, 1, 5, 6, 8, 11, 14, 63, 64, 65] (fun s21 => f4 100 [.lv 0 0, oh M cards, .lv 1 0, .lv 2 0, lq M y1, pF M s11, .lv 3 0, pF M s11, sI (S.len (ry M s11)), sI s18.2.2] [vR (lV M s21.1), vR (iF M s21.2), vR [.sl 0 [] true, .sl 0 [] true, .sl 0 [] true, .sl 0 [] true, .sl 0 [] true, .sl 0 [] true, .sl 0 [] true, sI 0, sI 0, sI 0, .sb false, sI 0, sI 0, sI 0, sI 0, .si .u64 0, .sl 0 [] true, sI 0, sI 0], vR (iF M s)]) O ?_ ?_
    · intro Ik22 k22 hk22 O; cbv
      refine d_I ?_
      intro x24 O; cbv
      refine zn hS O (cI hM) ?_
      intro y25 O; cbv
      refine nZ ?_ ?_
      · intro O; cbv
        refine jT hS O (cZ hM) ji ji rfl rfl rfl rfl ?_
        exact xZ
      exact vF
    intro s21 O; cbv
    exact vw
  intro O; cbv
  refine d_L (iV 1 [31, 45] []) [] [0, 1, 5, 6, 83, 84, 85] (fun s27 => f4 100 [.lv 0 0, oh M cards, .lv 1 0, .lv 2 0, pF M s11, sI (S.len (ry M s11)), sI s27.2.2] [vR (lV M s27.1), vR (iF M s27.2.1), vR [.sl 0 [] true, .sl 0 [] true, .sl 0 [] true, .sl 0 [] true, .sl 0 [] true, .sl 0 [] true, .sl 0 [] true, sI 0, sI 0, sI 0, .sb false, sI 0, sI 0, sI 0, sI 0, .si .u64 0, .sl 0 [] true, sI 0, sI 0]]) O ?_
  intro Ik28 k28 s27 hk28 O e he; subst he
  unfold Ij at O
  cbv
  refine nZ ?_ ?_
  · intro O; cbv
    refine d_I ?_
    intro x30 O; cbv
    refine jT hS O (cZ hM) ji ji rfl rfl rfl rfl ?_
    exact xZ
  intro O; cbv
  cases O; exact hR _ _ _ ji ji rfl
instance is33 {k} {cards} {s} : CZ M 33 (xM k cards s) [.lv 0 0, oh M cards, .agg (iF M s)] [(0, (vR (lV M k)))] 1 (fun r => .DJ [.agg (iF M r.1), .sb r.2.1]) (fun r => [(0, (vR (lV M r.2.2)))]) 1 := ⟨fun _ h => s33 HM.h h⟩
end Go.Proofs.YtchmoabpofnbaaaGreat
namespace Go.Proofs.YtchmoabpofnbaaaGreat
open Go Go.Pv
set_option maxRecDepth 100000
set_option maxHeartbeats 20000000
variable [GM]
attribute [local irreducible] bnd br jn qE gK jv lJ jl rD uo divO kT jL kN kP lI lS lM
variable {M:iG}[HM M]
instance c30 {cards}{s}:CC M 30 (Ib cards s) [oh M cards,.agg (iF M s)] (λr=>.sb r):=by
 have:=ct 2 [0,3,58] (λ_ s=>jO [(58,.sb s)]);have:=lo 4 [0,3,5] (λ_ s=>jO [(5,sI s)]);exact wA (iO [2]) Tryz.func30 Tryz.call30
end Go.Proofs.YtchmoabpofnbaaaGreat
