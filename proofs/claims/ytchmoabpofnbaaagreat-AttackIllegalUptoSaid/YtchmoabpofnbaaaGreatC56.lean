import Derived.Test.YtchmoabpofnbaaaGreatC48
import Derived.Test.YtchmoabpofnbaaaGreatC49
import Derived.Test.YtchmoabpofnbaaaGreatC51
set_option linter.all false
namespace Go.Proofs.YtchmoabpofnbaaaGreat
open Go Go.Pv Proofs.Tryz
set_option maxRecDepth 100000
set_option maxHeartbeats 20000000
variable [GM]
attribute [local irreducible] bnd br jn qE gK jv lJ jl rD uo divO kT jL kN kP lI lS lM
variable {M:iG}[HM M]
theorem c178 {M : iG} (hM : M = kX) {cards : List iZ} {s : gB} {r : List jC} (O : Vu cards s = some r) : Pv.Fn Tryz.prog glF 178 [oh M cards, .agg (iF M s)] (fun u => u = yA M r) := by
  haveI : HM M := ⟨hM⟩
  refine ES (iO [9, 21]) Tryz.func178 Tryz.call178 ?_
  intro S R hS hR q
  unfold Vu at O
  cbv
  refine d_L (iO [9, 21]) [] [0, 3, 5, 6] (fun s1 => f4 89 [oh M cards, .lv 0 0, .os 1 0 (S.gZ (Ae M s1.2)), sI s1.1] [vR (iF M s), aR 23 (Ae M s1.2)]) O ?_
  intro Ik2 k2 s1 hk2 O e he; subst he
  unfold VW at O
  cbv
  refine nZ ?_ ?_
  · intro O; cbv
    refine DR [] [0, 3, 5, 6] (fun s4 => f4 89 [oh M cards, .lv 0 0, .os 1 0 (S.gZ (Ae M s4)), sI s1.1] [vR (iF M s), aR 23 (Ae M s4)]) O ?_ ?_
    · intro Ik5 k5 hk5 O; cbv
      refine d_I ?_
      intro x7 O; cbv
      refine nZ ?_ ?_
      · exact vF
      intro O; cbv
      refine zn hS O (cI hM) ?_
      intro y8 O; cbv
      refine d_L (iO [9, 21]) [] [0, 3, 5, 6, 7, 8, 9] (fun s9 => f4 89 [oh M cards, .lv 0 0, .os 1 0 (S.gZ (Ae M s9.2)), sI s1.1, .lv 2 0, .lv 3 0, sI s9.1] [vR (iF M s), aR 23 (Ae M s9.2), vR (jQ M x7), vR (kU M y8)]) O ?_
      intro Ik10 k10 s9 hk10 O e he; subst he
      unfold VU at O
      cbv
      refine nZ ?_ ?_
      · intro O; cbv
        refine DR [] [0, 3, 5, 6, 7, 8, 9] (fun s12 => f4 89 [oh M cards, .lv 0 0, .os 1 0 (S.gZ (Ae M s12)), sI s1.1, .lv 2 0, .lv 3 0, sI s9.1] [vR (iF M s), aR 23 (Ae M s12), vR (jQ M x7), vR (kU M y8)]) O ?_ ?_
        · intro Ik13 k13 hk13 O; cbv
          refine d_I ?_
          intro x15 O; cbv
          refine nZ ?_ ?_
          · intro O; cbv
            refine KN hS (e := (CE M)) O ji ?_
            intro x16 O; cbv
            refine tH hS O lC ?_
            exact vF
          exact vF
        intro s12 O; cbv
        exact vw
      exact vF
    intro s4 O; cbv
    exact vw
  intro O; cbv
  refine d_L (iO [9, 21]) [] [3, 5, 11] (fun s17 => f4 89 [.lv 0 0, .os 1 0 (S.gZ (Ae M s17.2)), sI s17.1] [vR (iF M s), aR 23 (Ae M s17.2)]) O ?_
  intro Ik18 k18 s17 hk18 O e he; subst he
  unfold VV at O
  cbv
  refine nZ ?_ ?_
  · intro O; cbv
    refine d_I ?_
    intro x20 O
    generalize hq : @Iw = qq; cbv
    subst hq; cbv
    refine KN hS (e := (CE M)) O ji ?_
    intro x21 O; cbv
    refine tH hS O lC ?_
    exact vF
  exact d_R
instance ic178 {cards} {s} : CC M 178 (Vu cards s) [oh M cards, .agg (iF M s)] (fun r => yA M r) := ⟨fun _ h => c178 HM.h h⟩
end Go.Proofs.YtchmoabpofnbaaaGreat
