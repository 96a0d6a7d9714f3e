import Derived.Test.YtddcpnlflncahaaGreatC23
set_option linter.all false
namespace Go.Proofs.YtddcpnlflncahaaGreat
open Go Go.Pv
set_option maxRecDepth 100000
set_option maxHeartbeats 2000000
theorem c116 {M:EncM} (hM:M=mapE) {a:GAbility} {r:Bool} (hf:r20_Is a=some r):Pv.Fn Tryz.prog glF 116 [.agg (eGAbility M a)] (fun u=>u=.sb r):=by
 refine fn_dec (T:=(tabc [2,6,10,14,19,24,29,34,39,49,50])) (tabcOK [2,6,10,14,19,24,29,34,39,49,50]) rfl wf Tryz.func116 rfl Tryz.call116 rfl ?_
 intro S R hS hR
 have q:=sf hM hS
 unfold r20_Is at hf
 cbv
 refine d_cut hS [] [1,11] (fun s1=>⟨tpsL 0 117 [(1,.lv 0 0),(11,.sb s1)],[(0,some (.var false (eGAbility M a)))],1⟩) hf ?_ ?_
 ·intro Ik2 k2 hk2 hf; cbv
  refine d_b hS hf ?_ ?_
  ·intro hf; cbv
   exact d_x hk2 hf
  intro hf; cbv
  exact d_x hk2 hf
 intro s1 hf; cbv
 refine d_br hS hf rfl ?_ ?_
 ·intro hf; cbv
  cases hf; exact hR _ (lp_eq rfl)
 intro hf; cbv
 refine d_cut hS [] [1,3] (fun s4=>⟨tpsL 0 117 [(1,.lv 0 0),(3,.sb s4)],[(0,some (.var false (eGAbility M a)))],1⟩) hf ?_ ?_
 ·intro Ik5 k5 hk5 hf; cbv
  refine d_b hS hf ?_ ?_
  ·intro hf; cbv
   exact d_x hk5 hf
  intro hf; cbv
  refine d_b hS hf ?_ ?_
  ·intro hf; cbv
   exact d_x hk5 hf
  intro hf; cbv
  exact d_x hk5 hf
 intro s4 hf; cbv
 refine d_cut hS [] [1,3] (fun s7=>⟨tpsL 0 117 [(1,.lv 0 0),(3,.sb s4)],[(0,some (.var false (eGAbility M a)))],1⟩) hf ?_ ?_
 ·intro Ik8 k8 hk8 hf; cbv
  refine d_b hS hf ?_ ?_
  ·intro hf; cbv
   refine d_cut hS [] [1,3,43] (fun s10=>⟨tpsL 0 117 [(1,.lv 0 0),(3,.sb s4),(43,.sb s10)],[(0,some (.var false (eGAbility M a)))],1⟩) hf ?_ ?_
   ·intro Ik11 k11 hk11 hf; cbv
    refine d_p hS hf (fun _=>c156 hM) ?_
    intro y13 hf; cbv
    refine d_b hS hf ?_ ?_
    ·intro hf; cbv
     exact d_x hk11 hf
    intro hf; cbv
    refine d_b hS hf ?_ ?_
    ·intro hf; cbv
     exact d_x hk11 hf
    intro hf; cbv
    refine d_p hS hf (fun _=>c124 hM) ?_
    intro y14 hf; cbv
    exact d_x hk11 hf
   intro s10 hf; cbv
   refine d_br hS hf rfl ?_ ?_
   ·intro hf; cbv
    cases hf; exact hR _ (lp_eq rfl)
   intro hf; cbv
   exact d_x hk8 hf
  intro hf; cbv
  refine d_cut hS [] [1,3,53] (fun s15=>⟨tpsL 0 117 [(1,.lv 0 0),(3,.sb s4),(53,.sb s15)],[(0,some (.var false (eGAbility M a)))],1⟩) hf ?_ ?_
  ·intro Ik16 k16 hk16 hf; cbv
   replace hf:=d_lt hf
   refine d_b hS hf ?_ ?_
   ·intro hf; cbv
    exact d_x hk16 hf
   intro hf; cbv
   exact d_x hk16 hf
  intro s15 hf; cbv
  refine d_br hS hf rfl ?_ ?_
  ·intro hf; cbv
   cases hf; exact hR _ (lp_eq rfl)
  intro hf; cbv
  exact d_x hk8 hf
 intro s7 hf; cbv
 refine d_cut hS [] [1,3] (fun s19=>⟨tpsL 0 117 [(1,.lv 0 0),(3,.sb s4)],[(0,some (.var false (eGAbility M a)))],1⟩) hf ?_ ?_
 ·intro Ik20 k20 hk20 hf; cbv
  refine d_b hS hf ?_ ?_
  ·intro hf; cbv
   refine d_p hS hf (fun _=>c157 hM) ?_
   intro y22 hf; cbv
   refine d_b hS hf ?_ ?_
   ·intro hf; cbv
    cases hf; exact hR _ (lp_eq rfl)
   intro hf; cbv
   exact d_x hk20 hf
  intro hf; cbv
  refine d_cut hS [] [1,3,68] (fun s23=>⟨tpsL 0 117 [(1,.lv 0 0),(3,.sb s4),(68,.sb s23)],[(0,some (.var false (eGAbility M a)))],1⟩) hf ?_ ?_
  ·intro Ik24 k24 hk24 hf; cbv
   replace hf:=d_lt hf
   refine d_b hS hf ?_ ?_
   ·intro hf; cbv
    exact d_x hk24 hf
   intro hf; cbv
   exact d_x hk24 hf
  intro s23 hf; cbv
  refine d_br hS hf rfl ?_ ?_
  ·intro hf; cbv
   cases hf; exact hR _ (lp_eq rfl)
  intro hf; cbv
  exact d_x hk20 hf
 intro s19 hf; cbv
 refine d_cut hS [] [1,3] (fun s27=>⟨tpsL 0 117 [(1,.lv 0 0),(3,.sb s4)],[(0,some (.var false (eGAbility M a)))],1⟩) hf ?_ ?_
 ·intro Ik28 k28 hk28 hf; cbv
  refine d_b hS hf ?_ ?_
  ·intro hf; cbv
   refine d_p hS hf (fun _=>c158 hM) ?_
   intro y30 hf; cbv
   refine d_b hS hf ?_ ?_
   ·intro hf; cbv
    cases hf; exact hR _ (lp_eq rfl)
   intro hf; cbv
   exact d_x hk28 hf
  intro hf; cbv
  refine d_cut hS [] [1,3,83] (fun s31=>⟨tpsL 0 117 [(1,.lv 0 0),(3,.sb s4),(83,.sb s31)],[(0,some (.var false (eGAbility M a)))],1⟩) hf ?_ ?_
  ·intro Ik32 k32 hk32 hf; cbv
   replace hf:=d_lt hf
   refine d_b hS hf ?_ ?_
   ·intro hf; cbv
    exact d_x hk32 hf
   intro hf; cbv
   exact d_x hk32 hf
  intro s31 hf; cbv
  refine d_br hS hf rfl ?_ ?_
  ·intro hf; cbv
   cases hf; exact hR _ (lp_eq rfl)
  intro hf; cbv
  exact d_x hk28 hf
 intro s27 hf; cbv
 refine d_cut hS [] [1,3] (fun s35=>⟨tpsL 0 117 [(1,.lv 0 0),(3,.sb s4)],[(0,some (.var false (eGAbility M a)))],1⟩) hf ?_ ?_
 ·intro Ik36 k36 hk36 hf; cbv
  refine d_b hS hf ?_ ?_
  ·intro hf; cbv
   refine d_p hS hf (fun _=>c159 hM) ?_
   intro y38 hf; cbv
   refine d_b hS hf ?_ ?_
   ·intro hf; cbv
    cases hf; exact hR _ (lp_eq rfl)
   intro hf; cbv
   exact d_x hk36 hf
  intro hf; cbv
  replace hf:=d_lt hf
  refine d_b hS hf ?_ ?_
  ·intro hf; cbv
   cases hf; exact hR _ (lp_eq rfl)
  intro hf; cbv
  exact d_x hk36 hf
 intro s35 hf; cbv
 refine d_br hS hf rfl ?_ ?_
 ·intro hf; cbv
  refine d_cut hS [] [2] (fun s40=>⟨tpsL 0 117 [(2,.sb s40)],[],0⟩) hf ?_ ?_
  ·intro Ik41 k41 hk41 hf; cbv
   refine d_p hS hf (fun _=>c160 hM) ?_
   intro y43 hf; cbv
   refine d_br hS hf rfl ?_ ?_
   ·intro hf; cbv
    refine d_callp hS hf (fun _=>c161 hM) d_le ?_
    intro y44 hf; cbv
    exact d_x hk41 hf
   intro hf; cbv
   exact d_x hk41 hf
  intro s40 hf; cbv
  cases hf; exact hR _ (lp_eq rfl)
 intro hf; cbv
 refine d_b hS hf ?_ ?_
 ·intro hf; cbv
  cases hf; exact hR _ d_l
 intro hf; cbv
 cases hf; exact hR _ (lp_eq rfl)
end Go.Proofs.YtddcpnlflncahaaGreat
