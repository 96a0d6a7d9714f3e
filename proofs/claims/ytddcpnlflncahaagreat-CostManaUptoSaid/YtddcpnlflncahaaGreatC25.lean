import Derived.Test.YtddcpnlflncahaaGreatC24
set_option linter.all false
namespace Go.Proofs.YtddcpnlflncahaaGreat
open Go Go.Pv
set_option maxRecDepth 100000
set_option maxHeartbeats 2000000
theorem c61 {M:EncM} (hM:M=mapE) {c:GCard} {r:Bool} (hf:r21_Is c=some r):Pv.Fn Tryz.prog glF 61 [.agg (eGCard M c)] (fun u=>u=.sb r):=by
 refine fn_dec (T:=(tabc [2,6,17,28])) (tabcOK [2,6,17,28]) rfl wf Tryz.func61 rfl Tryz.call61 rfl ?_
 intro S R hS hR
 have q:=sf hM hS
 unfold r21_Is at hf
 cbv
 refine d_cut hS [] [1,36] (fun s1=>⟨tpsL 0 139 [(1,.lv 0 0),(36,.sb s1)],[(0,some (.var false (eGCard M c)))],1⟩) hf ?_ ?_
 ·intro Ik2 k2 hk2 hf; cbv
  refine d_p hS hf (fun _=>c112 hM) ?_
  intro y4 hf; cbv
  refine d_b hS hf ?_ ?_
  ·intro hf; cbv
   exact d_x hk2 hf
  intro hf; cbv
  refine d_p hS hf (fun _=>c102 hM) ?_
  intro y5 hf; cbv
  refine d_b hS hf ?_ ?_
  ·intro hf; cbv
   exact d_x hk2 hf
  intro hf; cbv
  refine d_p hS hf (fun _=>c113 hM) ?_
  intro y6 hf; cbv
  refine d_b hS hf ?_ ?_
  ·intro hf; cbv
   exact d_x hk2 hf
  intro hf; cbv
  refine d_p hS hf (fun _=>c114 hM) ?_
  intro y7 hf; cbv
  refine d_b hS hf ?_ ?_
  ·intro hf; cbv
   exact d_x hk2 hf
  intro hf; cbv
  refine d_b hS hf ?_ ?_
  ·intro hf; cbv
   exact d_x hk2 hf
  intro hf; cbv
  exact d_x hk2 hf
 intro s1 hf; cbv
 refine d_br hS hf rfl ?_ ?_
 ·intro hf; cbv
  cases hf; exact hR _ (lp_eq rfl)
 intro hf; cbv
 refine d_cut hS [] [1,75] (fun s8=>⟨tpsL 0 139 [(1,.lv 0 0),(75,.sb s8)],[(0,some (.var false (eGCard M c)))],1⟩) hf ?_ ?_
 ·intro Ik9 k9 hk9 hf; cbv
  refine d_b hS hf ?_ ?_
  ·intro hf; cbv
   exact d_x hk9 hf
  intro hf; cbv
  refine d_b hS hf ?_ ?_
  ·intro hf; cbv
   exact d_x hk9 hf
  intro hf; cbv
  refine d_b hS hf ?_ ?_
  ·intro hf; cbv
   exact d_x hk9 hf
  intro hf; cbv
  refine d_b hS hf ?_ ?_
  ·intro hf; cbv
   exact d_x hk9 hf
  intro hf; cbv
  refine d_p hS hf (fun _=>c115 hM) ?_
  intro y11 hf; cbv
  refine d_b hS hf ?_ ?_
  ·intro hf; cbv
   refine d_b hS hf ?_ ?_
   ·intro hf; cbv
    exact d_x hk9 hf
   intro hf; cbv
   refine d_b hS hf ?_ ?_
   ·intro hf; cbv
    exact d_x hk9 hf
   intro hf; cbv
   exact d_x hk9 hf
  intro hf; cbv
  exact d_x hk9 hf
 intro s8 hf; cbv
 refine d_br hS hf rfl ?_ ?_
 ·intro hf; cbv
  cases hf; exact hR _ (lp_eq rfl)
 intro hf; cbv
 refine d_lp hS (tabcOK [2,6,17,28]) wf [] [1,3,4] (fun s12=>⟨tpsL 0 139 [(1,.lv 0 0),(3,.si .i64 s12.1),(4,.si .i64 s12.2)],[(0,some (.var false (eGCard M c)))],1⟩) hf ?_
 intro Ik13 k13 s12 hk13 hf e he; subst he
 unfold r21_Is_l1 at hf
 cbv
 refine d_b hS hf ?_ ?_
 ·intro hf; cbv
  refine d_cut hS [] [1,3,4] (fun s15=>⟨tpsL 0 139 [(1,.lv 0 0),(3,.si .i64 s15),(4,.si .i64 s12.2)],[(0,some (.var false (eGCard M c)))],1⟩) hf ?_ ?_
  ·intro Ik16 k16 hk16 hf; cbv
   refine d_idx hS hM hf rfl rfl ?_
   intro x18 hf; cbv
   refine d_p hS hf (fun _=>c116 hM) ?_
   intro y19 hf; cbv
   refine d_b hS hf ?_ ?_
   ·intro hf; cbv
    cases hf; exact hR _ (lp_eq rfl)
   intro hf; cbv
   refine d_idx hS hM hf rfl rfl ?_
   intro x20 hf; cbv
   refine d_b hS hf ?_ ?_
   ·intro hf; cbv
    exact d_x hk16 hf
   intro hf; cbv
   exact d_x hk16 hf
  intro s15 hf; cbv
  exact d_x hk13 hf
 intro hf; cbv
 refine d_p hS hf (fun _=>c117 hM) ?_
 intro y21 hf; cbv
 refine d_br hS hf rfl ?_ ?_
 ·intro hf; cbv
  refine d_cut hS [] [2] (fun s22=>⟨tpsL 0 139 [(2,.sb s22)],[],0⟩) hf ?_ ?_
  ·intro Ik23 k23 hk23 hf; cbv
   refine d_b hS hf ?_ ?_
   ·intro hf; cbv
    refine d_b hS hf ?_ ?_
    ·intro hf; cbv
     refine d_b hS hf ?_ ?_
     ·intro hf; cbv
      exact d_x hk23 hf
     intro hf; cbv
     exact d_x hk23 hf
    intro hf; cbv
    exact d_x hk23 hf
   intro hf; cbv
   exact d_x hk23 hf
  intro s22 hf; cbv
  cases hf; exact hR _ (lp_eq rfl)
 intro hf; cbv
 refine d_b hS hf ?_ ?_
 ·intro hf; cbv
  refine d_b hS hf ?_ ?_
  ·intro hf; cbv
   refine d_b hS hf ?_ ?_
   ·intro hf; cbv
    cases hf; exact hR _ (lp_eq rfl)
   intro hf; cbv
   replace hf:=d_lt hf
   cases hf; exact hR _ d_l
  intro hf; cbv
  replace hf:=d_lt hf
  cases hf; exact hR _ d_l
 intro hf; cbv
 cases hf; exact hR _ (lp_eq rfl)
theorem c122 {M:EncM} (hM:M=mapE) {s:GState} {x:GItem} {r:Bool} (hf:r26_item s x=some r):Pv.Fn Tryz.prog glF 122 [.agg (eGState M s),.agg (eGItem M x)] (fun u=>u=.sb r):=by
 refine fn_dec (T:=(tabc [2,12])) (tabcOK [2,12]) rfl wf Tryz.func122 rfl Tryz.call122 rfl ?_
 intro S R hS hR
 have q:=sf hM hS
 unfold r26_item at hf
 cbv
 refine d_cut hS [] [2,3,33] (fun s1=>⟨tpsL 0 81 [(2,.lv 0 0),(3,.lv 1 0),(33,.sb s1)],[(0,some (.var false (eGState M s))),(1,some (.var false (eGItem M x)))],2⟩) hf ?_ ?_
 ·intro Ik2 k2 hk2 hf; cbv
  refine d_callp hS hf (fun _=>c64 hM) d_le ?_
  intro y4 hf; cbv
  refine d_b hS hf ?_ ?_
  ·intro hf; cbv
   exact d_x hk2 hf
  intro hf; cbv
  refine d_p hS hf (fun _=>c64 hM) ?_
  intro y5 hf; cbv
  refine d_b hS hf ?_ ?_
  ·intro hf; cbv
   exact d_x hk2 hf
  intro hf; cbv
  refine d_b hS hf ?_ ?_
  ·intro hf; cbv
   exact d_x hk2 hf
  intro hf; cbv
  refine d_p hS hf (fun _=>c66 hM) ?_
  intro y6 hf; cbv
  exact d_x hk2 hf
 intro s1 hf; cbv
 refine d_br hS hf rfl ?_ ?_
 ·intro hf; cbv
  cases hf; exact hR _ (lp_eq rfl)
 intro hf; cbv
 refine d_p hS hf (fun _=>c162 hM) ?_
 intro y7 hf; cbv
 refine d_b hS hf ?_ ?_
 ·intro hf; cbv
  refine d_callp hS hf (fun _=>c125 hM) d_st ?_
  intro y8 hf; cbv
  refine d_cut hS [] [4] (fun s9=>⟨tpsL 0 81 [(4,.sb s9)],[],0⟩) hf ?_ ?_
  ·intro Ik10 k10 hk10 hf; cbv
   refine d_b hS hf ?_ ?_
   ·intro hf; cbv
    refine d_br hS hf rfl ?_ ?_
    ·intro hf; cbv
     refine d_b hS hf ?_ ?_
     ·intro hf; cbv
      refine d_br hS hf rfl ?_ ?_
      ·intro hf; cbv
       exact d_x hk10 hf
      intro hf; cbv
      refine d_p hS hf (fun _=>c116 hM) ?_
      intro y12 hf; cbv
      exact d_x hk10 hf
     intro hf; cbv
     exact d_x hk10 hf
    intro hf; cbv
    exact d_x hk10 hf
   intro hf; cbv
   exact d_x hk10 hf
  intro s9 hf; cbv
  cases hf; exact hR _ (lp_eq rfl)
 intro hf; cbv
 refine d_b hS hf ?_ ?_
 ·intro hf; cbv
  refine d_b hS hf ?_ ?_
  ·intro hf; cbv
   refine d_p hS hf (fun _=>c116 hM) ?_
   intro y13 hf; cbv
   cases hf; exact hR _ (lp_eq rfl)
  intro hf; cbv
  cases hf; exact hR _ (lp_eq rfl)
 intro hf; cbv
 cases hf; exact hR _ (lp_eq rfl)
end Go.Proofs.YtddcpnlflncahaaGreat
