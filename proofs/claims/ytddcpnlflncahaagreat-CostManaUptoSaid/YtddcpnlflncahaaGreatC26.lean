import Derived.Test.YtddcpnlflncahaaGreatC25
set_option linter.all false
namespace Go.Proofs.YtddcpnlflncahaaGreat
open Go Go.Pv
set_option maxRecDepth 100000
set_option maxHeartbeats 2000000
theorem c68 {M:EncM} (hM:M=mapE) {s:GState} {r:Bool} (hf:r26_stack s=some r):Pv.Fn Tryz.prog glF 68 [.agg (eGState M s)] (fun u=>u=.sb r):=by
 refine fn_dec (T:=(tabc [2,34,46])) (tabcOK [2,34,46]) rfl wf Tryz.func68 rfl Tryz.call68 rfl ?_
 intro S R hS hR
 have q:=sf hM hS
 unfold r26_stack at hf
 cbv
 refine d_cut hS [] [1,24] (fun s1=>⟨tpsL 0 129 [(1,.lv 0 0),(24,.sb s1)],[(0,some (.var false (eGState M s)))],1⟩) hf ?_ ?_
 ·intro Ik2 k2 hk2 hf; cbv
  refine d_b hS hf ?_ ?_
  ·intro hf; cbv
   exact d_x hk2 hf
  intro hf; cbv
  refine d_b hS hf ?_ ?_
  ·intro hf; cbv
   exact d_x hk2 hf
  intro hf; cbv
  exact d_x hk2 hf
 intro s1 hf; cbv
 refine d_br hS hf rfl ?_ ?_
 ·intro hf; cbv
  cases hf; exact hR _ (lp_eq rfl)
 intro hf; cbv
 refine d_lp hS (tabcOK [2,34,46]) wf [] [1,3] (fun s4=>⟨tpsL 0 129 [(1,.lv 0 0),(3,.si .i64 s4)],[(0,some (.var false (eGState M s)))],1⟩) hf ?_
 intro Ik5 k5 s4 hk5 hf e he; subst he
 unfold r26_stack_l4 at hf
 cbv
 refine d_b hS hf ?_ ?_
 ·intro hf; cbv
  refine d_o hS ?_; cbv
  refine d_idx hS hM hf rfl rfl ?_
  intro x7 hf; cbv
  refine d_c hS hf (fun _=>c122 hM) ?_
  intro y8 hf; cbv
  refine d_b hS hf ?_ ?_
  ·intro hf; cbv
   cases hf; exact hR _ (lp_eq rfl)
  intro hf; cbv
  refine d_lp hS (tabcOK [2,34,46]) wf [] [1,3,4] (fun s9=>⟨tpsL 0 129 [(1,.lv 0 0),(3,.si .i64 s4),(4,.si .i64 s9)],[(0,some (.var false (eGState M s)))],1⟩) hf ?_
  intro Ik10 k10 s9 hk10 hf e he; subst he
  unfold r26_stack_l1 at hf
  cbv
  refine d_b hS hf ?_ ?_
  ·intro hf; cbv
   refine d_o hS ?_; cbv
   refine d_idx hS hM hf rfl rfl ?_
   intro x12 hf; cbv
   refine d_idx hS hM hf rfl rfl ?_
   intro x13 hf; cbv
   refine d_b hS hf ?_ ?_
   ·intro hf; cbv
    cases hf; exact hR _ (lp_eq rfl)
   intro hf; cbv
   exact d_x hk10 hf
  intro hf; cbv
  exact d_x hk5 hf
 intro hf; cbv
 refine d_lp hS (tabcOK [2,34,46]) wf [] [1,5] (fun s14=>⟨tpsL 0 129 [(1,.lv 0 0),(5,.si .i64 s14)],[(0,some (.var false (eGState M s)))],1⟩) hf ?_
 intro Ik15 k15 s14 hk15 hf e he; subst he
 unfold r26_stack_l3 at hf
 cbv
 refine d_b hS hf ?_ ?_
 ·intro hf; cbv
  refine d_idx hS hM hf rfl rfl ?_
  intro x17 hf; cbv
  refine d_cut hS [] [1,5,86] (fun s18=>⟨tpsL 0 129 [(1,.lv 0 0),(5,.si .i64 s14),(86,.sb s18)],[(0,some (.var false (eGState M s)))],1⟩) hf ?_ ?_
  ·intro Ik19 k19 hk19 hf; cbv
   refine d_p hS hf (fun _=>c66 hM) ?_
   intro y21 hf; cbv
   refine d_b hS hf ?_ ?_
   ·intro hf; cbv
    exact d_x hk19 hf
   intro hf; cbv
   refine d_b hS hf ?_ ?_
   ·intro hf; cbv
    exact d_x hk19 hf
   intro hf; cbv
   refine d_p hS hf (fun _=>c116 hM) ?_
   intro y22 hf; cbv
   exact d_x hk19 hf
  intro s18 hf; cbv
  refine d_br hS hf rfl ?_ ?_
  ·intro hf; cbv
   cases hf; exact hR _ (lp_eq rfl)
  intro hf; cbv
  exact d_x hk15 hf
 intro hf; cbv
 refine d_lp hS (tabcOK [2,34,46]) wf [] [1,7] (fun s23=>⟨tpsL 0 129 [(1,.lv 0 0),(7,.si .i64 s23)],[(0,some (.var false (eGState M s)))],1⟩) hf ?_
 intro Ik24 k24 s23 hk24 hf e he; subst he
 unfold r26_stack_l2 at hf
 cbv
 refine d_b hS hf ?_ ?_
 ·intro hf; cbv
  refine d_idx hS hM hf rfl rfl ?_
  intro x26 hf; cbv
  refine d_cut hS [] [1,7,128] (fun s27=>⟨tpsL 0 129 [(1,.lv 0 0),(7,.si .i64 s23),(128,.sb s27)],[(0,some (.var false (eGState M s)))],1⟩) hf ?_ ?_
  ·intro Ik28 k28 hk28 hf; cbv
   refine d_p hS hf (fun _=>c66 hM) ?_
   intro y30 hf; cbv
   refine d_b hS hf ?_ ?_
   ·intro hf; cbv
    exact d_x hk28 hf
   intro hf; cbv
   refine d_b hS hf ?_ ?_
   ·intro hf; cbv
    exact d_x hk28 hf
   intro hf; cbv
   refine d_p hS hf (fun _=>c64 hM) ?_
   intro y31 hf; cbv
   refine d_b hS hf ?_ ?_
   ·intro hf; cbv
    exact d_x hk28 hf
   intro hf; cbv
   refine d_p hS hf (fun _=>c123 hM) ?_
   intro y32 hf; cbv
   refine d_b hS hf ?_ ?_
   ·intro hf; cbv
    exact d_x hk28 hf
   intro hf; cbv
   refine d_p hS hf (fun _=>c124 hM) ?_
   intro y33 hf; cbv
   exact d_x hk28 hf
  intro s27 hf; cbv
  refine d_br hS hf rfl ?_ ?_
  ·intro hf; cbv
   cases hf; exact hR _ (lp_eq rfl)
  intro hf; cbv
  exact d_x hk24 hf
 intro hf; cbv
 cases hf; exact hR _ (lp_eq rfl)
theorem c23 {M:EncM} (hM:M=mapE) {l:List GCard} {r:Int × Int} (hf:r22_Check l=some r):Pv.Fn Tryz.prog glF 23 [.sl 17 (M.m GCard (eGCard M) l) false] (fun u=>u=.tup [.si .i64 r.1,.si .i64 r.2]):=by
 refine fn_dec (T:=tab) tabOK rfl wf Tryz.func23 rfl Tryz.call23 rfl ?_
 intro S R hS hR
 have q:=sf hM hS
 unfold r22_Check at hf
 cbv
 refine d_b hS hf ?_ ?_
 ·intro hf; cbv
  cases hf; exact hR _ (lp_eq rfl)
 intro hf; cbv
 refine d_lp hS tabOK wf [] [0,4] (fun s1=>⟨tpsL 0 39 [(0,.sl 17 (M.m GCard (eGCard M) l) false),(4,.si .i64 s1)],[],0⟩) hf ?_
 intro Ik2 k2 s1 hk2 hf e he; subst he
 unfold r22_Check_l1 at hf
 cbv
 refine d_b hS hf ?_ ?_
 ·intro hf; cbv
  refine d_idx hS hM hf rfl rfl ?_
  intro x4 hf; cbv
  refine d_p hS hf (fun _=>c61 hM) ?_
  intro y5 hf; cbv
  refine d_b hS hf ?_ ?_
  ·intro hf; cbv
   cases hf; exact hR _ (lp_eq rfl)
  intro hf; cbv
  refine d_idx hS hM hf rfl rfl ?_
  intro x6 hf; cbv
  refine d_p hS hf (fun _=>c62 hM) ?_
  intro y7 hf; cbv
  refine d_b hS hf ?_ ?_
  ·intro hf; cbv
   cases hf; exact hR _ (lp_eq rfl)
  intro hf; cbv
  refine d_idx hS hM hf rfl rfl ?_
  intro x8 hf; cbv
  refine d_p hS hf (fun _=>c63 hM) ?_
  intro y9 hf; cbv
  refine d_b hS hf ?_ ?_
  ·intro hf; cbv
   cases hf; exact hR _ (lp_eq rfl)
  intro hf; cbv
  exact d_x hk2 hf
 intro hf; cbv
 cases hf; exact hR _ (lp_eq rfl)
end Go.Proofs.YtddcpnlflncahaaGreat
