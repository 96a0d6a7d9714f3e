import Derived.Test.YtddcpnlflncahaaGreatC28
set_option linter.all false
namespace Go.Proofs.YtddcpnlflncahaaGreat
open Go Go.Pv
set_option maxRecDepth 100000
set_option maxHeartbeats 2000000
theorem c4 {M:EncM} (hM:M=mapE) {cards:List GCard} {s:GState} {r:Bool} (hf:law48_TurnSteps cards s=some r):Pv.Fn Tryz.prog glF 4 [.sl 17 (M.m GCard (eGCard M) cards) false,.agg (eGState M s)] (fun u=>u=.sb r):=by
 refine fn_dec (T:=(tabc [2,10,18,20])) (tabcOK [2,10,18,20]) rfl wf Tryz.func4 rfl Tryz.call4 rfl ?_
 intro S R hS hR
 have q:=sf hM hS
 unfold law48_TurnSteps at hf
 cbv
 refine d_cut hS [] [3,21] (fun s1=>⟨tpsL 0 74 [(3,.lv 0 0),(21,.sb s1)],[(0,some (.var false (eGState M s)))],1⟩) hf ?_ ?_
 ·intro Ik2 k2 hk2 hf; cbv
  refine d_p hS hf (fun _=>c8 hM) ?_
  intro y4 hf; cbv
  refine d_b hS hf ?_ ?_
  ·intro hf; cbv
   exact d_x hk2 hf
  intro hf; cbv
  refine d_b hS hf ?_ ?_
  ·intro hf; cbv
   exact d_x hk2 hf
  intro hf; cbv
  exact d_x hk2 hf
 intro s1 hf; cbv
 refine d_br hS hf rfl ?_ ?_
 ·intro hf; cbv
  refine d_p hS hf (fun _=>c9 hM) ?_
  intro y5 hf; cbv
  cases hf; exact hR _ (lp_eq rfl)
 intro hf; cbv
 refine d_lp hS (tabcOK [2,10,18,20]) wf [] [3,5,6] (fun s6=>⟨tpsL 0 74 [(3,.lv 0 0),(5,.lv 1 0),(6,.si .i64 s6.2)],[(0,some (.var false (eGState M s))),(1,some (.var false (eGState M s6.1)))],2⟩) hf ?_
 intro Ik7 k7 s6 hk7 hf e he; subst he
 unfold law48_TurnSteps_l1 at hf
 cbv
 refine l_seq hS ?_; cbv
 refine d_b hS hf ?_ ?_
 ·intro hf; cbv
  refine d_p hS hf (fun _=>c11 hM) ?_
  intro y9 hf; cbv
  refine d_b hS hf ?_ ?_
  ·intro hf; cbv
   refine d_cut hS [] [4] (fun s10=>⟨tpsL 0 74 [(4,.sb s10)],[],0⟩) hf ?_ ?_
   ·intro Ik11 k11 hk11 hf; cbv
    refine d_b hS hf ?_ ?_
    ·intro hf; cbv
     refine d_b hS hf ?_ ?_
     ·intro hf; cbv
      refine d_b hS hf ?_ ?_
      ·intro hf; cbv
       refine d_p hS hf (fun _=>c9 hM) ?_
       intro y13 hf; cbv
       exact d_x hk11 hf
      intro hf; cbv
      exact d_x hk11 hf
     intro hf; cbv
     exact d_x hk11 hf
    intro hf; cbv
    exact d_x hk11 hf
   intro s10 hf; cbv
   cases hf; exact hR _ (lp_eq rfl)
  intro hf; cbv
  refine d_cut hS [] [3,5,6,7,72] (fun s14=>⟨tpsL 0 74 [(3,.lv 0 0),(5,.lv 1 0),(6,.si .i64 s6.2),(7,.lv 2 0),(72,.sb s14)],[(0,some (.var false (eGState M s))),(1,some (.var false (eGState M s6.1))),(2,some (.var false (eGState M y9)))],3⟩) hf ?_ ?_
  ·intro Ik15 k15 hk15 hf; cbv
   refine d_b hS hf ?_ ?_
   ·intro hf; cbv
    exact d_x hk15 hf
   intro hf; cbv
   refine d_b hS hf ?_ ?_
   ·intro hf; cbv
    exact d_x hk15 hf
   intro hf; cbv
   exact d_x hk15 hf
  intro s14 hf; cbv
  refine d_br hS hf rfl ?_ ?_
  ·intro hf; cbv
   cases hf; exact hR _ (lp_eq rfl)
  intro hf; cbv
  exact d_x hk7 hf
 intro hf; cbv
 cases hf; exact hR _ (lp_eq rfl)
theorem c6 {M:EncM} (hM:M=mapE) {u:GLaw39Use} {c:GCost} {answers:List (List Int)} {r:Bool} (hf:law39_CostMana u c answers=some r):Pv.Fn Tryz.prog glF 6 [.agg (eGLaw39Use M u),.agg (eGCost M c),.sl 1 (M.m (List Int) (eL M 1 (eI .i64)) answers) false] (fun u=>u=.sb r):=by
 refine fn_dec (T:=tab) tabOK rfl wf Tryz.func6 rfl Tryz.call6 rfl ?_
 intro S R hS hR
 have q:=sf hM hS
 unfold law39_CostMana at hf
 cbv
 refine d_p hS hf (fun _=>c13 hM) ?_
 intro y1 hf; cbv
 refine d_b hS hf ?_ ?_
 ·intro hf; cbv
  refine d_p hS hf (fun _=>c14 hM) ?_
  intro y2 hf; cbv
  cases hf; exact hR _ (lp_eq rfl)
 intro hf; cbv
 refine d_callo hS hf (fun _=>o15 hM) (le_eq rfl) ?_
 intro y3 hf; cbv
 refine d_callo hS hf (fun _=>o16 hM) (le_eq rfl) ?_
 intro y4 hf; cbv
 refine d_prec hS [.cF 2 0] rfl ?_; cbv
 refine d_callS hS hf (fun _=>s17 hM) d_st d_st rfl rfl rfl rfl ?_
 intro y5 hf; cbv
 refine d_prec hS [.cF 4 0] rfl ?_; cbv
 refine d_callS hS hf (fun _=>s18 hM) d_st d_st rfl rfl rfl rfl ?_
 intro y6 hf; cbv
 refine d_callL hS hf (fun _=>c19 hM) (le_eq rfl) (fun _=>rfl) ?_
 intro y7 hf; cbv
 refine d_p hS hf (fun _=>c14 hM) ?_
 intro y8 hf; cbv
 refine d_br hS hf rfl ?_ ?_
 ·intro hf; cbv
  refine d_br hS hf rfl ?_ ?_
  ·intro hf; cbv
   refine d_b hS hf ?_ ?_
   ·intro hf; cbv
    refine d_b hS hf ?_ ?_
    ·intro hf; cbv
     cases hf; exact hR _ (lp_eq rfl)
    intro hf; cbv
    refine d_b hS hf ?_ ?_
    ·intro hf; cbv
     refine d_callL hS hf (fun _=>c10 hM) d_le (fun _=>rfl) ?_
     intro y9 hf; cbv
     cases hf; exact hR _ (lp_eq rfl)
    intro hf; cbv
    cases hf; exact hR _ (lp_eq rfl)
   intro hf; cbv
   cases hf; exact hR _ (lp_eq rfl)
  intro hf; cbv
  cases hf; exact hR _ (lp_eq rfl)
 intro hf; cbv
 cases hf; exact hR _ (lp_eq rfl)
theorem c3 {M:EncM} (hM:M=mapE) {cards:List GCard} {s:GState} {r:Bool} (hf:law48_TurnNext cards s=some r):Pv.Fn Tryz.prog glF 3 [.sl 17 (M.m GCard (eGCard M) cards) false,.agg (eGState M s)] (fun u=>u=.sb r):=by
 refine fn_dec (T:=tab) tabOK rfl wf Tryz.func3 rfl Tryz.call3 rfl ?_
 intro S R hS hR
 have q:=sf hM hS
 unfold law48_TurnNext at hf
 cbv
 refine d_p hS hf (fun _=>c8 hM) ?_
 intro y1 hf; cbv
 refine d_b hS hf ?_ ?_
 ·intro hf; cbv
  refine d_p hS hf (fun _=>c9 hM) ?_
  intro y2 hf; cbv
  cases hf; exact hR _ (lp_eq rfl)
 intro hf; cbv
 refine d_o hS ?_; cbv
 refine d_c hS hf (fun _=>c11 hM) ?_
 intro y3 hf; cbv
 refine d_c hS hf (fun _=>c12 hM) ?_
 intro y4 hf; cbv
 refine d_c hS hf (fun _=>c10 hM) ?_
 intro y5 hf; cbv
 refine d_br hS hf rfl ?_ ?_
 ·intro hf; cbv
  refine d_c hS hf (fun _=>c9 hM) ?_
  intro y6 hf; cbv
  cases hf; exact hR _ (lp_eq rfl)
 intro hf; cbv
 cases hf; exact hR _ (lp_eq rfl)
end Go.Proofs.YtddcpnlflncahaaGreat
