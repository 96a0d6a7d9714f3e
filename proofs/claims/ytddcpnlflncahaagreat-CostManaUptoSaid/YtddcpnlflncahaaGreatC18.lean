import Derived.Test.YtddcpnlflncahaaGreatC16
set_option linter.all false
namespace Go.Proofs.YtddcpnlflncahaaGreat
open Go Go.Pv
set_option maxRecDepth 100000
set_option maxHeartbeats 2000000
theorem c169 {M:EncM} (hM:M=mapE) {m:GMod} {r:Bool} (hf:r15_Is m=some r):Pv.Fn Tryz.prog glF 169 [.agg (eGMod M m)] (fun u=>u=.sb r):=by
 refine fn_dec (T:=(tabc [2])) (tabcOK [2]) rfl wf Tryz.func169 rfl Tryz.call169 rfl ?_
 intro S R hS hR
 have q:=sf hM hS
 unfold r15_Is at hf
 cbv
 refine d_cut hS [] [1,16] (fun s1=>⟨tpsL 0 107 [(1,.lv 0 0),(16,.sb s1)],[(0,some (.var false (eGMod M m)))],1⟩) hf ?_ ?_
 ·intro Ik2 k2 hk2 hf; cbv
  refine d_b hS hf ?_ ?_
  ·intro hf; cbv
   exact d_x hk2 hf
  intro hf; cbv
  refine d_b hS hf ?_ ?_
  ·intro hf; cbv
   exact d_x hk2 hf
  intro hf; cbv
  refine d_p hS hf (fun _=>c200 hM) ?_
  intro y4 hf; cbv
  replace hf:=d_lt hf
  exact d_x hk2 hf
 intro s1 hf; cbv
 refine d_br hS hf rfl ?_ ?_
 ·intro hf; cbv
  cases hf; exact hR _ (lp_eq rfl)
 intro hf; cbv
 refine d_b hS hf ?_ ?_
 ·intro hf; cbv
  refine d_p hS hf (fun _=>c201 hM) ?_
  intro y6 hf; cbv
  cases hf; exact hR _ (lp_eq rfl)
 intro hf; cbv
 refine d_b hS hf ?_ ?_
 ·intro hf; cbv
  refine d_p hS hf (fun _=>c201 hM) ?_
  intro y7 hf; cbv
  cases hf; exact hR _ (lp_eq rfl)
 intro hf; cbv
 refine d_b hS hf ?_ ?_
 ·intro hf; cbv
  refine d_p hS hf (fun _=>c154 hM) ?_
  intro y8 hf; cbv
  cases hf; exact hR _ (lp_eq rfl)
 intro hf; cbv
 refine d_b hS hf ?_ ?_
 ·intro hf; cbv
  refine d_p hS hf (fun _=>c154 hM) ?_
  intro y9 hf; cbv
  cases hf; exact hR _ (lp_eq rfl)
 intro hf; cbv
 refine d_b hS hf ?_ ?_
 ·intro hf; cbv
  refine d_b hS hf ?_ ?_
  ·intro hf; cbv
   cases hf; exact hR _ d_l
  intro hf; cbv
  cases hf; exact hR _ (lp_eq rfl)
 intro hf; cbv
 refine d_b hS hf ?_ ?_
 ·intro hf; cbv
  refine d_b hS hf ?_ ?_
  ·intro hf; cbv
   cases hf; exact hR _ d_l
  intro hf; cbv
  cases hf; exact hR _ (lp_eq rfl)
 intro hf; cbv
 refine d_b hS hf ?_ ?_
 ·intro hf; cbv
  refine d_b hS hf ?_ ?_
  ·intro hf; cbv
   cases hf; exact hR _ d_l
  intro hf; cbv
  cases hf; exact hR _ (lp_eq rfl)
 intro hf; cbv
 refine d_b hS hf ?_ ?_
 ·intro hf; cbv
  refine d_b hS hf ?_ ?_
  ·intro hf; cbv
   cases hf; exact hR _ d_l
  intro hf; cbv
  cases hf; exact hR _ (lp_eq rfl)
 intro hf; cbv
 refine d_b hS hf ?_ ?_
 ·intro hf; cbv
  refine d_p hS hf (fun _=>c156 hM) ?_
  intro y10 hf; cbv
  cases hf; exact hR _ (lp_eq rfl)
 intro hf; cbv
 refine d_b hS hf ?_ ?_
 ·intro hf; cbv
  refine d_b hS hf ?_ ?_
  ·intro hf; cbv
   refine d_b hS hf ?_ ?_
   ·intro hf; cbv
    refine d_b hS hf ?_ ?_
    ·intro hf; cbv
     cases hf; exact hR _ d_l
    intro hf; cbv
    cases hf; exact hR _ (lp_eq rfl)
   intro hf; cbv
   cases hf; exact hR _ (lp_eq rfl)
  intro hf; cbv
  cases hf; exact hR _ (lp_eq rfl)
 intro hf; cbv
 refine d_b hS hf ?_ ?_
 ·intro hf; cbv
  refine d_b hS hf ?_ ?_
  ·intro hf; cbv
   refine d_b hS hf ?_ ?_
   ·intro hf; cbv
    refine d_b hS hf ?_ ?_
    ·intro hf; cbv
     cases hf; exact hR _ d_l
    intro hf; cbv
    cases hf; exact hR _ (lp_eq rfl)
   intro hf; cbv
   cases hf; exact hR _ (lp_eq rfl)
  intro hf; cbv
  cases hf; exact hR _ (lp_eq rfl)
 intro hf; cbv
 cases hf; exact hR _ (lp_eq rfl)
theorem c226 {M:EncM} (hM:M=mapE) {a:GAmount} {r:Bool} (hf:r14_Is a=some r):Pv.Fn Tryz.prog glF 226 [.agg (eGAmount M a)] (fun u=>u=.sb r):=by
 refine fn_dec (T:=(tabc [10,20,33])) (tabcOK [10,20,33]) rfl wf Tryz.func226 rfl Tryz.call226 rfl ?_
 intro S R hS hR
 have q:=sf hM hS
 unfold r14_Is at hf
 cbv
 refine d_cut hS [] [1,3] (fun s1=>⟨tpsL 0 59 [(1,.lv 0 0),(3,.lv 1 0)],[(0,some (.var false (eGAmount M a))),(1,some (.var false (eGAmount M s1)))],2⟩) hf ?_ ?_
 ·intro Ik2 k2 hk2 hf; cbv
  refine d_b hS hf ?_ ?_
  ·intro hf; cbv
   refine d_cut hS [] [1,3,17] (fun s4=>⟨tpsL 0 59 [(1,.lv 0 0),(3,.lv 1 0),(17,.sb s4)],[(0,some (.var false (eGAmount M a))),(1,some (.var false [.si .i64 a.kind,.si .i64 0,.si .i64 a.counter,.si .i64 a.filter.zone,.si .i64 a.filter.who,.si .i64 a.filter.self,.si .i64 a.filter.types,.si .i64 a.filter.notTypes,.si .i64 a.filter.colors,.si .i64 a.filter.notColors,.str a.filter.sub,.si .i64 a.filter.keys,.si .i64 a.filter.tap,.si .i64 a.filter.power.kind,.si .i64 a.filter.power.n,.si .i64 a.filter.tough.kind,.si .i64 a.filter.tough.n,.si .i64 a.filter.value.kind,.si .i64 a.filter.value.n]))],2⟩) hf ?_ ?_
   ·intro Ik5 k5 hk5 hf; cbv
    refine d_b hS hf ?_ ?_
    ·intro hf; cbv
     exact d_x hk5 hf
    intro hf; cbv
    exact d_x hk5 hf
   intro s4 hf; cbv
   refine d_br hS hf rfl ?_ ?_
   ·intro hf; cbv
    cases hf; exact hR _ (lp_eq rfl)
   intro hf; cbv
   exact d_x hk2 hf
  intro hf; cbv
  refine d_b hS hf ?_ ?_
  ·intro hf; cbv
   refine d_cut hS [] [1,3,36] (fun s7=>⟨tpsL 0 59 [(1,.lv 0 0),(3,.lv 1 0),(36,.sb s7)],[(0,some (.var false (eGAmount M a))),(1,some (.var false [.si .i64 a.kind,.si .i64 0,.si .i64 a.counter,.si .i64 0,.si .i64 0,.si .i64 0,.si .i64 0,.si .i64 0,.si .i64 0,.si .i64 0,.str (bs []),.si .i64 0,.si .i64 0,.si .i64 0,.si .i64 0,.si .i64 0,.si .i64 0,.si .i64 0,.si .i64 0]))],2⟩) hf ?_ ?_
   ·intro Ik8 k8 hk8 hf; cbv
    refine d_b hS hf ?_ ?_
    ·intro hf; cbv
     exact d_x hk8 hf
    intro hf; cbv
    refine d_b hS hf ?_ ?_
    ·intro hf; cbv
     exact d_x hk8 hf
    intro hf; cbv
    refine d_p hS hf (fun _=>c156 hM) ?_
    intro y10 hf; cbv
    exact d_x hk8 hf
   intro s7 hf; cbv
   refine d_br hS hf rfl ?_ ?_
   ·intro hf; cbv
    cases hf; exact hR _ (lp_eq rfl)
   intro hf; cbv
   exact d_x hk2 hf
  intro hf; cbv
  refine d_b hS hf ?_ ?_
  ·intro hf; cbv
   refine d_p hS hf (fun _=>c225 hM) ?_
   intro y11 hf; cbv
   refine d_b hS hf ?_ ?_
   ·intro hf; cbv
    cases hf; exact hR _ (lp_eq rfl)
   intro hf; cbv
   exact d_x hk2 hf
  intro hf; cbv
  exact d_x hk2 hf
 intro s1 hf; cbv
 refine d_b hS hf ?_ ?_
 ·intro hf; cbv
  refine d_b hS hf ?_ ?_
  ·intro hf; cbv
   replace hf:=d_lt hf
   cases hf; exact hR _ d_l
  intro hf; cbv
  cases hf; exact hR _ (lp_eq rfl)
 intro hf; cbv
 cases hf; exact hR _ (lp_eq rfl)
theorem c65 {M:EncM} (hM:M=mapE) {s:GState} {r:Bool} (hf:r26_players s=some r):Pv.Fn Tryz.prog glF 65 [.agg (eGState M s)] (fun u=>u=.sb r):=by
 refine fn_dec (T:=(tabc [14,18])) (tabcOK [14,18]) rfl wf Tryz.func65 rfl Tryz.call65 rfl ?_
 intro S R hS hR
 have q:=sf hM hS
 unfold r26_players at hf
 cbv
 refine d_callp hS hf (fun _=>c64 hM) d_le ?_
 intro y1 hf; cbv
 refine d_b hS hf ?_ ?_
 ·intro hf; cbv
  cases hf; exact hR _ (lp_eq rfl)
 intro hf; cbv
 refine d_lp hS (tabcOK [14,18]) wf [] [1,3] (fun s2=>⟨tpsL 0 76 [(1,.lv 0 0),(3,.si .i64 s2)],[(0,some (.var false (eGState M s)))],1⟩) hf ?_
 intro Ik3 k3 s2 hk3 hf e he; subst he
 unfold r26_players_l1 at hf
 cbv
 refine d_b hS hf ?_ ?_
 ·intro hf; cbv
  refine d_idx hS hM hf rfl rfl ?_
  intro x5 hf; cbv
  refine d_cut hS [] [1,3,4,43] (fun s6=>⟨tpsL 0 76 [(1,.lv 0 0),(3,.si .i64 s2),(4,.lv 1 0),(43,.sb s6)],[(0,some (.var false (eGState M s))),(1,some (.var false (eGPlayer M x5)))],2⟩) hf ?_ ?_
  ·intro Ik7 k7 hk7 hf; cbv
   refine d_p hS hf (fun _=>c64 hM) ?_
   intro y9 hf; cbv
   refine d_b hS hf ?_ ?_
   ·intro hf; cbv
    exact d_x hk7 hf
   intro hf; cbv
   refine d_p hS hf (fun _=>c64 hM) ?_
   intro y10 hf; cbv
   refine d_b hS hf ?_ ?_
   ·intro hf; cbv
    exact d_x hk7 hf
   intro hf; cbv
   refine d_p hS hf (fun _=>c64 hM) ?_
   intro y11 hf; cbv
   refine d_b hS hf ?_ ?_
   ·intro hf; cbv
    exact d_x hk7 hf
   intro hf; cbv
   refine d_p hS hf (fun _=>c103 hM) ?_
   intro y12 hf; cbv
   exact d_x hk7 hf
  intro s6 hf; cbv
  refine d_br hS hf rfl ?_ ?_
  ·intro hf; cbv
   cases hf; exact hR _ (lp_eq rfl)
  intro hf; cbv
  refine d_cut hS [] [1,3,65] (fun s13=>⟨tpsL 0 76 [(1,.lv 0 0),(3,.si .i64 s2),(65,.sb s13)],[(0,some (.var false (eGState M s)))],1⟩) hf ?_ ?_
  ·intro Ik14 k14 hk14 hf; cbv
   refine d_p hS hf (fun _=>c119 hM) ?_
   intro y16 hf; cbv
   refine d_b hS hf ?_ ?_
   ·intro hf; cbv
    exact d_x hk14 hf
   intro hf; cbv
   refine d_p hS hf (fun _=>c119 hM) ?_
   intro y17 hf; cbv
   refine d_b hS hf ?_ ?_
   ·intro hf; cbv
    exact d_x hk14 hf
   intro hf; cbv
   refine d_p hS hf (fun _=>c119 hM) ?_
   intro y18 hf; cbv
   exact d_x hk14 hf
  intro s13 hf; cbv
  refine d_br hS hf rfl ?_ ?_
  ·intro hf; cbv
   cases hf; exact hR _ (lp_eq rfl)
  intro hf; cbv
  exact d_x hk3 hf
 intro hf; cbv
 refine d_p hS hf (fun _=>c119 hM) ?_
 intro y19 hf; cbv
 refine d_br hS hf rfl ?_ ?_
 ·intro hf; cbv
  refine d_p hS hf (fun _=>c119 hM) ?_
  intro y20 hf; cbv
  cases hf; exact hR _ (lp_eq rfl)
 intro hf; cbv
 cases hf; exact hR _ (lp_eq rfl)
theorem c224 {M:EncM} (hM:M=mapE) {pr:GRef} {specs:Int} {r:Bool} (hf:r16_Is pr specs=some r):Pv.Fn Tryz.prog glF 224 [.agg (eGRef M pr),.si .i64 specs] (fun u=>u=.sb r):=by
 refine fn_dec (T:=(tabc [6,7,12,21])) (tabcOK [6,7,12,21]) rfl wf Tryz.func224 rfl Tryz.call224 rfl ?_
 intro S R hS hR
 have q:=sf hM hS
 unfold r16_Is at hf
 cbv
 refine d_cut hS [] [1,2] (fun s1=>⟨tpsL 0 40 [(1,.si .i64 s1),(2,.lv 0 0)],[(0,some (.var false (eGRef M pr)))],1⟩) hf ?_ ?_
 ·intro Ik2 k2 hk2 hf; cbv
  refine d_b hS hf ?_ ?_
  ·intro hf; cbv
   exact d_x hk2 hf
  intro hf; cbv
  exact d_x hk2 hf
 intro s1 hf; cbv
 refine d_cut hS [] [1,2,14] (fun s4=>⟨tpsL 0 40 [(1,.si .i64 s1),(2,.lv 0 0),(14,.sb s4)],[(0,some (.var false (eGRef M pr)))],1⟩) hf ?_ ?_
 ·intro Ik5 k5 hk5 hf; cbv
  refine d_b hS hf ?_ ?_
  ·intro hf; cbv
   exact d_x hk5 hf
  intro hf; cbv
  exact d_x hk5 hf
 intro s4 hf; cbv
 refine d_br hS hf rfl ?_ ?_
 ·intro hf; cbv
  cases hf; exact hR _ (lp_eq rfl)
 intro hf; cbv
 refine d_cut hS [] [2] (fun s7=>⟨tpsL 0 40 [(2,.lv 0 0)],[(0,some (.var false (eGRef M pr)))],1⟩) hf ?_ ?_
 ·intro Ik8 k8 hk8 hf; cbv
  refine d_p hS hf (fun _=>c247 hM) ?_
  intro y10 hf; cbv
  refine d_br hS hf rfl ?_ ?_
  ·intro hf; cbv
   refine d_cut hS [] [2,26] (fun s11=>⟨tpsL 0 40 [(2,.lv 0 0),(26,.sb s11)],[(0,some (.var false (eGRef M pr)))],1⟩) hf ?_ ?_
   ·intro Ik12 k12 hk12 hf; cbv
    refine d_b hS hf ?_ ?_
    ·intro hf; cbv
     exact d_x hk12 hf
    intro hf; cbv
    exact d_x hk12 hf
   intro s11 hf; cbv
   refine d_br hS hf rfl ?_ ?_
   ·intro hf; cbv
    cases hf; exact hR _ (lp_eq rfl)
   intro hf; cbv
   exact d_x hk8 hf
  intro hf; cbv
  refine d_b hS hf ?_ ?_
  ·intro hf; cbv
   cases hf; exact hR _ (lp_eq rfl)
  intro hf; cbv
  exact d_x hk8 hf
 intro s7 hf; cbv
 refine d_b hS hf ?_ ?_
 ·intro hf; cbv
  refine d_p hS hf (fun _=>c156 hM) ?_
  intro y14 hf; cbv
  cases hf; exact hR _ (lp_eq rfl)
 intro hf; cbv
 replace hf:=d_lt hf
 cases hf; exact hR _ d_l
theorem c70 {M:EncM} (hM:M=mapE) {a:GItem} {b:GItem} {r:Bool} (hf:r26_SameItem a b=some r):Pv.Fn Tryz.prog glF 70 [.agg (eGItem M a),.agg (eGItem M b)] (fun u=>u=.sb r):=by
 refine fn_dec (T:=tab) tabOK rfl wf Tryz.func70 rfl Tryz.call70 rfl ?_
 intro S R hS hR
 have q:=sf hM hS
 unfold r26_SameItem at hf
 cbv
 refine d_b hS hf ?_ ?_
 ·intro hf; cbv
  cases hf; exact hR _ (lp_eq rfl)
 intro hf; cbv
 refine d_lp hS tabOK wf [] [2,3,5] (fun s1=>⟨tpsL 0 85 [(2,.lv 0 0),(3,.lv 1 0),(5,.si .i64 s1)],[(0,some (.var false (eGItem M a))),(1,some (.var false (eGItem M b)))],2⟩) hf ?_
 intro Ik2 k2 s1 hk2 hf e he; subst he
 unfold r26_SameItem_l1 at hf
 cbv
 refine d_b hS hf ?_ ?_
 ·intro hf; cbv
  refine d_o hS ?_; cbv
  refine d_idx hS hM hf rfl rfl ?_
  intro x4 hf; cbv
  refine d_idx hS hM hf rfl rfl ?_
  intro x5 hf; cbv
  replace hf:=d_lt hf
  refine d_b hS hf ?_ ?_
  ·intro hf; cbv
   cases hf; exact hR _ (lp_eq rfl)
  intro hf; cbv
  exact d_x hk2 hf
 intro hf; cbv
 refine d_b hS hf ?_ ?_
 ·intro hf; cbv
  refine d_b hS hf ?_ ?_
  ·intro hf; cbv
   refine d_b hS hf ?_ ?_
   ·intro hf; cbv
    refine d_b hS hf ?_ ?_
    ·intro hf; cbv
     refine d_b hS hf ?_ ?_
     ·intro hf; cbv
      refine d_b hS hf ?_ ?_
      ·intro hf; cbv
       refine d_p hS hf (fun _=>c125 hM) ?_
       intro y7 hf; cbv
       refine d_br hS hf rfl ?_ ?_
       ·intro hf; cbv
        replace hf:=d_lt hf
        cases hf; exact hR _ d_l
       intro hf; cbv
       cases hf; exact hR _ (lp_eq rfl)
      intro hf; cbv
      cases hf; exact hR _ (lp_eq rfl)
     intro hf; cbv
     cases hf; exact hR _ (lp_eq rfl)
    intro hf; cbv
    cases hf; exact hR _ (lp_eq rfl)
   intro hf; cbv
   cases hf; exact hR _ (lp_eq rfl)
  intro hf; cbv
  cases hf; exact hR _ (lp_eq rfl)
 intro hf; cbv
 cases hf; exact hR _ (lp_eq rfl)
theorem c158 {M:EncM} (hM:M=mapE) {t:GTrigger} {r:Bool} (hf:r18_Is t=some r):Pv.Fn Tryz.prog glF 158 [.agg (eGTrigger M t)] (fun u=>u=.sb r):=by
 refine fn_dec (T:=(tabc [2,17])) (tabcOK [2,17]) rfl wf Tryz.func158 rfl Tryz.call158 rfl ?_
 intro S R hS hR
 have q:=sf hM hS
 unfold r18_Is at hf
 cbv
 refine d_cut hS [] [1,28] (fun s1=>⟨tpsL 0 50 [(1,.lv 0 0),(28,.sb s1)],[(0,some (.var false (eGTrigger M t)))],1⟩) hf ?_ ?_
 ·intro Ik2 k2 hk2 hf; cbv
  refine d_p hS hf (fun _=>c192 hM) ?_
  intro y4 hf; cbv
  refine d_b hS hf ?_ ?_
  ·intro hf; cbv
   exact d_x hk2 hf
  intro hf; cbv
  refine d_b hS hf ?_ ?_
  ·intro hf; cbv
   exact d_x hk2 hf
  intro hf; cbv
  refine d_b hS hf ?_ ?_
  ·intro hf; cbv
   exact d_x hk2 hf
  intro hf; cbv
  refine d_p hS hf (fun _=>c193 hM) ?_
  intro y5 hf; cbv
  refine d_b hS hf ?_ ?_
  ·intro hf; cbv
   exact d_x hk2 hf
  intro hf; cbv
  exact d_x hk2 hf
 intro s1 hf; cbv
 refine d_br hS hf rfl ?_ ?_
 ·intro hf; cbv
  cases hf; exact hR _ (lp_eq rfl)
 intro hf; cbv
 refine d_p hS hf (fun _=>c194 hM) ?_
 intro y6 hf; cbv
 refine d_b hS hf ?_ ?_
 ·intro hf; cbv
  replace hf:=d_lt hf
  cases hf; exact hR _ d_l
 intro hf; cbv
 refine d_cut hS [] [1,3] (fun s8=>⟨tpsL 0 50 [(1,.lv 0 0),(3,.si .i64 s8)],[(0,some (.var false (eGTrigger M t)))],1⟩) hf ?_ ?_
 ·intro Ik9 k9 hk9 hf; cbv
  refine d_b hS hf ?_ ?_
  ·intro hf; cbv
   exact d_x hk9 hf
  intro hf; cbv
  exact d_x hk9 hf
 intro s8 hf; cbv
 refine d_p hS hf (fun _=>c156 hM) ?_
 intro y11 hf; cbv
 refine d_br hS hf rfl ?_ ?_
 ·intro hf; cbv
  cases hf; exact hR _ d_l
 intro hf; cbv
 cases hf; exact hR _ (lp_eq rfl)
theorem c38 {M:EncM} (hM:M=mapE) {p:Arr6 Int} {c:GCost} {r:Int} (hf:cost_MostX p c=some r):Pv.Fn Tryz.prog glF 38 [.agg [.si .i64 p.a0,.si .i64 p.a1,.si .i64 p.a2,.si .i64 p.a3,.si .i64 p.a4,.si .i64 p.a5],.agg (eGCost M c)] (fun u=>u=.si .i64 r):=by
 refine fn_dec (T:=(tabc [14])) (tabcOK [14]) rfl wf Tryz.func38 rfl Tryz.call38 rfl ?_
 intro S R hS hR
 have q:=sf hM hS
 unfold cost_MostX at hf
 cbv
 refine d_callL hS hf (fun _=>c91 hM) (le_eq rfl) (fun _=>rfl) ?_
 intro y1 hf; cbv
 refine d_b hS hf ?_ ?_
 ·intro hf; cbv
  cases hf; exact hR _ (lp_eq rfl)
 intro hf; cbv
 refine d_b hS hf ?_ ?_
 ·intro hf; cbv
  cases hf; exact hR _ (lp_eq rfl)
 intro hf; cbv
 refine d_lp hS (tabcOK [14]) wf [] [5,6,7] (fun s2=>⟨tpsL 0 32 [(5,.fn 91 [.lv 0 0,.lv 1 0]),(6,.si .i64 s2.1),(7,.si .i64 s2.2)],[(0,some (.var false [.si .i64 p.a0,.si .i64 p.a1,.si .i64 p.a2,.si .i64 p.a3,.si .i64 p.a4,.si .i64 p.a5])),(1,some (.var false (eGCost M c)))],2⟩) hf ?_
 intro Ik3 k3 s2 hk3 hf e he; subst he
 unfold cost_MostX_l1 at hf
 cbv
 refine l_seq hS ?_; cbv
 refine d_b hS hf ?_ ?_
 ·intro hf; cbv
  refine d_div hS hf d_e rfl ?_
  intro x5 hf; cbv
  refine d_callL hS hf (fun _=>c91 hM) d_le (fun _=>rfl) ?_
  intro y6 hf; cbv
  refine d_br hS hf rfl ?_ ?_
  ·intro hf; cbv
   exact d_x hk3 hf
  intro hf; cbv
  exact d_x hk3 hf
 intro hf; cbv
 cases hf; exact hR _ (lp_eq rfl)
theorem c31 {M:EncM} (hM:M=mapE) {s:GState} {r:Int × (List Int)} (hf:turn_next s=some r):Pv.Fn Tryz.prog glF 31 [.agg (eGState M s)] (fun u=>u=.tup [.si .i64 r.1,.sl 1 (M.m Int (eI .i64) r.2) false]):=by
 refine fn_dec (T:=tab) tabOK rfl wf Tryz.func31 rfl Tryz.call31 rfl ?_
 intro S R hS hR
 have q:=sf hM hS
 unfold turn_next at hf
 cbv
 refine d_p hS hf (fun _=>c83 hM) ?_
 intro y1 hf; cbv
 refine d_lp hS tabOK wf [] [1,4,5] (fun s2=>⟨tpsL 0 42 [(1,.lv 0 0),(4,.sl 1 (M.m Int (eI .i64) y1) false),(5,.si .i64 s2)],[(0,some (.var false (eGState M s)))],1⟩) hf ?_
 intro Ik3 k3 s2 hk3 hf e he; subst he
 unfold turn_next_l1 at hf
 cbv
 refine d_b hS hf ?_ ?_
 ·intro hf; cbv
  refine d_idx hS hM hf rfl rfl ?_
  intro x5 hf; cbv
  refine d_p hS hf (fun _=>c84 hM) ?_
  intro y6 hf; cbv
  refine d_br hS hf rfl ?_ ?_
  ·intro hf; cbv
   refine d_o hS ?_; cbv
   refine d_idx hS hM hf rfl rfl ?_
   intro x7 hf; cbv
   refine d_slc hS hf d_e rfl rfl ?_
   intro x8 bx8 hf; cbv
   cases hf; exact hR _ d_l
  intro hf; cbv
  exact d_x hk3 hf
 intro hf; cbv
 refine d_p hS hf (fun _=>c85 hM) ?_
 intro y9 hf; cbv
 refine d_b hS hf ?_ ?_
 ·intro hf; cbv
  cases hf; exact hR _ (by (try simp only [q]); repeat' constructor)
 intro hf; cbv
 cases hf; exact hR _ (by (try simp only [q]); repeat' constructor)
theorem c198 {M:EncM} (hM:M=mapE) {s:GSpec} {r:Bool} (hf:r20_spec s=some r):Pv.Fn Tryz.prog glF 198 [.agg (eGSpec M s)] (fun u=>u=.sb r):=by
 refine fn_dec (T:=(tabc [4])) (tabcOK [4]) rfl wf Tryz.func198 rfl Tryz.call198 rfl ?_
 intro S R hS hR
 have q:=sf hM hS
 unfold r20_spec at hf
 cbv
 refine d_b hS hf ?_ ?_
 ·intro hf; cbv
  refine d_cut hS [] [2] (fun s1=>⟨tpsL 0 33 [(2,.sb s1)],[],0⟩) hf ?_ ?_
  ·intro Ik2 k2 hk2 hf; cbv
   refine d_br hS hf rfl ?_ ?_
   ·intro hf; cbv
    replace hf:=d_lt hf
    exact d_x hk2 hf
   intro hf; cbv
   exact d_x hk2 hf
  intro s1 hf; cbv
  cases hf; exact hR _ (lp_eq rfl)
 intro hf; cbv
 refine d_p hS hf (fun _=>c156 hM) ?_
 intro y5 hf; cbv
 refine d_br hS hf rfl ?_ ?_
 ·intro hf; cbv
  refine d_b hS hf ?_ ?_
  ·intro hf; cbv
   cases hf; exact hR _ (lp_eq rfl)
  intro hf; cbv
  refine d_b hS hf ?_ ?_
  ·intro hf; cbv
   cases hf; exact hR _ (lp_eq rfl)
  intro hf; cbv
  cases hf; exact hR _ d_l
 intro hf; cbv
 cases hf; exact hR _ (lp_eq rfl)
theorem c229 {M:EncM} (hM:M=mapE) {op:Int} {f:GFilter} {r:Bool} (hf:r17_filter op f=some r):Pv.Fn Tryz.prog glF 229 [.si .i64 op,.agg (eGFilter M f)] (fun u=>u=.sb r):=by
 refine fn_dec (T:=(tabc [9])) (tabcOK [9]) rfl wf Tryz.func229 rfl Tryz.call229 rfl ?_
 intro S R hS hR
 have q:=sf hM hS
 unfold r17_filter at hf
 cbv
 refine d_cut hS [] [3,5] (fun s1=>⟨tpsL 0 16 [(3,.lv 0 0),(5,.si .i64 s1)],[(0,some (.var false (eGFilter M f)))],1⟩) hf ?_ ?_
 ·intro Ik2 k2 hk2 hf; cbv
  refine d_b hS hf ?_ ?_
  ·intro hf; cbv
   exact d_x hk2 hf
  intro hf; cbv
  exact d_x hk2 hf
 intro s1 hf; cbv
 refine d_p hS hf (fun _=>c156 hM) ?_
 intro y4 hf; cbv
 refine d_br hS hf rfl ?_ ?_
 ·intro hf; cbv
  cases hf; exact hR _ d_l
 intro hf; cbv
 cases hf; exact hR _ (lp_eq rfl)
theorem c71 {M:EncM} (hM:M=mapE) {a:GWaiting} {b:GWaiting} {r:Bool} (hf:r26_SameWaiting a b=some r):Pv.Fn Tryz.prog glF 71 [.agg (eGWaiting M a),.agg (eGWaiting M b)] (fun u=>u=.sb r):=by
 refine fn_dec (T:=tab) tabOK rfl wf Tryz.func71 rfl Tryz.call71 rfl ?_
 intro S R hS hR
 have q:=sf hM hS
 unfold r26_SameWaiting at hf
 cbv
 refine d_b hS hf ?_ ?_
 ·intro hf; cbv
  refine d_b hS hf ?_ ?_
  ·intro hf; cbv
   refine d_p hS hf (fun _=>c125 hM) ?_
   intro y1 hf; cbv
   refine d_br hS hf rfl ?_ ?_
   ·intro hf; cbv
    replace hf:=d_lt hf
    cases hf; exact hR _ d_l
   intro hf; cbv
   cases hf; exact hR _ (lp_eq rfl)
  intro hf; cbv
  cases hf; exact hR _ (lp_eq rfl)
 intro hf; cbv
 cases hf; exact hR _ (lp_eq rfl)
theorem c197 {M:EncM} (hM:M=mapE) {f:GFilter} {r:Bool} (hf:r19_field f=some r):Pv.Fn Tryz.prog glF 197 [.agg (eGFilter M f)] (fun u=>u=.sb r):=by
 refine fn_dec (T:=tab) tabOK rfl wf Tryz.func197 rfl Tryz.call197 rfl ?_
 intro S R hS hR
 have q:=sf hM hS
 unfold r19_field at hf
 cbv
 refine d_p hS hf (fun _=>c156 hM) ?_
 intro y1 hf; cbv
 refine d_br hS hf rfl ?_ ?_
 ·intro hf; cbv
  cases hf; exact hR _ d_l
 intro hf; cbv
 cases hf; exact hR _ (lp_eq rfl)
end Go.Proofs.YtddcpnlflncahaaGreat
