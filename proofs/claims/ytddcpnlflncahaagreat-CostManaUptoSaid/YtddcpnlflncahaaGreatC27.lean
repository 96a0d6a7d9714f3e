import Derived.Test.YtddcpnlflncahaaGreatC26
set_option linter.all false
namespace Go.Proofs.YtddcpnlflncahaaGreat
open Go Go.Pv
set_option maxRecDepth 100000
set_option maxHeartbeats 2000000
theorem c24 {M:EncM} (hM:M=mapE) {cards:List GCard} {s:GState} {r:Bool} (hf:r26_Is cards s=some r):Pv.Fn Tryz.prog glF 24 [.sl 17 (M.m GCard (eGCard M) cards) false,.agg (eGState M s)] (fun u=>u=.sb r):=by
 refine fn_dec (T:=(tabc [2,6,20])) (tabcOK [2,6,20]) rfl wf Tryz.func24 rfl Tryz.call24 rfl ?_
 intro S R hS hR
 have q:=sf hM hS
 unfold r26_Is at hf
 cbv
 refine d_cut hS [] [0,3,33] (fun s1=>⟨tpsL 0 114 [(0,.sl 17 (M.m GCard (eGCard M) cards) false),(3,.lv 0 0),(33,.sb s1)],[(0,some (.var false (eGState M s)))],1⟩) hf ?_ ?_
 ·intro Ik2 k2 hk2 hf; cbv
  refine d_p hS hf (fun _=>c64 hM) ?_
  intro y4 hf; cbv
  refine d_b hS hf ?_ ?_
  ·intro hf; cbv
   exact d_x hk2 hf
  intro hf; cbv
  refine d_p hS hf (fun _=>c64 hM) ?_
  intro y5 hf; cbv
  refine d_b hS hf ?_ ?_
  ·intro hf; cbv
   exact d_x hk2 hf
  intro hf; cbv
  refine d_p hS hf (fun _=>c64 hM) ?_
  intro y6 hf; cbv
  refine d_b hS hf ?_ ?_
  ·intro hf; cbv
   exact d_x hk2 hf
  intro hf; cbv
  refine d_p hS hf (fun _=>c64 hM) ?_
  intro y7 hf; cbv
  refine d_b hS hf ?_ ?_
  ·intro hf; cbv
   exact d_x hk2 hf
  intro hf; cbv
  exact d_x hk2 hf
 intro s1 hf; cbv
 refine d_br hS hf rfl ?_ ?_
 ·intro hf; cbv
  cases hf; exact hR _ (lp_eq rfl)
 intro hf; cbv
 refine d_cut hS [] [0,3,71] (fun s8=>⟨tpsL 0 114 [(0,.sl 17 (M.m GCard (eGCard M) cards) false),(3,.lv 0 0),(71,.sb s8)],[(0,some (.var false (eGState M s)))],1⟩) hf ?_ ?_
 ·intro Ik9 k9 hk9 hf; cbv
  refine d_p hS hf (fun _=>c65 hM) ?_
  intro y11 hf; cbv
  refine d_b hS hf ?_ ?_
  ·intro hf; cbv
   exact d_x hk9 hf
  intro hf; cbv
  refine d_p hS hf (fun _=>c66 hM) ?_
  intro y12 hf; cbv
  refine d_b hS hf ?_ ?_
  ·intro hf; cbv
   exact d_x hk9 hf
  intro hf; cbv
  refine d_p hS hf (fun _=>c66 hM) ?_
  intro y13 hf; cbv
  refine d_b hS hf ?_ ?_
  ·intro hf; cbv
   exact d_x hk9 hf
  intro hf; cbv
  refine d_callp hS hf (fun _=>c64 hM) d_le ?_
  intro y14 hf; cbv
  refine d_b hS hf ?_ ?_
  ·intro hf; cbv
   exact d_x hk9 hf
  intro hf; cbv
  refine d_b hS hf ?_ ?_
  ·intro hf; cbv
   exact d_x hk9 hf
  intro hf; cbv
  refine d_p hS hf (fun _=>c64 hM) ?_
  intro y15 hf; cbv
  exact d_x hk9 hf
 intro s8 hf; cbv
 refine d_br hS hf rfl ?_ ?_
 ·intro hf; cbv
  cases hf; exact hR _ (lp_eq rfl)
 intro hf; cbv
 refine d_lp hS (tabcOK [2,6,20]) wf [] [0,3,5] (fun s16=>⟨tpsL 0 114 [(0,.sl 17 (M.m GCard (eGCard M) cards) false),(3,.lv 0 0),(5,.si .i64 s16)],[(0,some (.var false (eGState M s)))],1⟩) hf ?_
 intro Ik17 k17 s16 hk17 hf e he; subst he
 unfold r26_Is_l1 at hf
 cbv
 refine d_b hS hf ?_ ?_
 ·intro hf; cbv
  refine d_o hS ?_; cbv
  refine d_idx hS hM hf rfl rfl ?_
  intro x19 hf; cbv
  refine d_c hS hf (fun _=>c66 hM) ?_
  intro y20 hf; cbv
  refine d_b hS hf ?_ ?_
  ·intro hf; cbv
   cases hf; exact hR _ (lp_eq rfl)
  intro hf; cbv
  exact d_x hk17 hf
 intro hf; cbv
 refine d_cut hS [] [0,3,106] (fun s21=>⟨tpsL 0 114 [(0,.sl 17 (M.m GCard (eGCard M) cards) false),(3,.lv 0 0),(106,.sb s21)],[(0,some (.var false (eGState M s)))],1⟩) hf ?_ ?_
 ·intro Ik22 k22 hk22 hf; cbv
  refine d_b hS hf ?_ ?_
  ·intro hf; cbv
   refine d_p hS hf (fun _=>c66 hM) ?_
   intro y24 hf; cbv
   refine d_b hS hf ?_ ?_
   ·intro hf; cbv
    exact d_x hk22 hf
   intro hf; cbv
   refine d_b hS hf ?_ ?_
   ·intro hf; cbv
    exact d_x hk22 hf
   intro hf; cbv
   exact d_x hk22 hf
  intro hf; cbv
  refine d_b hS hf ?_ ?_
  ·intro hf; cbv
   exact d_x hk22 hf
  intro hf; cbv
  exact d_x hk22 hf
 intro s21 hf; cbv
 refine d_br hS hf rfl ?_ ?_
 ·intro hf; cbv
  cases hf; exact hR _ (lp_eq rfl)
 intro hf; cbv
 refine d_p hS hf (fun _=>c67 hM) ?_
 intro y25 hf; cbv
 refine d_br hS hf rfl ?_ ?_
 ·intro hf; cbv
  refine d_p hS hf (fun _=>c68 hM) ?_
  intro y26 hf; cbv
  cases hf; exact hR _ (lp_eq rfl)
 intro hf; cbv
 cases hf; exact hR _ (lp_eq rfl)
end Go.Proofs.YtddcpnlflncahaaGreat
