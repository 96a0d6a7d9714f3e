import Derived.Test.YtddcpnlflncahaaGreatC21
set_option linter.all false
namespace Go.Proofs.YtddcpnlflncahaaGreat
open Go Go.Pv
set_option maxRecDepth 100000
set_option maxHeartbeats 2000000
theorem c199 {M:EncM} (hM:M=mapE) {pe:GEffect} {specs:Int} {r:Bool} (hf:r17_Is pe specs=some r):Pv.Fn Tryz.prog glF 199 [.agg (eGEffect M pe),.si .i64 specs] (fun u=>u=.sb r):=by
 refine fn_dec (T:=(tabc [12,13,14,23,29,35,41,47])) (tabcOK [12,13,14,23,29,35,41,47]) rfl wf Tryz.func199 rfl Tryz.call199 rfl ?_
 intro S R hS hR
 have q:=sf hM hS
 unfold r17_Is at hf
 cbv
 refine d_p hS hf (fun _=>c222 hM) ?_
 intro y1 hf; cbv
 refine d_b hS hf ?_ ?_
 ·intro hf; cbv
  cases hf; exact hR _ (lp_eq rfl)
 intro hf; cbv
 replace hf:=d_lt hf
 refine d_cut hS [] [2,5] (fun s3=>⟨tpsL 0 138 [(2,.lv 0 0),(5,.sb s3)],[(0,some (.var false (eGEffect M pe)))],1⟩) hf ?_ ?_
 ·intro Ik4 k4 hk4 hf; cbv
  refine d_p hS hf (fun _=>c223 hM) ?_
  intro y6 hf; cbv
  refine d_br hS hf rfl ?_ ?_
  ·intro hf; cbv
   refine d_p hS hf (fun _=>c224 hM) ?_
   intro y7 hf; cbv
   exact d_x hk4 hf
  intro hf; cbv
  exact d_x hk4 hf
 intro s3 hf; cbv
 refine d_cut hS [] [2,5,6] (fun s8=>⟨tpsL 0 138 [(2,.lv 0 0),(5,.sb s3),(6,.sb s8)],[(0,some (.var false (eGEffect M pe)))],1⟩) hf ?_ ?_
 ·intro Ik9 k9 hk9 hf; cbv
  refine d_b hS hf ?_ ?_
  ·intro hf; cbv
   exact d_x hk9 hf
  intro hf; cbv
  refine d_p hS hf (fun _=>c223 hM) ?_
  intro y11 hf; cbv
  refine d_br hS hf rfl ?_ ?_
  ·intro hf; cbv
   refine d_b hS hf ?_ ?_
   ·intro hf; cbv
    exact d_x hk9 hf
   intro hf; cbv
   exact d_x hk9 hf
  intro hf; cbv
  exact d_x hk9 hf
 intro s8 hf; cbv
 refine d_cut hS [] [2,5,6,7] (fun s12=>⟨tpsL 0 138 [(2,.lv 0 0),(5,.sb s3),(6,.sb s8),(7,.sb s12)],[(0,some (.var false (eGEffect M pe)))],1⟩) hf ?_ ?_
 ·intro Ik13 k13 hk13 hf; cbv
  refine d_b hS hf ?_ ?_
  ·intro hf; cbv
   exact d_x hk13 hf
  intro hf; cbv
  refine d_p hS hf (fun _=>c223 hM) ?_
  intro y15 hf; cbv
  refine d_br hS hf rfl ?_ ?_
  ·intro hf; cbv
   refine d_p hS hf (fun _=>c225 hM) ?_
   intro y16 hf; cbv
   exact d_x hk13 hf
  intro hf; cbv
  exact d_x hk13 hf
 intro s12 hf; cbv
 refine d_cut hS [] [2,5,6,7,8] (fun s17=>⟨tpsL 0 138 [(2,.lv 0 0),(5,.sb s3),(6,.sb s8),(7,.sb s12),(8,.sb s17)],[(0,some (.var false (eGEffect M pe)))],1⟩) hf ?_ ?_
 ·intro Ik18 k18 hk18 hf; cbv
  refine d_p hS hf (fun _=>c223 hM) ?_
  intro y20 hf; cbv
  refine d_br hS hf rfl ?_ ?_
  ·intro hf; cbv
   refine d_p hS hf (fun _=>c112 hM) ?_
   intro y21 hf; cbv
   exact d_x hk18 hf
  intro hf; cbv
  exact d_x hk18 hf
 intro s17 hf; cbv
 replace hf:=d_lt hf
 refine d_cut hS [] [2,5,6,7,8,9] (fun s23=>⟨tpsL 0 138 [(2,.lv 0 0),(5,.sb s3),(6,.sb s8),(7,.sb s12),(8,.sb s17),(9,.sb s23)],[(0,some (.var false (eGEffect M pe)))],1⟩) hf ?_ ?_
 ·intro Ik24 k24 hk24 hf; cbv
  refine d_p hS hf (fun _=>c223 hM) ?_
  intro y26 hf; cbv
  refine d_br hS hf rfl ?_ ?_
  ·intro hf; cbv
   refine d_p hS hf (fun _=>c226 hM) ?_
   intro y27 hf; cbv
   exact d_x hk24 hf
  intro hf; cbv
  exact d_x hk24 hf
 intro s23 hf; cbv
 refine d_cut hS [] [2,5,6,7,8,9,10] (fun s28=>⟨tpsL 0 138 [(2,.lv 0 0),(5,.sb s3),(6,.sb s8),(7,.sb s12),(8,.sb s17),(9,.sb s23),(10,.sb s28)],[(0,some (.var false (eGEffect M pe)))],1⟩) hf ?_ ?_
 ·intro Ik29 k29 hk29 hf; cbv
  refine d_p hS hf (fun _=>c223 hM) ?_
  intro y31 hf; cbv
  refine d_br hS hf rfl ?_ ?_
  ·intro hf; cbv
   refine d_p hS hf (fun _=>c227 hM) ?_
   intro y32 hf; cbv
   exact d_x hk29 hf
  intro hf; cbv
  exact d_x hk29 hf
 intro s28 hf; cbv
 replace hf:=d_lt hf
 refine d_cut hS [] [2,5,6,7,8,9,10,11] (fun s34=>⟨tpsL 0 138 [(2,.lv 0 0),(5,.sb s3),(6,.sb s8),(7,.sb s12),(8,.sb s17),(9,.sb s23),(10,.sb s28),(11,.sb s34)],[(0,some (.var false (eGEffect M pe)))],1⟩) hf ?_ ?_
 ·intro Ik35 k35 hk35 hf; cbv
  refine d_p hS hf (fun _=>c223 hM) ?_
  intro y37 hf; cbv
  refine d_br hS hf rfl ?_ ?_
  ·intro hf; cbv
   refine d_b hS hf ?_ ?_
   ·intro hf; cbv
    refine d_p hS hf (fun _=>c228 hM) ?_
    intro y38 hf; cbv
    exact d_x hk35 hf
   intro hf; cbv
   exact d_x hk35 hf
  intro hf; cbv
  exact d_x hk35 hf
 intro s34 hf; cbv
 replace hf:=d_lt hf
 refine d_cut hS [] [5,6,7,8,9,10,11,12] (fun s40=>⟨tpsL 0 138 [(5,.sb s3),(6,.sb s8),(7,.sb s12),(8,.sb s17),(9,.sb s23),(10,.sb s28),(11,.sb s34),(12,.sb s40)],[],0⟩) hf ?_ ?_
 ·intro Ik41 k41 hk41 hf; cbv
  refine d_p hS hf (fun _=>c223 hM) ?_
  intro y43 hf; cbv
  refine d_br hS hf rfl ?_ ?_
  ·intro hf; cbv
   refine d_p hS hf (fun _=>c229 hM) ?_
   intro y44 hf; cbv
   exact d_x hk41 hf
  intro hf; cbv
  exact d_x hk41 hf
 intro s40 hf; cbv
 refine d_br hS hf rfl ?_ ?_
 ·intro hf; cbv
  refine d_br hS hf rfl ?_ ?_
  ·intro hf; cbv
   refine d_br hS hf rfl ?_ ?_
   ·intro hf; cbv
    refine d_br hS hf rfl ?_ ?_
    ·intro hf; cbv
     refine d_br hS hf rfl ?_ ?_
     ·intro hf; cbv
      refine d_br hS hf rfl ?_ ?_
      ·intro hf; cbv
       refine d_br hS hf rfl ?_ ?_
       ·intro hf; cbv
        cases hf; exact hR _ (lp_eq rfl)
       intro hf; cbv
       cases hf; exact hR _ (lp_eq rfl)
      intro hf; cbv
      cases hf; exact hR _ (lp_eq rfl)
     intro hf; cbv
     cases hf; exact hR _ (lp_eq rfl)
    intro hf; cbv
    cases hf; exact hR _ (lp_eq rfl)
   intro hf; cbv
   cases hf; exact hR _ (lp_eq rfl)
  intro hf; cbv
  cases hf; exact hR _ (lp_eq rfl)
 intro hf; cbv
 cases hf; exact hR _ (lp_eq rfl)
end Go.Proofs.YtddcpnlflncahaaGreat
