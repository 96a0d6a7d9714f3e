import Derived.Test.YtddcpnlflncahaaGreatC20
set_option linter.all false
namespace Go.Proofs.YtddcpnlflncahaaGreat
open Go Go.Pv
set_option maxRecDepth 100000
set_option maxHeartbeats 2000000
theorem c14 {M:EncM} (hM:M=mapE)  {r:Bool} (hf:law39_alive =some r):Pv.Fn Tryz.prog glF 14 [] (fun u=>u=.sb r):=by
 refine fn_dec (T:=(tabc [4])) (tabcOK [4]) rfl wf Tryz.func14 rfl Tryz.call14 rfl ?_
 intro S R hS hR
 have q:=sf hM hS
 unfold law39_alive at hf
 cbv
 refine d_callo hS hf (fun _=>o37 hM) (le_eq rfl) ?_
 intro y1 hf; cbv
 refine l_seqC hS [.cF 1 0] ?_; cbv
 refine d_ix hS hf d_e rfl ?_
 intro j2 _ hf; cbv
 refine d_wk hS (e:=(eArr6 (eI .i64))) hf (by (try simp only [q]); repeat' constructor) ?_
 intro x3 hf; cbv
 refine d_row hS hM hf rfl d_e ?_
 intro x4 hf; cbv
 refine d_o hS ?_; cbv
 refine d_callm hS [.cF 0 0] hf (fun _=>o15 hM) (by (try simp only [q]); repeat' constructor) (fun _=>(by (conv=>lhs; cbv) <;> (try simp only [q]) <;> (try rfl))) ?_
 intro y5 hf; cbv
 refine d_callw hS hf (fun _=>s17 hM) d_st d_st rfl rfl ?_
 intro y6 hf; cbv
 refine d_o hS ?_; cbv
 refine d_callm hS [.cF 0 0] hf (fun _=>o15 hM) (by (try simp only [q]); repeat' constructor) (fun _=>(by (conv=>lhs; cbv) <;> (try simp only [q]) <;> (try rfl))) ?_
 intro y7 hf; cbv
 refine d_callw hS hf (fun _=>s17 hM) d_st d_st rfl rfl ?_
 intro y8 hf; cbv
 refine d_o hS ?_; cbv
 refine d_wk hS (e:=(eI .i64)) hf (by (try simp only [q]); repeat' constructor) ?_
 intro x9 hf; cbv
 refine d_callm hS [.cF 0 0] hf (fun _=>o15 hM) (by (try simp only [eL,eI,eB,eS,q]); repeat' constructor) (fun _=>(by (conv=>lhs; cbv) <;> (try simp only [q]) <;> (try rfl))) ?_
 intro y10 hf; cbv
 refine d_callw hS hf (fun _=>s17 hM) d_st d_st rfl rfl ?_
 intro y11 hf; cbv
 refine d_p hS hf (fun _=>c38 hM) ?_
 intro y12 hf; cbv
 refine d_b hS hf ?_ ?_
 ·intro hf; cbv
  refine d_p hS hf (fun _=>c38 hM) ?_
  intro y13 hf; cbv
  refine d_b hS hf ?_ ?_
  ·intro hf; cbv
   refine d_p hS hf (fun _=>c38 hM) ?_
   intro y14 hf; cbv
   refine d_b hS hf ?_ ?_
   ·intro hf; cbv
    refine d_br hS hf rfl ?_ ?_
    ·intro hf; cbv
     refine d_b hS hf ?_ ?_
     ·intro hf; cbv
      refine d_ix hS hf d_e rfl ?_
      intro j15 _ hf; cbv
      refine d_row hS hM hf rfl d_e ?_
      intro x16 hf; cbv
      replace hf:=d_lt hf
      refine d_b hS hf ?_ ?_
      ·intro hf; cbv
       refine d_b hS hf ?_ ?_
       ·intro hf; cbv
        refine d_br hS hf rfl ?_ ?_
        ·intro hf; cbv
         cases hf; exact hR _ d_l
        intro hf; cbv
        cases hf; exact hR _ (lp_eq rfl)
       intro hf; cbv
       cases hf; exact hR _ (lp_eq rfl)
      intro hf; cbv
      cases hf; exact hR _ (lp_eq rfl)
     intro hf; cbv
     cases hf; exact hR _ (lp_eq rfl)
    intro hf; cbv
    cases hf; exact hR _ (lp_eq rfl)
   intro hf; cbv
   cases hf; exact hR _ (lp_eq rfl)
  intro hf; cbv
  cases hf; exact hR _ (lp_eq rfl)
 intro hf; cbv
 cases hf; exact hR _ (lp_eq rfl)
theorem c227 {M:EncM} (hM:M=mapE) {l:List GMod} {r:Bool} (hf:r17_mods l=some r):Pv.Fn Tryz.prog glF 227 [.sl 20 (M.m GMod (eGMod M) l) false] (fun u=>u=.sb r):=by
 refine fn_dec (T:=tab) tabOK rfl wf Tryz.func227 rfl Tryz.call227 rfl ?_
 intro S R hS hR
 have q:=sf hM hS
 unfold r17_mods at hf
 cbv
 refine d_p hS hf (fun _=>c124 hM) ?_
 intro y1 hf; cbv
 cases hf; exact hR _ d_l
end Go.Proofs.YtddcpnlflncahaaGreat
