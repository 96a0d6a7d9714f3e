import Derived.Test.YtlacmdnhabblcaaGreatX15
set_option linter.all false
namespace Go.Proofs.YtlacmdnhabblcaaGreat
open Go Go.Pv
set_option maxRecDepth 100000
set_option maxHeartbeats 2000000
theorem c8 {M:EncM} (hM:M=mapE) {s:GState} {t:GTraits} {n:Int} {r:Bool} (hf:law47_CombatLethal s t n=some r):Pv.Fn Tryz.prog glF 8 [.agg (eGState M s),.agg (eGTraits M t),.si .i64 n] (fun u=>u=.sb r):=by
 refine fn_dec (T:=(tabc [12])) (tabcOK [12]) rfl wf Tryz.func8 rfl Tryz.call8 rfl ?_
 intro S R hS hR
 have q:=sf hM hS
 unfold law47_CombatLethal at hf
 cbv
 refine d_p hS hf (fun _=>c29 hM) ?_
 intro y1 hf; cbv
 refine d_b hS hf ?_ ?_
 ·intro hf; cbv
  refine d_p hS hf (fun _=>c26 hM) ?_
  intro y2 hf; cbv
  cases hf; exact hR _ (lp_eq rfl)
 intro hf; cbv
 refine d_lp hS (tabcOK [12]) wf [] [2,3,4,14,15,16] (fun s3=>⟨tpsL 0 54 [(2,.si .i64 n),(3,.lv 0 0),(4,.lv 1 0),(14,.sl 19 (M.m GObject (eGObject M) s.objects) false),(15,.si .i64 (S.len (M.m GObject (eGObject M) s.objects))),(16,.si .i64 s3)],[(0,some (.var false (eGState M s))),(1,some (.var false (eGTraits M t)))],2⟩) hf ?_
 intro Ik4 k4 s3 hk4 hf e he; subst he
 unfold law47_CombatLethal_l1 at hf
 cbv
 refine d_b hS hf ?_ ?_
 ·intro hf; cbv
  refine d_idx hS hM hf rfl rfl ?_
  intro x6 hf; cbv
  refine d_cut hS [] [2,3,4,8,14,15,16,32] (fun s7=>⟨tpsL 0 54 [(2,.si .i64 n),(3,.lv 0 0),(4,.lv 1 0),(8,.lv 2 0),(14,.sl 19 (M.m GObject (eGObject M) s.objects) false),(15,.si .i64 (S.len (M.m GObject (eGObject M) s.objects))),(16,.si .i64 s3),(32,.sb s7)],[(0,some (.var false (eGState M s))),(1,some (.var false (eGTraits M t))),(2,some (.var false (eGObject M x6)))],3⟩) hf ?_ ?_
  ·intro Ik8 k8 hk8 hf; cbv
   refine d_o hS ?_; cbv
   refine d_c hS hf (fun _=>c30 hM) ?_
   intro y10 hf; cbv
   refine d_b hS hf ?_ ?_
   ·intro hf; cbv
    exact d_x hk8 hf
   intro hf; cbv
   refine d_c hS hf (fun _=>c30 hM) ?_
   intro y11 hf; cbv
   refine d_c hS hf (fun _=>c31 hM) ?_
   intro y12 hf; cbv
   exact d_x hk8 hf
  intro s7 hf; cbv
  refine d_br hS hf rfl ?_ ?_
  ·intro hf; cbv
   cases hf; exact hR _ (lp_eq rfl)
  intro hf; cbv
  refine d_o hS ?_; cbv
  refine d_c hS hf (fun _=>c33 hM) ?_
  intro y13 hf; cbv
  refine d_c hS hf (fun _=>c34 hM) ?_
  intro y14 hf; cbv
  refine d_c hS hf (fun _=>c32 hM) ?_
  intro y15 hf; cbv
  refine d_b hS hf ?_ ?_
  ·intro hf; cbv
   cases hf; exact hR _ (lp_eq rfl)
  intro hf; cbv
  exact d_x hk4 hf
 intro hf; cbv
 refine d_o hS ?_; cbv
 refine d_c hS hf (fun _=>c33 hM) ?_
 intro y16 hf; cbv
 refine d_c hS hf (fun _=>c34 hM) ?_
 intro y17 hf; cbv
 refine d_c hS hf (fun _=>c32 hM) ?_
 intro y18 hf; cbv
 refine d_br hS hf rfl ?_ ?_
 ·intro hf; cbv
  refine d_c hS hf (fun _=>c26 hM) ?_
  intro y19 hf; cbv
  cases hf; exact hR _ (lp_eq rfl)
 intro hf; cbv
 cases hf; exact hR _ (lp_eq rfl)
end Go.Proofs.YtlacmdnhabblcaaGreat
