import Derived.Test.YtddcpnlflncahaaGreatC22
set_option linter.all false
namespace Go.Proofs.YtddcpnlflncahaaGreat
open Go Go.Pv
set_option maxRecDepth 100000
set_option maxHeartbeats 2000000
theorem c161 {M:EncM} (hM:M=mapE) {l:List GEffect} {n:Int} {r:Bool} (hf:r20_effects l n=some r):Pv.Fn Tryz.prog glF 161 [.sl 64 (M.m GEffect (eGEffect M) l) false,.si .i64 n] (fun u=>u=.sb r):=by
 refine fn_dec (T:=tab) tabOK rfl wf Tryz.func161 rfl Tryz.call161 rfl ?_
 intro S R hS hR
 have q:=sf hM hS
 unfold r20_effects at hf
 cbv
 refine d_lp hS tabOK wf [] [0,1,5] (fun s1=>⟨tpsL 0 27 [(0,.sl 64 (M.m GEffect (eGEffect M) l) false),(1,.si .i64 n),(5,.si .i64 s1)],[],0⟩) hf ?_
 intro Ik2 k2 s1 hk2 hf e he; subst he
 unfold r20_effects_l1 at hf
 cbv
 refine d_b hS hf ?_ ?_
 ·intro hf; cbv
  refine d_idx hS hM hf rfl rfl ?_
  intro x4 hf; cbv
  refine d_p hS hf (fun _=>c199 hM) ?_
  intro y5 hf; cbv
  refine d_b hS hf ?_ ?_
  ·intro hf; cbv
   cases hf; exact hR _ (lp_eq rfl)
  intro hf; cbv
  exact d_x hk2 hf
 intro hf; cbv
 refine d_b hS hf ?_ ?_
 ·intro hf; cbv
  cases hf; exact hR _ d_l
 intro hf; cbv
 cases hf; exact hR _ (lp_eq rfl)
end Go.Proofs.YtddcpnlflncahaaGreat
