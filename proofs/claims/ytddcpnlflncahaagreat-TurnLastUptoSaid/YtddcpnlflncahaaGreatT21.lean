import Derived.Test.YtddcpnlflncahaaGreatT20
set_option linter.all false
namespace Go.Proofs.YtddcpnlflncahaaGreat
open Go Go.Pv
set_option maxRecDepth 100000
set_option maxHeartbeats 2000000
theorem c227 {M:EncM} (hM:M=mapE) {l:List GMod} {r:Bool} (hf:r17_mods l=some r):Pv.Fn Tryz.prog glF 227 [.sl 20 (M.m GMod (eGMod M) l) false] (fun u=>u=.sb r):=by
 refine fn_dec (T:=tab) tabOK rfl wf Tryz.func227 rfl Tryz.call227 rfl ?_
 intro S R hS hR
 have q:=sf hM hS
 unfold r17_mods at hf
 cbv
 refine d_p hS hf (fun _=>c124 hM) ?_
 intro y1 hf; cbv
 cases hf; exact hR _ d_l
end Go.Proofs.YtddcpnlflncahaaGreat
