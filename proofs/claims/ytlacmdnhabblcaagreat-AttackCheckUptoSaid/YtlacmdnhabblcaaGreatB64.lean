import Derived.Test.YtlacmdnhabblcaaGreatB63
set_option linter.all false
namespace Go.Proofs.YtlacmdnhabblcaaGreat
open Go Go.Pv
set_option maxRecDepth 100000
set_option maxHeartbeats 2000000
section
variable {M:kM}(hM:M=jT)
include hM
theorem c13 {cards:List jI}{s:iT}{l:List iL}{r:Bool}(O:xn cards s l=some r):iI 13 [.sl 17 (M.m jI (lJ M) cards) false,.agg (jb M s),.sl 3 (M.m iL (iQ M) l) false] (λu=>u=.sb r):=by
 refine jB (je [2]) Tryz.func13 Tryz.call13 ?_;intro S R hS hR;have q:=sf hM hS;unfold xn at O;cbv;refine jk hS [] [0,2,4,16] (λs1=>f3 33 [(0,.sl 17 (M.m jI (lJ M) cards) false),(2,.sl 3 (M.m iL (iQ M) l) false),(4,.lv 0 0),(16,.sb s1)] [vR (jb M s)]) O ?_ ?_
 intro Ik2 k2 hk2 O;cbv;refine jK hS O (λ_=>c43 hM) ?_;intro y4 O;cbv;refine jc ?_ ?_<;>exact jv
 intro s1 O;cbv;refine jA hS O rfl ?_ ?_
 intro O;cbv;refine jK hS O (λ_=>c44 hM) ?_;exact kS
 intro O;cbv;refine jK hS O (λ_=>c19 hM) ?_;intro y6 O;cbv;refine rD hS ?_;cbv;refine rZ hS O (λ_=>c48 hM) ?_;intro y7 O;cbv;refine rZ hS O (λ_=>c49 hM) ?_;intro y8 O;cbv;refine jc ?_ ?_
 intro O;cbv;refine rZ hS O (λ_=>c44 hM) ?_;exact kS
 exact jr
end
end Go.Proofs.YtlacmdnhabblcaaGreat
