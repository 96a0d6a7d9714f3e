import Derived.Test.YtlacmdnhabblcaaGreatB44
import Derived.Test.YtlacmdnhabblcaaGreatB57
set_option linter.all false
namespace Go.Proofs.YtlacmdnhabblcaaGreat
open Go Go.Pv Proofs.Tryz
set_option maxRecDepth 100000
set_option maxHeartbeats 2000000
section
variable {M:kM}(hM:M=jT)
include hM
theorem c45 {a:List iL}{b:List iL}{r:Bool}(O:zH a b=some r):iI 45 [.sl 3 (M.m iL (iQ M) a) false,.sl 3 (M.m iL (iQ M) b) false] (λu=>u=.sb r):=by
 refine jB jm func45 call45 ?_;intro S R hS hR;have q:=sf hM hS;unfold zH at O;cbv;refine jc ?_ ?_
 exact jr
 intro O;cbv;refine kE hS jm wf [] [0,1,5] (λs1=>f3 26 [(0,.sl 3 (M.m iL (iQ M) a) false),(1,.sl 3 (M.m iL (iQ M) b) false),(5,sI s1)] []) O ?_;intro Ik2 k2 s1 hk2 O e he;subst he;unfold yX at O;cbv;refine jc ?_ ?_
 intro O;cbv;refine rD hS ?_;cbv;refine kV ?_;intro x4 O;cbv;refine kV ?_;intro x5 O;cbv;replace O:=pO O;refine jc ?_ ?_
 exact jr
 exact jv
 exact jr
end
section
variable {M:kM}(hM:M=jT)
include hM
theorem c12 {cards:List jI}{s:iT}{r:Bool}(O:yY cards s=some r):iI 12 [.sl 17 (M.m jI (lJ M) cards) false,.agg (jb M s)] (λu=>u=.sb r):=by
 refine jB jm func12 call12 ?_;intro S R hS hR;have q:=sf hM hS;unfold yY at O;cbv;refine jK hS O (λ_=>c43 hM) ?_;intro y1 O;cbv;refine jc ?_ ?_
 intro O;cbv;refine jK hS O (λ_=>c44 hM) ?_;exact kS
 intro O;cbv;refine jK hS O (λ_=>c19 hM) ?_;intro y3 O;cbv;refine rD hS ?_;cbv;refine rZ hS O (λ_=>c46 hM) ?_;intro y4 O;cbv;refine rZ hS O (λ_=>c47 hM) ?_;intro y5 O;cbv;refine rZ hS O (λ_=>c45 hM) ?_;intro y6 O;cbv;refine jA hS O rfl ?_ ?_
 intro O;cbv;refine rZ hS O (λ_=>c44 hM) ?_;exact kS
 exact jr
end
end Go.Proofs.YtlacmdnhabblcaaGreat
