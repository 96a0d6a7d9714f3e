import Derived.Test.YtlacmdnhabblcaaGreatB24
import Derived.Test.YtlacmdnhabblcaaGreatB71
set_option linter.all false
namespace Go.Proofs.YtlacmdnhabblcaaGreat
open Go Go.Pv Proofs.Tryz
set_option maxRecDepth 100000
set_option maxHeartbeats 2000000
section
variable {M:kM}(hM:M=jT)
include hM
theorem c116 {p:rQ Int}{c:oH}{x:Int}{r:Bool}(O:AQ p c x=some r):iI 116 [.agg [sI p.a0,sI p.a1,sI p.a2,sI p.a3,sI p.a4,sI p.a5],.agg (pV M c),sI x] (λu=>u=.sb r):=by
 refine jB jm func116 call116 ?_;intro S R hS hR;have q:=sf hM hS;unfold AQ at O;cbv;refine jK hS O (λ_=>c171 hM) ?_;exact kS
theorem c120 {p:rQ Int}{c:oH}{x:Int}{r:Bool}(O:Ec p c x=some r):iI 120 [.agg [sI p.a0,sI p.a1,sI p.a2,sI p.a3,sI p.a4,sI p.a5],.agg (pV M c),sI x] (λu=>u=.sb r):=by
 refine jB jm func120 call120 ?_;intro S R hS hR;have q:=sf hM hS;unfold Ec at O;cbv;refine jK hS O (λ_=>c174 hM) ?_;exact kS
end
section
variable {M:kM}(hM:M=jT)
include hM
theorem c52 {s:iT}{all:List iM}{p:Int}{id:Int}{price:uh}{r:Bool}(O:Fv s all p id price=some r):iI 52 [.agg (jb M s),.sl 17 (M.m iM (iY M) all) false,sI p,sI id,.agg (xk M price)] (λu=>u=.sb r):=by
 refine jB (je [4,14,15,20,22,27]) func52 call52 ?_;intro S R hS hR;have q:=sf hM hS;unfold Fv at O;cbv;refine tN hS O (λ_=>anJ hM) (le_eq rfl) (λ_=>rfl) ?_;intro y1 O;cbv;refine jk hS [] [1,2,5,9,11,31] (λs2=>f3 97 [(1,.sl 17 (M.m iM (iY M) all) false),(2,sI p),(5,.lv 0 0),(9,.lv 1 0),(11,sI y1),(31,.sb s2)] [vR (jb M s),vR (xk M price)]) O ?_ ?_
 intro Ik3 k3 hk3 O;cbv;refine jc ?_ ?_
 exact jv
 intro O;cbv;refine jc ?_ ?_<;>exact jv
 intro s2 O;cbv;refine jA hS O rfl ?_ ?_
 exact jr
 intro O;cbv;refine kV ?_;intro x5 O;cbv;refine jk hS [.cS 3 15 72,.cS 3 11 1] [2,5,9,12,13] (λs6=>f3 97 [(2,sI p),(5,.lv 0 0),(9,.lv 1 0),(12,.lv 2 0),(13,.lv 3 0)] [vR (jb M s),vR (xk M price),vR (ja M x5),vR (iY M s6)]) O ?_ ?_
 intro Ik7 k7 hk7 O;cbv;refine jc ?_ ?_
 intro O;cbv;refine kV ?_;exact lu
 intro O;cbv;exact d_x hk7 O (by subst hM;rfl)
 intro s6 O;cbv;refine jk hS [] [2,5,9,12,13,54] (λs10=>f3 97 [(2,sI p),(5,.lv 0 0),(9,.lv 1 0),(12,.lv 2 0),(13,.lv 3 0),(54,.sb s10)] [vR (jb M s),vR (xk M price),vR (ja M x5),vR (iY M s6)]) O ?_ ?_
 intro Ik11 k11 hk11 O;cbv;refine jc ?_ ?_<;>exact jv
 intro s10 O;cbv;refine jA hS O rfl ?_ ?_
 exact jr
 intro O;cbv;refine jk hS [] [2,5,9] (λs13=>f3 97 [(2,sI p),(5,.lv 0 0),(9,.lv 1 0)] [vR (jb M s),vR (xk M price)]) O ?_ ?_
 intro Ik14 k14 hk14 O;cbv;refine jA hS O rfl ?_ ?_
 intro O;cbv;refine jk hS [] [2,5,9,12,14] (λs16=>f3 97 [(2,sI p),(5,.lv 0 0),(9,.lv 1 0),(12,.lv 2 0),(14,.sb s16)] [vR (jb M s),vR (xk M price),vR (ja M x5)]) O ?_ ?_
 intro Ik17 k17 hk17 O;cbv;refine jA hS O rfl ?_ ?_
 intro O;cbv;refine jc ?_ ?_<;>exact jv
 exact jv
 intro s16 O;cbv;refine jk hS [] [2,5,9,76] (λs19=>f3 97 [(2,sI p),(5,.lv 0 0),(9,.lv 1 0),(76,.sb s19)] [vR (jb M s),vR (xk M price)]) O ?_ ?_
 intro Ik20 k20 hk20 O;cbv;refine jA hS O rfl ?_ ?_<;>exact jv
 intro s19 O;cbv;refine jA hS O rfl ?_ ?_
 exact jr
 exact jv
 exact jv
 intro s13 O;cbv;refine rD hS ?_;cbv;refine kV ?_;intro x22 O;cbv;refine rZ hS O (λ_=>c116 hM) ?_;intro y23 O;cbv;refine jA hS O rfl ?_ ?_
 intro O;cbv;refine kV ?_;exact kS
 exact jr
theorem c53 {s:iT}{all:List iM}{p:Int}{id:Int}{price:uh}{r:Bool}(O:IL s all p id price=some r):iI 53 [.agg (jb M s),.sl 17 (M.m iM (iY M) all) false,sI p,sI id,.agg (xk M price)] (λu=>u=.sb r):=by
 refine jB (je [4,14]) func53 call53 ?_;intro S R hS hR;have q:=sf hM hS;unfold IL at O;cbv;refine jK hS O (λ_=>c117 hM) ?_;intro y1 O;cbv;refine jk hS [] [1,2,3,5,9,11,37] (λs2=>f3 88 [(1,.sl 17 (M.m iM (iY M) all) false),(2,sI p),(3,sI id),(5,.lv 0 0),(9,.lv 1 0),(11,.lv 2 0),(37,.sb s2)] [vR (jb M s),vR (xk M price),vR (ja M y1.1)]) O ?_ ?_
 intro Ik3 k3 hk3 O;cbv;refine jc ?_ ?_
 exact jv
 intro O;cbv;refine jc ?_ ?_
 exact jv
 intro O;cbv;refine jc ?_ ?_<;>exact jv
 intro s2 O;cbv;refine jA hS O rfl ?_ ?_
 exact jr
 intro O;cbv;refine jK hS O (λ_=>c118 hM) ?_;intro y5 O;cbv;refine jc ?_ ?_
 exact jr
 intro O;cbv;refine jk hS [] [2,5,9,67] (λs6=>f3 88 [(2,sI p),(5,.lv 0 0),(9,.lv 1 0),(67,.sb s6)] [vR (jb M s),vR (xk M price)]) O ?_ ?_
 intro Ik7 k7 hk7 O;cbv;refine jA hS O rfl ?_ ?_
 intro O;cbv;refine jA hS O rfl ?_ ?_
 exact jv
 intro O;cbv;refine jA hS O rfl ?_ ?_
 intro O;cbv;refine jK hS O (λ_=>c119 hM) ?_;intro y9 O;cbv;refine jA hS O rfl ?_ ?_
 intro O;cbv;refine jK hS O (λ_=>c119 hM) ?_;exact lu
 exact jv
 exact jv
 exact jv
 intro s6 O;cbv;refine jA hS O rfl ?_ ?_
 exact jr
 intro O;cbv;refine rD hS ?_;cbv;refine kV ?_;intro x11 O;cbv;refine rZ hS O (λ_=>c120 hM) ?_;intro y12 O;cbv;refine jA hS O rfl ?_ ?_
 intro O;cbv;refine kV ?_;exact kS
 exact jr
end
section
variable {M:kM}(hM:M=jT)
include hM
theorem c50 {cards:List jI}{s:iT}{r:Bool}(O:JB cards s=some r):iI 50 [.sl 17 (M.m jI (lJ M) cards) false,.agg (jb M s)] (λu=>u=.sb r):=by
 refine jB jm func50 call50 ?_;intro S R hS hR;have q:=sf hM hS;unfold JB at O;cbv;refine jK hS O (λ_=>c58 hM) ?_;intro y1 O;cbv;refine jc ?_ ?_
 intro O;cbv;refine jK hS O (λ_=>c59 hM) ?_;exact kS
 exact jr
end
section
variable {M:kM}(hM:M=jT)
include hM
theorem c14 {u:vS}{r:Bool}(O:CX u=some r):iI 14 [.agg (Ic M u)] (λu=>u=.sb r):=by
 refine jB jm func14 call14 ?_;intro S R hS hR;have q:=sf hM hS;unfold CX at O;cbv;refine jK hS O (λ_=>c50 hM) ?_;intro y1 O;cbv;refine jc ?_ ?_
 intro O;cbv;refine jK hS O (λ_=>c51 hM) ?_;exact kS
 intro O;cbv;refine jK hS O (λ_=>c19 hM) ?_;intro y3 O;cbv;refine rD hS ?_;cbv;refine rZ hS O (λ_=>c51 hM) ?_;intro y4 O;cbv;refine jA hS O rfl ?_ ?_
 intro O;cbv;refine rZ hS O (λ_=>c52 hM) ?_;intro y5 O;cbv;refine rZ hS O (λ_=>c53 hM) ?_;exact kS
 exact jr
end
end Go.Proofs.YtlacmdnhabblcaaGreat
