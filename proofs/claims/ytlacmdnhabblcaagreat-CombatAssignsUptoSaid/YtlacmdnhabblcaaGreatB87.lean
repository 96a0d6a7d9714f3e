import Derived.Test.YtlacmdnhabblcaaGreatB49
import Derived.Test.YtlacmdnhabblcaaGreatB86
set_option linter.all false
namespace Go.Proofs.YtlacmdnhabblcaaGreat
open Go Go.Pv
set_option maxRecDepth 100000
set_option maxHeartbeats 2000000
section
variable {M:kM}(hM:M=jT)
include hM
theorem c10 {x:nI}{r:Bool}(O:vM x=some r):iI 10 [.agg (oQ M x)] (λu=>u=.sb r):=by
 refine jB (je [12,32,33,37,42,46]) Tryz.func10 Tryz.call10 ?_;intro S R hS hR;have q:=sf hM hS;unfold vM at O;cbv;refine jK hS O (λ_=>c35 hM) ?_;intro y1 O;cbv;refine jc ?_ ?_
 intro O;cbv;refine jK hS O (λ_=>c26 hM) ?_;exact kS
 intro O;cbv;refine jK hS O (λ_=>c19 hM) ?_;intro y3 O;cbv;refine rD hS ?_;cbv;refine abv hS [.cF 0 0] O (λ_=>o36 hM) (le_eq rfl) (λ_=>bZ) ?_;intro y4 O;cbv;refine alc hS O (λ_=>s38 hM) oW oW rfl rfl ?_;intro y5 O;cbv;refine jc ?_ ?_
 intro O;cbv;refine jk hS [] [2] (λs6=>f3 174 [(2,.sb s6)] []) O ?_ ?_
 intro Ik7 k7 hk7 O;cbv;refine jc ?_ ?_
 intro O;cbv;refine jK hS O (λ_=>c26 hM) ?_;exact lu
 exact jv
 intro s6 O;cbv;exact tu
 intro O;cbv;refine kE hS (je [12,32,33,37,42,46]) wf [] [1,3,4,45,46,47] (λs10=>f3 174 [(1,.lv 0 0),(3,.sl 17 (M.m iM (iY M) y3) false),(4,.os 1 0 (S.jD (M.m iZ (jC M) y5.1))),(45,.sl 19 (M.m iW (ja M) x.s.objects) false),(46,sI (S.len (M.m iW (ja M) x.s.objects))),(47,sI s10)] [vR (oQ M x),aR 15 (M.m iZ (jC M) y5.1)]) O ?_;intro Ik11 k11 s10 hk11 O e he;subst he;unfold sF at O;cbv;refine jc ?_ ?_
 intro O;cbv;refine kV ?_;intro x13 O;cbv;refine kE hS (je [12,32,33,37,42,46]) wf [] [1,3,4,6,7,8,45,46,47,52,53,54] (λs14=>f3 174 [(1,.lv 0 0),(3,.sl 17 (M.m iM (iY M) y3) false),(4,.os 1 0 (S.jD (M.m iZ (jC M) y5.1))),(6,sI s10),(7,.lv 2 0),(8,sI s14.1),(45,.sl 19 (M.m iW (ja M) x.s.objects) false),(46,sI (S.len (M.m iW (ja M) x.s.objects))),(47,sI s10),(52,.os 1 0 (S.jD (M.m iZ (jC M) y5.1))),(53,sI (S.Kv (S.jD (M.m iZ (jC M) y5.1)))),(54,sI s14.2)] [vR (oQ M x),aR 15 (M.m iZ (jC M) y5.1),vR (ja M x13)]) O ?_;intro Ik15 k15 s14 hk15 O e he;subst he;unfold sD at O;cbv;refine jc ?_ ?_
 intro O;cbv;refine jk hS [] [1,3,4,6,7,8,45,46,47,52,53,54] (λs17=>f3 174 [(1,.lv 0 0),(3,.sl 17 (M.m iM (iY M) y3) false),(4,.os 1 0 (S.jD (M.m iZ (jC M) y5.1))),(6,sI s10),(7,.lv 2 0),(8,sI s17),(45,.sl 19 (M.m iW (ja M) x.s.objects) false),(46,sI (S.len (M.m iW (ja M) x.s.objects))),(47,sI s10),(52,.os 1 0 (S.jD (M.m iZ (jC M) y5.1))),(53,sI (S.Kv (S.jD (M.m iZ (jC M) y5.1)))),(54,sI s14.2)] [vR (oQ M x),aR 15 (M.m iZ (jC M) y5.1),vR (ja M x13)]) O ?_ ?_
 intro Ik18 k18 hk18 O;cbv;refine wM hS O lS rfl ?_;intro j20 _ O;cbv;refine qJ hS hM O rfl lS ?_;intro x21 O;cbv;refine jk hS [] [1,3,4,6,7,8,10,45,46,47,52,53,54] (λs22=>f3 174 [(1,.lv 0 0),(3,.sl 17 (M.m iM (iY M) y3) false),(4,.os 1 0 (S.jD (M.m iZ (jC M) y5.1))),(6,sI s10),(7,.lv 2 0),(8,sI s22),(10,.lv 3 0),(45,.sl 19 (M.m iW (ja M) x.s.objects) false),(46,sI (S.len (M.m iW (ja M) x.s.objects))),(47,sI s10),(52,.os 1 0 (S.jD (M.m iZ (jC M) y5.1))),(53,sI (S.Kv (S.jD (M.m iZ (jC M) y5.1)))),(54,sI s14.2)] [vR (oQ M x),aR 15 (M.m iZ (jC M) y5.1),vR (ja M x13),vR (jC M x21)]) O ?_ ?_
 intro Ik23 k23 hk23 O;cbv;refine jc ?_ ?_<;>exact jv
 intro s22 O;cbv;refine jk hS [] [1,3,4,6,7,8,45,46,47,52,53,54,84] (λs25=>f3 174 [(1,.lv 0 0),(3,.sl 17 (M.m iM (iY M) y3) false),(4,.os 1 0 (S.jD (M.m iZ (jC M) y5.1))),(6,sI s10),(7,.lv 2 0),(8,sI s22),(45,.sl 19 (M.m iW (ja M) x.s.objects) false),(46,sI (S.len (M.m iW (ja M) x.s.objects))),(47,sI s10),(52,.os 1 0 (S.jD (M.m iZ (jC M) y5.1))),(53,sI (S.Kv (S.jD (M.m iZ (jC M) y5.1)))),(54,sI s14.2),(84,.sb s25)] [vR (oQ M x),aR 15 (M.m iZ (jC M) y5.1),vR (ja M x13)]) O ?_ ?_
 intro Ik26 k26 hk26 O;cbv;refine jc ?_ ?_
 exact jv
 intro O;cbv;refine jc ?_ ?_
 exact jv
 intro O;cbv;refine jc ?_ ?_<;>exact jv
 intro s25 O;cbv;refine jA hS O rfl ?_ ?_
 exact jr
 exact jv
 intro s17 O;cbv;exact ng
 intro O;cbv;refine kV ?_;intro x28 O;cbv;refine rD hS ?_;cbv;refine jk hS [] [1,3,4,7,8,11,45,46,47,145] (λs29=>f3 174 [(1,.lv 0 0),(3,.sl 17 (M.m iM (iY M) y3) false),(4,.os 1 0 (S.jD (M.m iZ (jC M) y5.1))),(7,.lv 2 0),(8,sI s14.1),(11,.lv 3 0),(45,.sl 19 (M.m iW (ja M) x.s.objects) false),(46,sI (S.len (M.m iW (ja M) x.s.objects))),(47,sI s10),(145,.sb s29)] [vR (oQ M x),aR 15 (M.m iZ (jC M) y5.1),vR (ja M x13),vR (iY M x28)]) O ?_ ?_
 intro Ik30 k30 hk30 O;cbv;refine jc ?_ ?_
 intro O;cbv;refine jc ?_ ?_
 exact jv
 intro O;cbv;refine jc ?_ ?_
 exact jv
 intro O;cbv;refine jc ?_ ?_
 intro O;cbv;refine jc ?_ ?_
 exact jv
 intro O;cbv;refine jA hS O rfl ?_ ?_
 intro O;cbv;refine jc ?_ ?_
 intro O;cbv;refine jc ?_ ?_
 exact jv
 intro O;cbv;refine jc ?_ ?_
 intro O;cbv;refine jc ?_ ?_<;>exact jv
 exact jv
 intro O;cbv;refine jc ?_ ?_
 intro O;cbv;refine jc ?_ ?_<;>exact jv
 exact jv
 intro O;cbv;refine jc ?_ ?_
 intro O;cbv;refine jc ?_ ?_<;>exact jv
 exact jv
 intro O;cbv;refine jA hS O rfl ?_ ?_
 intro O;cbv;refine jc ?_ ?_
 intro O;cbv;refine jc ?_ ?_
 exact jv
 intro O;cbv;refine jc ?_ ?_
 intro O;cbv;refine jc ?_ ?_<;>exact jv
 exact jv
 intro O;cbv;refine jc ?_ ?_
 intro O;cbv;refine jc ?_ ?_<;>exact jv
 exact jv
 intro O;cbv;refine jc ?_ ?_
 intro O;cbv;refine jc ?_ ?_<;>exact jv
 exact jv
 exact jv
 intro s29 O;cbv;refine jA hS O rfl ?_ ?_
 exact jr
 intro O;cbv;refine jk hS [] [1,3,4,45,46,47,171] (λs32=>f3 174 [(1,.lv 0 0),(3,.sl 17 (M.m iM (iY M) y3) false),(4,.os 1 0 (S.jD (M.m iZ (jC M) y5.1))),(45,.sl 19 (M.m iW (ja M) x.s.objects) false),(46,sI (S.len (M.m iW (ja M) x.s.objects))),(47,sI s10),(171,.sb s32)] [vR (oQ M x),aR 15 (M.m iZ (jC M) y5.1)]) O ?_ ?_
 intro Ik33 k33 hk33 O;cbv;refine jc ?_ ?_
 intro O;cbv;refine jc ?_ ?_
 intro O;cbv;refine jc ?_ ?_
 intro O;cbv;refine jc ?_ ?_<;>exact jv
 exact jv
 exact jv
 exact jv
 intro s32 O;cbv;refine jA hS O rfl ?_ ?_
 exact jr
 exact jv
 intro O;cbv;refine jK hS O (λ_=>c26 hM) ?_;exact kS
end
end Go.Proofs.YtlacmdnhabblcaaGreat
