import Derived.Test.YtlacmdnhabblcaaGreatB49
import Derived.Test.YtlacmdnhabblcaaGreatB94
set_option linter.all false
namespace Go.Proofs.YtlacmdnhabblcaaGreat
open Go Go.Pv Proofs.Tryz
set_option maxRecDepth 100000
set_option maxHeartbeats 2000000
section
variable {M:kM}(hM:M=jT)
include hM
theorem s39 {k:jV}{s:iT}{all:List iM}{first:Bool}{r:(List iZ)×Bool×jV}(O:IQ k s all first=some r):Pv.FW Tryz.prog JE 39 [.lv 0 0,.agg (jb M s),.sl 17 (M.m iM (iY M) all) false,.sb first] [(0,(vR (mD M k)))] 1 (λu s n=>u=.IX [.os 1 0 (M.n iZ r.1),.sb r.2.1]/\s=[(0,(vR (mD M r.2.2))),(1,(aR 15 (M.m iZ (jC M) r.1)))]/\n=2):=by
 refine qw (T:=(Bg 1 [9,12,31,34,38] [[(15,true)],[(0,false)]])) (mG 1 [9,12,31,34,38] [[(15,true)],[(0,false)]]) wf func39 rfl call39 rfl ?_;intro S R hS hR;have q:=sf hM hS;unfold IQ at O;cbv;refine kE hS (mG 1 [9,12,31,34,38] [[(15,true)],[(0,false)]]) wf [.tO 10 15] [0,2,3,5,10,11] (λs1=>f3 132 [(0,.lv 0 0),(2,.sl 17 (M.m iM (iY M) all) false),(3,.sb first),(5,.lv 1 0),(10,.os 2 0 (S.jD (M.m iZ (jC M) s1.2.2))),(11,sI s1.2.1)] [vR (mD M s1.1),vR (jb M s),aR 15 (M.m iZ (jC M) s1.2.2)]) O ?_;intro Ik2 k2 s1 hk2 O e he;subst he;unfold Ko at O;cbv;refine jc ?_ ?_
 intro O;cbv;refine jk hS [.tO 10 15] [0,2,3,5,10,11] (λs4=>f3 132 [(0,.lv 0 0),(2,.sl 17 (M.m iM (iY M) all) false),(3,.sb first),(5,.lv 1 0),(10,.os 2 0 (S.jD (M.m iZ (jC M) s4.2))),(11,sI s1.2.1)] [vR (mD M s4.1),vR (jb M s),aR 15 (M.m iZ (jC M) s4.2)]) O ?_ ?_
 intro Ik5 k5 hk5 O;cbv;refine kV ?_;intro x7 O;cbv;refine jk hS [] [0,2,3,5,10,11,12,45] (λs8=>f3 132 [(0,.lv 0 0),(2,.sl 17 (M.m iM (iY M) all) false),(3,.sb first),(5,.lv 1 0),(10,.os 2 0 (S.jD (M.m iZ (jC M) s1.2.2))),(11,sI s1.2.1),(12,.lv 3 0),(45,.sb s8)] [vR (mD M s1.1),vR (jb M s),aR 15 (M.m iZ (jC M) s1.2.2),vR (ja M x7)]) O ?_ ?_
 intro Ik9 k9 hk9 O;cbv;refine jc ?_ ?_
 exact jv
 intro O;cbv;refine jc ?_ ?_
 exact jv
 intro O;cbv;refine jK hS O (λ_=>c87 hM) ?_;intro y11 O;cbv;refine jK hS O (λ_=>c86 hM) ?_;exact lu
 intro s8 O;cbv;refine jA hS O rfl ?_ ?_
 exact jv
 intro O;cbv;refine jc ?_ ?_
 intro O;cbv;refine rD hS ?_;cbv;refine kV ?_;intro x13 O;cbv;refine rZ hS O (λ_=>c88 hM) ?_;intro y14 O;cbv;refine jM hS O lS ?_;exact jv
 intro O;cbv;refine uZ hS O (λ_=>s89 hM) oW oW rfl rfl rfl rfl ?_;intro y15 O;cbv;refine jc ?_ ?_
 exact ik
 intro O;cbv;refine jM hS O lS ?_;exact jv
 intro s4 O;cbv;exact ng
 intro O;cbv;refine kE hS (mG 1 [9,12,31,34,38] [[(15,true)],[(0,false)]]) wf [] [2,3,5,10,15] (λs16=>f3 132 [(2,.sl 17 (M.m iM (iY M) all) false),(3,.sb first),(5,.lv 1 0),(10,.os 2 0 (S.jD (M.m iZ (jC M) s16.2))),(15,sI s16.1)] [vR (mD M s1.1),vR (jb M s),aR 15 (M.m iZ (jC M) s16.2)]) O ?_;intro Ik17 k17 s16 hk17 O e he;subst he;unfold EO at O;cbv;refine jc ?_ ?_
 intro O;cbv;refine jk hS [] [2,3,5,10,15] (λs19=>f3 132 [(2,.sl 17 (M.m iM (iY M) all) false),(3,.sb first),(5,.lv 1 0),(10,.os 2 0 (S.jD (M.m iZ (jC M) s19))),(15,sI s16.1)] [vR (mD M s1.1),vR (jb M s),aR 15 (M.m iZ (jC M) s19)]) O ?_ ?_
 intro Ik20 k20 hk20 O;cbv;refine kV ?_;intro x22 O;cbv;refine jk hS [] [2,3,5,10,15,16,102] (λs23=>f3 132 [(2,.sl 17 (M.m iM (iY M) all) false),(3,.sb first),(5,.lv 1 0),(10,.os 2 0 (S.jD (M.m iZ (jC M) s16.2))),(15,sI s16.1),(16,.lv 3 0),(102,.sb s23)] [vR (mD M s1.1),vR (jb M s),aR 15 (M.m iZ (jC M) s16.2),vR (ja M x22)]) O ?_ ?_
 intro Ik24 k24 hk24 O;cbv;refine jc ?_ ?_
 exact jv
 intro O;cbv;refine jc ?_ ?_
 exact jv
 intro O;cbv;refine jK hS O (λ_=>c87 hM) ?_;intro y26 O;cbv;refine jK hS O (λ_=>c86 hM) ?_;exact lu
 intro s23 O;cbv;refine jA hS O rfl ?_ ?_
 exact jv
 intro O;cbv;refine jK hS O (λ_=>c90 hM) ?_;intro y28 O;cbv;refine jk hS [] [2,3,5,10,15,16,117] (λs29=>f3 132 [(2,.sl 17 (M.m iM (iY M) all) false),(3,.sb first),(5,.lv 1 0),(10,.os 2 0 (S.jD (M.m iZ (jC M) s16.2))),(15,sI s16.1),(16,.lv 3 0),(117,.sb s29)] [vR (mD M s1.1),vR (jb M s),aR 15 (M.m iZ (jC M) s16.2),vR (ja M x22)]) O ?_ ?_
 intro Ik30 k30 hk30 O;cbv;refine jc ?_ ?_
 intro O;cbv;refine kV ?_;exact lu
 exact jv
 intro s29 O;cbv;refine jA hS O rfl ?_ ?_
 intro O;cbv;refine rD hS ?_;cbv;refine kV ?_;intro x33 O;cbv;refine rZ hS O (λ_=>c88 hM) ?_;intro y34 O;cbv;refine jM hS O lS ?_;exact jv
 exact jv
 intro s19 O;cbv;exact ng
 intro O;cbv;cases O;exact hR _ _ _ oW oW rfl
end
section
variable {M:kM}(hM:M=jT)
include hM
theorem c9 {x:nI}{r:Bool}(O:wH x=some r):iI 9 [.agg (oQ M x)] (λu=>u=.sb r):=by
 refine jB jm func9 call9 ?_;intro S R hS hR;have q:=sf hM hS;unfold wH at O;cbv;refine jK hS O (λ_=>c35 hM) ?_;intro y1 O;cbv;refine jc ?_ ?_
 intro O;cbv;refine jK hS O (λ_=>c26 hM) ?_;exact kS
 intro O;cbv;refine jK hS O (λ_=>c19 hM) ?_;intro y3 O;cbv;refine rD hS ?_;cbv;refine abv hS [.cF 0 0] O (λ_=>o36 hM) (le_eq rfl) (λ_=>bZ) ?_;intro y4 O;cbv;refine abv hS [.cF 0 0] O (λ_=>o37 hM) (le_eq rfl) (λ_=>bZ) ?_;intro y5 O;cbv;refine uZ hS O (λ_=>s38 hM) oW oW rfl rfl rfl rfl ?_;intro y6 O;cbv;refine uZ hS O (λ_=>s39 hM) oW oW rfl rfl rfl rfl ?_;intro y7 O;cbv;refine tN hS O (λ_=>c40 hM) (le_eq rfl) (λ_=>rfl) ?_;intro y8 O;cbv;refine jA hS O rfl ?_ ?_
 intro O;cbv;refine jc ?_ ?_
 intro O;cbv;refine tN hS O (λ_=>c41 hM) xB (λ_=>rfl) ?_;intro y9 O;cbv;refine jA hS O rfl ?_ ?_
 intro O;cbv;refine jK hS O (λ_=>c26 hM) ?_;exact kS
 exact jr
 exact jr
 exact jr
end
end Go.Proofs.YtlacmdnhabblcaaGreat
