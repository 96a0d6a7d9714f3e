import Derived.Test.YtlacmdnhabblcaaGreatB37
import Derived.Test.YtlacmdnhabblcaaGreatB47
set_option linter.all false
namespace Go.Proofs.YtlacmdnhabblcaaGreat
open Go Go.Pv Proofs.Tryz
set_option maxRecDepth 100000
set_option maxHeartbeats 2000000
section
variable {M:kM}(hM:M=jT)
include hM
theorem c240 {c:jY}{a:List Int}{r:Bool}(O:uF c a=some r):iI 240 [.agg (mg M c),.sl 1 (mI M a) false] (λu=>u=.sb r):=by
 refine jB (je [10]) func240 call240 ?_;intro S R hS hR;have q:=sf hM hS;unfold uF at O;cbv;refine kE hS (je [10]) wf [] [1,2,5,8,9,10] (λs1=>f3 36 [(1,.sl 1 (mI M a) false),(2,.lv 0 0),(5,sI s1.1),(8,.sl 1 (mI M a) false),(9,sI (S.len (mI M a))),(10,sI s1.2)] [vR (mg M c)]) O ?_;intro Ik2 k2 s1 hk2 O e he;subst he;unfold wR at O;cbv;refine jc ?_ ?_
 intro O;cbv;refine kV ?_;intro x4 O;cbv;refine jk hS [] [1,2,5,7,8,9,10,19] (λs5=>f3 36 [(1,.sl 1 (mI M a) false),(2,.lv 0 0),(5,sI s1.1),(7,sI x4),(8,.sl 1 (mI M a) false),(9,sI (S.len (mI M a))),(10,sI s1.2),(19,.sb s5)] [vR (mg M c)]) O ?_ ?_
 intro Ik6 k6 hk6 O;cbv;refine jc ?_ ?_<;>exact jv
 intro s5 O;cbv;refine jA hS O rfl ?_ ?_
 exact jr
 exact jv
 intro O;cbv;refine jc ?_ ?_<;>exact jr
theorem c177 {c:jY}{r:Bool}(O:IE c=some r):iI 177 [.agg (mg M c)] (λu=>u=.sb r):=by
 refine jB jm func177 call177 ?_;intro S R hS hR;have q:=sf hM hS;unfold IE at O;cbv;refine jc ?_ ?_
 exact jr
 intro O;cbv;refine jc ?_ ?_
 exact jr
 intro O;cbv;refine jc ?_ ?_
 exact jr
 intro O;cbv;refine jc ?_ ?_
 exact jr
 intro O;cbv;refine jc ?_ ?_
 exact jr
 intro O;cbv;refine jc ?_ ?_
 exact jr
 intro O;cbv;refine jc ?_ ?_
 exact jr
 intro O;cbv;refine jc ?_ ?_
 exact jr
 intro O;cbv;refine jc ?_ ?_
 exact jr
 intro O;cbv;refine jc ?_ ?_
 intro O;cbv;refine jc ?_ ?_
 intro O;cbv;refine jc ?_ ?_<;>exact jr
 exact jr
 intro O;cbv;refine jc ?_ ?_<;>exact jr
end
section
variable {M:kM}(hM:M=jT)
include hM
theorem o152 {l:List iL}{r:List iL}(O:lY l=some r):Pv.FW Tryz.prog JE 152 [.sl 3 (M.m iL (iQ M) l) false] [] 0 (λu s n=>u=.os 0 0 (M.n iL r)/\s=[(0,(aR 3 (M.m iL (iQ M) r)))]/\n=1):=by
 refine qw (T:=(Bg 0 [] [[(3,true)]])) (mG 0 [] [[(3,true)]]) wf func152 rfl call152 rfl ?_;intro S R hS hR;have q:=sf hM hS;unfold lY at O;cbv;refine jM hS O lS ?_;intro O;cbv;cases O;exact hR _ _ _ aj aj rfl
theorem o77 {l:List Int}{r:List Int}(O:oM l=some r):Pv.FW Tryz.prog JE 77 [.sl 1 (mI M l) false] [] 0 (λu s n=>u=.os 0 0 (M.n Int r)/\s=[(0,(aR 1 (mI M r)))]/\n=1):=by
 refine qw (T:=(Bg 0 [] [[(1,true)]])) (mG 0 [] [[(1,true)]]) wf func77 rfl call77 rfl ?_;intro S R hS hR;have q:=sf hM hS;unfold oM at O;cbv;refine jM hS O lS ?_;intro O;cbv;cases O;exact hR _ _ _ aj aj rfl
theorem c77 {l:List Int}{r:List Int}(O:oM l=some r):iI 77 [.sl 1 (mI M l) false] (λu=>u=.sl 1 (mI M r) false):=by
 refine jB jm func77 call77 ?_;intro S R hS hR;have q:=sf hM hS;unfold oM at O;cbv;refine jM hS O lS ?_;exact jr
end
section
variable {M:kM}(hM:M=jT)
include hM
theorem o36 {answers:List (List Int)}{r:jy}(O:EJ answers=some r):Pv.FW Tryz.prog JE 36 [.sl 1 (M.m (List Int) (eL M 1 (eI .i64)) answers) false] [] 0 (λu s n=>u=.lv 0 0/\s=[(0,(vR [.os 1 0 (M.n (List Int) r.answers),sI r.used,sI r.pending.kind,sI r.pending.l9,sI r.pending.source,sI r.pending.least,sI r.pending.most,sI r.pending.n,.sl 3 (M.m iL (iQ M) r.pending.options) false,.sb r.waits,.sb r.bad])),(1,(aR 1 (M.m (List Int) (eL M 1 (eI .i64)) r.answers)))]/\n=2):=by
 refine qw (T:=(Bg 0 [] [])) (mG 0 [] []) wf func36 rfl call36 rfl ?_;intro S R hS hR;have q:=sf hM hS;unfold EJ at O;cbv;refine kE hS (mG 0 [] []) wf [.cO 0 0 1] [3,8,9,10] (λs1=>f3 27 [(3,.lv 0 0),(8,.sl 1 (M.m (List Int) (eL M 1 (eI .i64)) answers) false),(9,sI (S.len (M.m (List Int) (eL M 1 (eI .i64)) answers))),(10,sI s1.1)] [vR [.os 1 0 (S.jD (M.m (List Int) (eL M 1 (eI .i64)) s1.2)),sI 0,sI 0,sI 0,sI 0,sI 0,sI 0,sI 0,.sl 0 [] true,.sb false,.sb false],aR 1 (M.m (List Int) (eL M 1 (eI .i64)) s1.2)]) O ?_;intro Ik2 k2 s1 hk2 O e he;subst he;unfold Eb at O;cbv;refine jc ?_ ?_
 intro O;cbv;refine kV ?_;intro x4 O;cbv;refine rD hS ?_;cbv;refine rZ hS O (λ_=>c77 hM) ?_;intro y5 O;cbv;refine jM hS O lS ?_;exact jv
 intro O;cbv;cases O;exact hR _ _ _ oW oW rfl
end
section
variable {M:kM}(hM:M=jT)
include hM
theorem c306 {l:List Int}{n:Int}{r:Int}(O:P7 l n=some r):iI 306 [.sl 1 (mI M l) false,sI n] (λu=>u=sI r):=by
 refine jB jm func306 call306 ?_;intro S R hS hR;have q:=sf hM hS;unfold P7 at O;cbv;refine jK hS O (λ_=>aoy hM) ?_;exact kS
end
section
variable {M:kM}(hM:M=jT)
include hM
theorem abw {c:jY}{a:List Int}{r:Bool}(O:rC c a=some r):iI 238 [.agg (mg M c),.sl 1 (mI M a) false] (λu=>u=.sb r):=by
 refine jB (je [8]) func238 call238 ?_;intro S R hS hR;have q:=sf hM hS;unfold rC at O;cbv;refine kE hS (je [8]) wf [] [1,2,7,8,9] (λU=>f3 31 [(1,.sl 1 (mI M a) false),(2,.lv 0 0),(7,.sl 1 (mI M a) false),(8,sI (S.len (mI M a))),(9,sI U)] [vR (mg M c)]) O ?_;intro C k2 U J O e he;subst he;unfold P8 at O;cbv;refine jc ?_ ?_
 intro O;cbv;refine kV ?_;intro x4 O;cbv;refine jk hS [] [1,2,7,8,9,29] (λT=>f3 31 [(1,.sl 1 (mI M a) false),(2,.lv 0 0),(7,.sl 1 (mI M a) false),(8,sI (S.len (mI M a))),(9,sI U),(29,.sb T)] [vR (mg M c)]) O ?_ ?_
 intro g k6 I O;cbv;refine jc ?_ ?_
 exact jv
 intro O;cbv;refine jc ?_ ?_
 exact jv
 intro O;cbv;refine jK hS O (λ_=>c306 hM) ?_;exact lu
 intro T O;cbv;refine jA hS O rfl ?_ ?_
 exact jr
 exact jv
 exact jr
end
section
variable {M:kM}(hM:M=jT)
include hM
theorem c307 {l:List Int}{n:Int}{r:Bool}(O:Vo l n=some r):iI 307 [.sl 1 (mI M l) false,sI n] (λu=>u=.sb r):=by
 refine jB jm func307 call307 ?_;intro S R hS hR;have q:=sf hM hS;unfold Vo at O;cbv;refine jK hS O (λ_=>aoJ hM) ?_;exact kS
end
section
variable {M:kM}(hM:M=jT)
include hM
theorem apu {c:jY}{a:List Int}{r:Bool}(O:Gw c a=some r):iI 239 [.agg (mg M c),.sl 1 (mI M a) false] (λu=>u=.sb r):=by
 refine jB jm func239 call239 ?_;intro S R hS hR;have q:=sf hM hS;unfold Gw at O;cbv;refine kE hS jm wf [.tO 5 1] [2,5,8,9,10] (λU=>f3 32 [(2,.lv 0 0),(5,.os 1 0 (S.jD (mI M U.2))),(8,.sl 1 (mI M a) false),(9,sI (S.len (mI M a))),(10,sI U.1)] [vR (mg M c),aR 1 (mI M U.2)]) O ?_;intro J k2 U T O e he;subst he;unfold Ob at O;cbv;refine jc ?_ ?_
 intro O;cbv;refine kV ?_;intro I O;cbv;refine kV ?_;intro g O;cbv;refine tN hS O (λ_=>c307 hM) xB (λ_=>rfl) ?_;intro y6 O;cbv;refine jA hS O rfl ?_ ?_
 exact jr
 intro O;cbv;refine kV ?_;intro C O;cbv;refine jM hS O lS ?_;exact jv
 exact jr
end
section
variable {M:kM}(hM:M=jT)
include hM
theorem c179 {c:jY}{a:List Int}{r:Bool}(O:AP c a=some r):iI 179 [.agg (mg M c),.sl 1 (mI M a) false] (λu=>u=.sb r):=by
 refine jB jm func179 call179 ?_;intro S R hS hR;have q:=sf hM hS;unfold AP at O;cbv;refine jc ?_ ?_
 exact jr
 intro O;cbv;refine jc ?_ ?_
 intro O;cbv;refine jc ?_ ?_
 intro O;cbv;refine jK hS O (λ_=>abw hM) ?_;exact kS
 exact jr
 intro O;cbv;refine jc ?_ ?_
 intro O;cbv;refine jc ?_ ?_
 intro O;cbv;refine jK hS O (λ_=>abw hM) ?_;exact kS
 exact jr
 intro O;cbv;refine jc ?_ ?_
 intro O;cbv;refine jc ?_ ?_
 intro O;cbv;refine jK hS O (λ_=>abw hM) ?_;exact kS
 exact jr
 intro O;cbv;refine jc ?_ ?_
 intro O;cbv;refine jc ?_ ?_
 intro O;cbv;refine jK hS O (λ_=>abw hM) ?_;exact kS
 exact jr
 intro O;cbv;refine jc ?_ ?_
 intro O;cbv;refine jc ?_ ?_
 intro O;cbv;refine jK hS O (λ_=>abw hM) ?_;exact kS
 exact jr
 intro O;cbv;refine jc ?_ ?_
 intro O;cbv;refine jc ?_ ?_
 intro O;cbv;refine jc ?_ ?_
 intro O;cbv;refine jK hS O (λ_=>abw hM) ?_;exact kS
 exact jr
 exact jr
 intro O;cbv;refine jc ?_ ?_
 intro O;cbv;refine jc ?_ ?_
 intro O;cbv;refine jK hS O (λ_=>abw hM) ?_;exact kS
 exact jr
 intro O;cbv;refine jc ?_ ?_
 intro O;cbv;refine rD hS ?_;cbv;refine jc ?_ ?_
 intro O;cbv;refine kV ?_;intro x8 O;cbv;refine jc ?_ ?_
 intro O;cbv;refine kV ?_;exact kS
 exact jr
 exact jr
 intro O;cbv;refine jc ?_ ?_
 intro O;cbv;refine jK hS O (λ_=>abw hM) ?_;intro y10 O;cbv;refine jA hS O rfl ?_ ?_
 intro O;cbv;refine jK hS O (λ_=>apu hM) ?_;exact kS
 exact jr
 intro O;cbv;refine jc ?_ ?_
 intro O;cbv;refine jK hS O (λ_=>abw hM) ?_;intro y12 O;cbv;refine jA hS O rfl ?_ ?_
 intro O;cbv;refine jK hS O (λ_=>apu hM) ?_;exact kS
 exact jr
 intro O;cbv;refine jc ?_ ?_
 intro O;cbv;refine jK hS O (λ_=>c240 hM) ?_;exact kS
 exact jr
end
section
variable {M:kM}(hM:M=jT)
include hM
theorem anC {k:jy}{c:jY}{r:(List Int)×jy}(O:pJ k c=some r):Pv.FW Tryz.prog JE 122 [.lv 0 0,.agg (mg M c)] [(0,(vR (mQ M k)))] 1 (λu s n=>u=.os 1 0 (M.n Int r.1)/\s=[(0,(vR (mQ M r.2))),(1,(aR 1 (mI M r.1)))]/\n=2):=by
 refine PX (T:=(Bg 1 [2] [[(1,true)]])) (mG 1 [2] [[(1,true)]]) wf func122 rfl call122 rfl [.cF 0 8] ?_;intro S R hS hR;have q:=sf hM hS;unfold pJ at O;cbv;refine jk hS [] [0,3,23] (λU=>f3 77 [(0,.lv 0 0),(3,.lv 1 0),(23,.sb U)] [vR (mQ M k),vR (mg M c)]) O ?_ ?_
 intro C k2 J O;cbv;refine jA hS O rfl ?_ ?_
 exact jv
 intro O;cbv;refine jA hS O rfl ?_ ?_
 exact jv
 intro O;cbv;refine jK hS O (λ_=>c177 hM) ?_;exact lu
 intro U O;cbv;refine jA hS O rfl ?_ ?_
 intro O;cbv;refine qi hS O (λ_=>ak0 hM) (le_eq rfl) ?_;intro y5 O;cbv;cases O;exact hR _ _ _ oW oW rfl
 intro O;cbv;refine rD hS ?_;cbv;refine jc ?_ ?_
 intro O;cbv;refine qi hS O (λ_=>o152 hM) (le_eq rfl) ?_;intro y6 O;cbv;refine apt hS rfl ?_;cbv;refine qi hS O (λ_=>ak0 hM) xB ?_;intro y7 O;cbv;cases O;exact hR _ _ _ oW oW rfl
 intro O;cbv;refine rD hS ?_;cbv;refine kV ?_;intro x8 O;cbv;refine jK hS O (λ_=>c179 hM) ?_;intro y9 O;cbv;refine jc ?_ ?_
 intro O;cbv;refine qi hS O (λ_=>ak0 hM) (le_eq rfl) ?_;intro I O;cbv;cases O;exact hR _ _ _ oW oW rfl
 intro O;cbv;refine qi hS O (λ_=>o77 hM) (le_eq rfl) ?_;intro g O;cbv;cases O;exact hR _ _ _ oW oW rfl
end
end Go.Proofs.YtlacmdnhabblcaaGreat
