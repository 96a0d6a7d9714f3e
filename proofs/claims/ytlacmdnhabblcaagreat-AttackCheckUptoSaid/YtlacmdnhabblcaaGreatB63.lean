import Derived.Test.YtlacmdnhabblcaaGreatB44
import Derived.Test.YtlacmdnhabblcaaGreatB62
set_option linter.all false
namespace Go.Proofs.YtlacmdnhabblcaaGreat
open Go Go.Pv Proofs.Tryz
set_option maxRecDepth 100000
set_option maxHeartbeats 2000000
section
variable {M:kM}(hM:M=jT)
include hM
theorem c110 {l:List iL}{o:iL}{r:Bool}(O:CW l o=some r):iI 110 [.sl 3 (M.m iL (iQ M) l) false,.agg (iQ M o)] (λu=>u=.sb r):=by
 refine jB jm func110 call110 ?_;intro S R hS hR;have q:=sf hM hS;unfold CW at O;cbv;refine kE hS jm wf [] [0,3,5] (λs1=>f3 18 [(0,.sl 3 (M.m iL (iQ M) l) false),(3,.lv 0 0),(5,sI s1)] [vR (iQ M o)]) O ?_;intro Ik2 k2 s1 hk2 O e he;subst he;unfold zW at O;cbv;refine jc ?_ ?_
 intro O;cbv;refine rD hS ?_;cbv;refine kV ?_;intro x4 O;cbv;replace O:=pO O;refine jc ?_ ?_
 exact jr
 exact jv
 exact jr
end
section
variable {M:kM}(hM:M=jT)
include hM
theorem c107 {x:iL}{c1:iL}{r:Bool}(O:yC x c1=some r):iI 107 [.agg (iQ M x),.pp (iQ M c1)] (λu=>u=.sb r):=by
 refine jB jm func107 call107 ?_;intro S R hS hR;have q:=sf hM hS;unfold yC at O;cbv;exact tu
theorem c109 {x:iL}{c1:Int}{r:Bool}(O:vW x c1=some r):iI 109 [.agg (iQ M x),.pp [sI c1]] (λu=>u=.sb r):=by
 refine jB jm func109 call109 ?_;intro S R hS hR;have q:=sf hM hS;unfold vW at O;cbv;exact tu
theorem c223 {o:iW}{c1:Int}{r:Bool}(O:CS o c1=some r):iI 223 [.agg (ja M o),.pp [sI c1]] (λu=>u=.sb r):=by
 refine jB jm func223 call223 ?_;intro S R hS hR;have q:=sf hM hS;unfold CS at O;cbv;exact tu
end
section
variable {M:kM}(hM:M=jT)
include hM
theorem anG {s:List iL}{U:iL}{r:Int}(O:mi s (λa0=>yC a0 U)=some r):iI 140 [.sl 3 (M.m iL (iQ M) s) false,.fn 107 [.pp (iQ M U)]] (λu=>u=sI r):=by
 refine jB jm func140 call140 ?_;intro S R hS hR;have q:=sf hM hS;unfold mi at O;cbv;refine kE hS jm wf [] [0,1,7,8] (λT=>f3 19 [(0,.sl 3 (M.m iL (iQ M) s) false),(1,.fn 107 [.pp (iQ M U)]),(7,sI (S.len (M.m iL (iQ M) s))),(8,sI T)] []) O ?_;intro I k2 T J O e he;subst he;unfold nU at O;cbv;refine jc ?_ ?_
 intro O;cbv;refine kV ?_;intro C O;cbv;refine jK hS O (λ_=>c107 hM) ?_;intro g O;cbv;refine jA hS O rfl ?_ ?_
 exact jr
 exact jv
 exact jr
theorem anH {s:List iW}{U:Int}{r:Int}(O:jF s (λa0=>CS a0 U)=some r):iI 114 [.sl 19 (M.m iW (ja M) s) false,.fn 223 [.pp [sI U]]] (λu=>u=sI r):=by
 refine jB jm func114 call114 ?_;intro S R hS hR;have q:=sf hM hS;unfold jF at O;cbv;refine kE hS jm wf [] [0,1,7,8] (λT=>f3 19 [(0,.sl 19 (M.m iW (ja M) s) false),(1,.fn 223 [.pp [sI U]]),(7,sI (S.len (M.m iW (ja M) s))),(8,sI T)] []) O ?_;intro I k2 T J O e he;subst he;unfold kG at O;cbv;refine jc ?_ ?_
 intro O;cbv;refine kV ?_;intro C O;cbv;refine jK hS O (λ_=>c223 hM) ?_;intro g O;cbv;refine jA hS O rfl ?_ ?_
 exact jr
 exact jv
 exact jr
theorem anI {s:List iL}{U:Int}{r:Int}(O:mi s (λa0=>vW a0 U)=some r):iI 140 [.sl 3 (M.m iL (iQ M) s) false,.fn 109 [.pp [sI U]]] (λu=>u=sI r):=by
 refine jB jm func140 call140 ?_;intro S R hS hR;have q:=sf hM hS;unfold mi at O;cbv;refine kE hS jm wf [] [0,1,7,8] (λT=>f3 19 [(0,.sl 3 (M.m iL (iQ M) s) false),(1,.fn 109 [.pp [sI U]]),(7,sI (S.len (M.m iL (iQ M) s))),(8,sI T)] []) O ?_;intro I k2 T J O e he;subst he;unfold nU at O;cbv;refine jc ?_ ?_
 intro O;cbv;refine kV ?_;intro C O;cbv;refine jK hS O (λ_=>c109 hM) ?_;intro g O;cbv;refine jA hS O rfl ?_ ?_
 exact jr
 exact jv
 exact jr
end
section
variable {M:kM}(hM:M=jT)
include hM
theorem c165 {s:iT}{all:List iM}{id:Int}{key:Int}{r:Bool}(O:IG s all id key=some r):iI 165 [.agg (jb M s),.sl 17 (M.m iM (iY M) all) false,sI id,sI key] (λu=>u=.sb r):=by
 refine jB jm func165 call165 ?_;intro S R hS hR;have q:=sf hM hS;unfold IG at O;cbv;refine tN hS O (λ_=>anH hM) (le_eq rfl) (λ_=>rfl) ?_;intro y1 O;cbv;refine jc ?_ ?_
 intro O;cbv;refine jc ?_ ?_
 intro O;cbv;refine kV ?_;intro x2 O;cbv;refine jK hS O (λ_=>c56 hM) ?_;exact kS
 exact jr
 exact jr
theorem apv {s:List iL}{U:iL}{r:Bool}(O:jZ s (λa0=>yC a0 U)=some r):iI 64 [.sl 3 (M.m iL (iQ M) s) false,.fn 107 [.pp (iQ M U)]] (λu=>u=.sb r):=by
 refine jB jm func64 call64 ?_;intro S R hS hR;have q:=sf hM hS;unfold jZ at O;cbv;refine jK hS O (λ_=>anG hM) ?_;exact kS
theorem apw {s:List iL}{U:Int}{r:Bool}(O:jZ s (λa0=>vW a0 U)=some r):iI 64 [.sl 3 (M.m iL (iQ M) s) false,.fn 109 [.pp [sI U]]] (λu=>u=.sb r):=by
 refine jB jm func64 call64 ?_;intro S R hS hR;have q:=sf hM hS;unfold jZ at O;cbv;refine jK hS O (λ_=>anI hM) ?_;exact kS
end
section
variable {M:kM}(hM:M=jT)
include hM
theorem c111 {s:iT}{all:List iM}{r:List Int}(O:II s all=some r):iI 111 [.agg (jb M s),.sl 17 (M.m iM (iY M) all) false] (λu=>u=.sl 1 (mI M r) false):=by
 refine jB (je [11,22]) func111 call111 ?_;intro S R hS hR;have q:=sf hM hS;unfold II at O;cbv;refine jK hS O (λ_=>c47 hM) ?_;intro y1 O;cbv;refine kE hS (je [11,22]) wf [.tO 5 1] [1,2,5,6,7] (λs2=>f3 57 [(1,.sl 17 (M.m iM (iY M) all) false),(2,.lv 0 0),(5,.os 1 0 (S.jD (mI M s2.2))),(6,.sl 3 (M.m iL (iQ M) y1) false),(7,sI s2.1)] [vR (jb M s),aR 1 (mI M s2.2)]) O ?_;intro Ik3 k3 s2 hk3 O e he;subst he;unfold EL at O;cbv;refine jc ?_ ?_
 intro O;cbv;refine jk hS [.tO 5 1] [1,2,5,6,7] (λs5=>f3 57 [(1,.sl 17 (M.m iM (iY M) all) false),(2,.lv 0 0),(5,.os 1 0 (S.jD (mI M s5))),(6,.sl 3 (M.m iL (iQ M) y1) false),(7,sI s2.1)] [vR (jb M s),aR 1 (mI M s5)]) O ?_ ?_
 intro Ik6 k6 hk6 O;cbv;refine kE hS (je [11,22]) wf [] [1,2,5,6,7,8,9] (λs8=>f3 57 [(1,.sl 17 (M.m iM (iY M) all) false),(2,.lv 0 0),(5,.os 1 0 (S.jD (mI M s2.2))),(6,.sl 3 (M.m iL (iQ M) y1) false),(7,sI s2.1),(8,.sb s8.1),(9,sI s8.2)] [vR (jb M s),aR 1 (mI M s2.2)]) O ?_;intro Ik9 k9 s8 hk9 O e he;subst he;unfold EK at O;cbv;refine jc ?_ ?_
 intro O;cbv;refine rD hS ?_;cbv;refine jA hS O rfl ?_ ?_
 exact jv
 intro O;cbv;refine kV ?_;intro x11 O;cbv;refine kV ?_;exact lu
 intro O;cbv;refine jk hS [] [1,2,5,6,7,46] (λs13=>f3 57 [(1,.sl 17 (M.m iM (iY M) all) false),(2,.lv 0 0),(5,.os 1 0 (S.jD (mI M s2.2))),(6,.sl 3 (M.m iL (iQ M) y1) false),(7,sI s2.1),(46,.sb s13)] [vR (jb M s),aR 1 (mI M s2.2)]) O ?_ ?_
 intro Ik14 k14 hk14 O;cbv;refine jA hS O rfl ?_ ?_
 intro O;cbv;refine jK hS O (λ_=>agA hM) ?_;exact lu
 exact jv
 intro s13 O;cbv;refine jA hS O rfl ?_ ?_
 intro O;cbv;refine kV ?_;intro x17 O;cbv;refine jM hS O lS ?_;exact jv
 exact jv
 intro s5 O;cbv;exact ng
 exact jr
theorem c108 {s:iT}{all:List iM}{r:List Int}(O:Fq s all=some r):iI 108 [.agg (jb M s),.sl 17 (M.m iM (iY M) all) false] (λu=>u=.sl 1 (mI M r) false):=by
 refine jB (je [10,15]) func108 call108 ?_;intro S R hS hR;have q:=sf hM hS;unfold Fq at O;cbv;refine jK hS O (λ_=>c46 hM) ?_;intro y1 O;cbv;refine kE hS (je [10,15]) wf [.tO 5 1] [1,2,5,10,11,12] (λs2=>f3 35 [(1,.sl 17 (M.m iM (iY M) all) false),(2,.lv 0 0),(5,.os 1 0 (S.jD (mI M s2.2))),(10,.sl 3 (M.m iL (iQ M) y1) false),(11,sI (S.len (M.m iL (iQ M) y1))),(12,sI s2.1)] [vR (jb M s),aR 1 (mI M s2.2)]) O ?_;intro Ik3 k3 s2 hk3 O e he;subst he;unfold CU at O;cbv;refine jc ?_ ?_
 intro O;cbv;refine jk hS [.tO 5 1] [1,2,5,10,11,12] (λs5=>f3 35 [(1,.sl 17 (M.m iM (iY M) all) false),(2,.lv 0 0),(5,.os 1 0 (S.jD (mI M s5))),(10,.sl 3 (M.m iL (iQ M) y1) false),(11,sI (S.len (M.m iL (iQ M) y1))),(12,sI s2.1)] [vR (jb M s),aR 1 (mI M s5)]) O ?_ ?_
 intro Ik6 k6 hk6 O;cbv;refine kV ?_;intro x8 O;cbv;refine jk hS [] [1,2,5,7,10,11,12,27] (λs9=>f3 35 [(1,.sl 17 (M.m iM (iY M) all) false),(2,.lv 0 0),(5,.os 1 0 (S.jD (mI M s2.2))),(7,.lv 2 0),(10,.sl 3 (M.m iL (iQ M) y1) false),(11,sI (S.len (M.m iL (iQ M) y1))),(12,sI s2.1),(27,.sb s9)] [vR (jb M s),aR 1 (mI M s2.2),vR (iQ M x8)]) O ?_ ?_
 intro Ik10 k10 hk10 O;cbv;refine jK hS O (λ_=>c165 hM) ?_;intro y12 O;cbv;refine jA hS O rfl ?_ ?_
 intro O;cbv;refine tN hS O (λ_=>aoJ hM) xB (λ_=>rfl) ?_;exact lu
 exact jv
 intro s9 O;cbv;refine jA hS O rfl ?_ ?_
 intro O;cbv;refine jM hS O lS ?_;exact jv
 exact jv
 intro s5 O;cbv;exact ng
 exact jr
end
section
variable {M:kM}(hM:M=jT)
include hM
theorem c49 {s:iT}{all:List iM}{l:List iL}{r:Int}(O:L9 s all l=some r):iI 49 [.agg (jb M s),.sl 17 (M.m iM (iY M) all) false,.sl 3 (M.m iL (iQ M) l) false] (λu=>u=sI r):=by
 refine jB jm func49 call49 ?_;intro S R hS hR;have q:=sf hM hS;unfold L9 at O;cbv;refine jK hS O (λ_=>c47 hM) ?_;intro y1 O;cbv;refine kE hS jm wf [] [1,2,3,7,8] (λs2=>f3 76 [(1,.sl 17 (M.m iM (iY M) all) false),(2,.sl 3 (M.m iL (iQ M) l) false),(3,.lv 0 0),(7,.sl 3 (M.m iL (iQ M) y1) false),(8,sI s2)] [vR (jb M s)]) O ?_;intro Ik3 k3 s2 hk3 O e he;subst he;unfold GG at O;cbv;refine jc ?_ ?_
 intro O;cbv;refine kV ?_;intro x5 O;cbv;refine jK hS O (λ_=>c110 hM) ?_;intro y6 O;cbv;refine jc ?_ ?_
 exact jr
 intro O;cbv;refine kE hS jm wf [] [1,2,3,7,8,9] (λs7=>f3 76 [(1,.sl 17 (M.m iM (iY M) all) false),(2,.sl 3 (M.m iL (iQ M) l) false),(3,.lv 0 0),(7,.sl 3 (M.m iL (iQ M) y1) false),(8,sI s2),(9,sI s7)] [vR (jb M s)]) O ?_;intro Ik8 k8 s7 hk8 O e he;subst he;unfold Gx at O;cbv;refine jc ?_ ?_
 intro O;cbv;refine rD hS ?_;cbv;refine kV ?_;intro x10 O;cbv;refine kV ?_;intro x11 O;cbv;refine jc ?_ ?_
 exact jr
 exact jv
 exact jv
 intro O;cbv;refine jK hS O (λ_=>c111 hM) ?_;intro y12 O;cbv;refine kE hS jm wf [] [2,10,11] (λs13=>f3 76 [(2,.sl 3 (M.m iL (iQ M) l) false),(10,.sl 1 (mI M y12) false),(11,sI s13)] []) O ?_;intro Ik14 k14 s13 hk14 O e he;subst he;unfold Gz at O;cbv;refine jc ?_ ?_
 intro O;cbv;refine kE hS jm wf [] [2,10,11,12,13] (λs16=>f3 76 [(2,.sl 3 (M.m iL (iQ M) l) false),(10,.sl 1 (mI M y12) false),(11,sI s13),(12,.sb s16.1),(13,sI s16.2)] []) O ?_;intro Ik17 k17 s16 hk17 O e he;subst he;unfold Gy at O;cbv;refine jc ?_ ?_
 intro O;cbv;refine rD hS ?_;cbv;refine jA hS O rfl ?_ ?_
 exact jv
 intro O;cbv;refine kV ?_;intro x19 O;cbv;refine kV ?_;exact lu
 intro O;cbv;refine jc ?_ ?_
 exact jr
 exact jv
 exact jr
theorem c48 {s:iT}{all:List iM}{l:List iL}{r:Int}(O:CV s all l=some r):iI 48 [.agg (jb M s),.sl 17 (M.m iM (iY M) all) false,.sl 3 (M.m iL (iQ M) l) false] (λu=>u=sI r):=by
 refine jB (je [12]) func48 call48 ?_;intro S R hS hR;have q:=sf hM hS;unfold CV at O;cbv;refine jK hS O (λ_=>c46 hM) ?_;intro y1 O;cbv;refine kE hS (je [12]) wf [] [1,2,3,7,16,17,18] (λs2=>f3 49 [(1,.sl 17 (M.m iM (iY M) all) false),(2,.sl 3 (M.m iL (iQ M) l) false),(3,.lv 0 0),(7,.sl 3 (M.m iL (iQ M) y1) false),(16,.sl 3 (M.m iL (iQ M) l) false),(17,sI (S.len (M.m iL (iQ M) l))),(18,sI s2)] [vR (jb M s)]) O ?_;intro Ik3 k3 s2 hk3 O e he;subst he;unfold zV at O;cbv;refine jc ?_ ?_
 intro O;cbv;refine kV ?_;intro x5 O;cbv;refine ZQ hS O lS rfl rfl ?_;intro x6 bx6 O;cbv;refine tN hS O (λ_=>apv hM) xB (λ_=>rfl) ?_;intro y7 O;cbv;refine jk hS [] [1,2,3,7,16,17,18,34] (λs8=>f3 49 [(1,.sl 17 (M.m iM (iY M) all) false),(2,.sl 3 (M.m iL (iQ M) l) false),(3,.lv 0 0),(7,.sl 3 (M.m iL (iQ M) y1) false),(16,.sl 3 (M.m iL (iQ M) l) false),(17,sI (S.len (M.m iL (iQ M) l))),(18,sI s2),(34,.sb s8)] [vR (jb M s)]) O ?_ ?_
 intro Ik9 k9 hk9 O;cbv;refine jA hS O rfl ?_ ?_
 exact jv
 intro O;cbv;refine jK hS O (λ_=>c66 hM) ?_;exact lu
 intro s8 O;cbv;refine jA hS O rfl ?_ ?_
 exact jr
 exact jv
 intro O;cbv;refine jK hS O (λ_=>c108 hM) ?_;intro y12 O;cbv;refine kE hS (je [12]) wf [] [2,38,39,40] (λs13=>f3 49 [(2,.sl 3 (M.m iL (iQ M) l) false),(38,.sl 1 (mI M y12) false),(39,sI (S.len (mI M y12))),(40,sI s13)] []) O ?_;intro Ik14 k14 s13 hk14 O e he;subst he;unfold zU at O;cbv;refine jc ?_ ?_
 intro O;cbv;refine kV ?_;intro x16 O;cbv;refine tN hS O (λ_=>apw hM) (le_eq rfl) (λ_=>rfl) ?_;intro y17 O;cbv;refine jc ?_ ?_
 exact jr
 exact jv
 exact jr
end
end Go.Proofs.YtlacmdnhabblcaaGreat
