import Derived.Test.YtlacmdnhabblcaaGreatB22
set_option linter.all false
namespace Go.Proofs.YtlacmdnhabblcaaGreat
open Go Go.Pv Proofs.Tryz
set_option maxRecDepth 100000
set_option maxHeartbeats 2000000
section
variable {M:kM}(hM:M=jT)
include hM
theorem c125 {c:jI}{r:Bool}(O:Pm c=some r):iI 125 [.agg (lJ M c)] (λu=>u=.sb r):=by
 refine jB (je [2,6,17,28]) func125 call125 ?_;intro S R hS hR;have q:=sf hM hS;unfold Pm at O;cbv;refine jk hS [] [1,36] (λs1=>f3 139 [(1,.lv 0 0),(36,.sb s1)] [vR (lJ M c)]) O ?_ ?_
 intro Ik2 k2 hk2 O;cbv;refine jK hS O (λ_=>c183 hM) ?_;intro y4 O;cbv;refine jc ?_ ?_
 exact jv
 intro O;cbv;refine jK hS O (λ_=>agr hM) ?_;intro y5 O;cbv;refine jc ?_ ?_
 exact jv
 intro O;cbv;refine jK hS O (λ_=>c185 hM) ?_;intro y6 O;cbv;refine jc ?_ ?_
 exact jv
 intro O;cbv;refine jK hS O (λ_=>aoD hM) ?_;intro y7 O;cbv;refine jc ?_ ?_
 exact jv
 intro O;cbv;refine jc ?_ ?_<;>exact jv
 intro s1 O;cbv;refine jA hS O rfl ?_ ?_
 exact jr
 intro O;cbv;refine jk hS [] [1,75] (λs8=>f3 139 [(1,.lv 0 0),(75,.sb s8)] [vR (lJ M c)]) O ?_ ?_
 intro Ik9 k9 hk9 O;cbv;refine jc ?_ ?_
 exact jv
 intro O;cbv;refine jc ?_ ?_
 exact jv
 intro O;cbv;refine jc ?_ ?_
 exact jv
 intro O;cbv;refine jc ?_ ?_
 exact jv
 intro O;cbv;refine jK hS O (λ_=>c187 hM) ?_;intro y11 O;cbv;refine jc ?_ ?_
 intro O;cbv;refine jc ?_ ?_
 exact jv
 intro O;cbv;refine jc ?_ ?_<;>exact jv
 exact jv
 intro s8 O;cbv;refine jA hS O rfl ?_ ?_
 exact jr
 intro O;cbv;refine kE hS (je [2,6,17,28]) wf [] [1,3,4] (λs12=>f3 139 [(1,.lv 0 0),(3,sI s12.1),(4,sI s12.2)] [vR (lJ M c)]) O ?_;intro Ik13 k13 s12 hk13 O e he;subst he;unfold U4 at O;cbv;refine jc ?_ ?_
 intro O;cbv;refine jk hS [] [1,3,4] (λs15=>f3 139 [(1,.lv 0 0),(3,sI s15),(4,sI s12.2)] [vR (lJ M c)]) O ?_ ?_
 intro Ik16 k16 hk16 O;cbv;refine kV ?_;intro x18 O;cbv;refine jK hS O (λ_=>akS hM) ?_;intro y19 O;cbv;refine jc ?_ ?_
 exact jr
 intro O;cbv;refine kV ?_;intro x20 O;cbv;refine jc ?_ ?_<;>exact jv
 intro s15 O;cbv;exact ng
 intro O;cbv;refine jK hS O (λ_=>c189 hM) ?_;intro y21 O;cbv;refine jA hS O rfl ?_ ?_
 intro O;cbv;refine jk hS [] [2] (λs22=>f3 139 [(2,.sb s22)] []) O ?_ ?_
 intro Ik23 k23 hk23 O;cbv;refine jc ?_ ?_
 intro O;cbv;refine jc ?_ ?_
 intro O;cbv;refine jc ?_ ?_<;>exact jv
 exact jv
 exact jv
 intro s22 O;cbv;exact tu
 intro O;cbv;refine jc ?_ ?_
 intro O;cbv;refine jc ?_ ?_
 intro O;cbv;refine jc ?_ ?_
 exact jr
 intro O;cbv;replace O:=pO O;exact tu
 intro O;cbv;replace O:=pO O;exact tu
 exact jr
theorem c195 {s:iT}{x:ou}{r:Bool}(O:PH s x=some r):iI 195 [.agg (jb M s),.agg (pM M x)] (λu=>u=.sb r):=by
 refine jB (je [2,12]) func195 call195 ?_;intro S R hS hR;have q:=sf hM hS;unfold PH at O;cbv;refine jk hS [] [2,3,33] (λs1=>f3 81 [(2,.lv 0 0),(3,.lv 1 0),(33,.sb s1)] [vR (jb M s),vR (pM M x)]) O ?_ ?_
 intro Ik2 k2 hk2 O;cbv;refine qU hS O (λ_=>TT hM) xB ?_;intro y4 O;cbv;refine jc ?_ ?_
 exact jv
 intro O;cbv;refine jK hS O (λ_=>TT hM) ?_;intro y5 O;cbv;refine jc ?_ ?_
 exact jv
 intro O;cbv;refine jc ?_ ?_
 exact jv
 intro O;cbv;refine jK hS O (λ_=>c130 hM) ?_;exact lu
 intro s1 O;cbv;refine jA hS O rfl ?_ ?_
 exact jr
 intro O;cbv;refine jK hS O (λ_=>aoN hM) ?_;intro y7 O;cbv;refine jc ?_ ?_
 intro O;cbv;refine qU hS O (λ_=>c271 hM) oW ?_;intro y8 O;cbv;refine jk hS [] [4] (λs9=>f3 81 [(4,.sb s9)] []) O ?_ ?_
 intro Ik10 k10 hk10 O;cbv;refine jc ?_ ?_
 intro O;cbv;refine jA hS O rfl ?_ ?_
 intro O;cbv;refine jc ?_ ?_
 intro O;cbv;refine jA hS O rfl ?_ ?_
 exact jv
 intro O;cbv;refine jK hS O (λ_=>akS hM) ?_;exact lu
 exact jv
 exact jv
 exact jv
 intro s9 O;cbv;exact tu
 intro O;cbv;refine jc ?_ ?_
 intro O;cbv;refine jc ?_ ?_
 intro O;cbv;refine jK hS O (λ_=>akS hM) ?_;exact kS
 exact jr
 exact jr
theorem c19 {cards:List jI}{s:iT}{r:List iM}(O:zM cards s=some r):iI 19 [.sl 17 (M.m jI (lJ M) cards) false,.agg (jb M s)] (λu=>u=.sl 17 (M.m iM (iY M) r) false):=by
 refine jB (je [6]) func19 call19 ?_;intro S R hS hR;have q:=sf hM hS;unfold zM at O;cbv;refine jK hS O (λ_=>c60 hM) ?_;intro y1 O;cbv;refine GU hS (je [6]) wf 10 ?_;intro g2 hg2;refine hg2 _ _ ?_;cbv;refine nJ hS ?_;cbv;refine jK hS O (λ_=>c61 hM) ?_;intro y3 O;cbv;refine hg2 _ _ ?_;cbv;refine nJ hS ?_;cbv;refine jK hS O (λ_=>c61 hM) ?_;intro y4 O;cbv;refine hg2 _ _ ?_;cbv;refine nJ hS ?_;cbv;refine jK hS O (λ_=>c61 hM) ?_;intro y5 O;cbv;refine hg2 _ _ ?_;cbv;refine nJ hS ?_;cbv;refine jK hS O (λ_=>c61 hM) ?_;intro y6 O;cbv;refine hg2 _ _ ?_;cbv;refine nJ hS ?_;cbv;refine jK hS O (λ_=>c61 hM) ?_;intro y7 O;cbv;refine hg2 _ _ ?_;cbv;refine nJ hS ?_;cbv;refine jK hS O (λ_=>c61 hM) ?_;intro y8 O;cbv;refine hg2 _ _ ?_;cbv;refine nJ hS ?_;cbv;refine jK hS O (λ_=>c61 hM) ?_;intro y9 O;cbv;refine hg2 _ _ ?_;cbv;refine nJ hS ?_;cbv;refine jK hS O (λ_=>c61 hM) ?_;intro y10 O;cbv;refine hg2 _ _ ?_;cbv;refine nJ hS ?_;cbv;exact tu
end
section
variable {M:kM}(hM:M=jT)
include hM
theorem c132 {s:iT}{r:Bool}(O:Lj s=some r):iI 132 [.agg (jb M s)] (λu=>u=.sb r):=by
 refine jB (je [2,34,46]) func132 call132 ?_;intro S R hS hR;have q:=sf hM hS;unfold Lj at O;cbv;refine jk hS [] [1,24] (λs1=>f3 129 [(1,.lv 0 0),(24,.sb s1)] [vR (jb M s)]) O ?_ ?_
 intro Ik2 k2 hk2 O;cbv;refine jc ?_ ?_
 exact jv
 intro O;cbv;refine jc ?_ ?_<;>exact jv
 intro s1 O;cbv;refine jA hS O rfl ?_ ?_
 exact jr
 intro O;cbv;refine kE hS (je [2,34,46]) wf [] [1,3] (λs4=>f3 129 [(1,.lv 0 0),(3,sI s4)] [vR (jb M s)]) O ?_;intro Ik5 k5 s4 hk5 O e he;subst he;unfold Nv at O;cbv;refine jc ?_ ?_
 intro O;cbv;refine rD hS ?_;cbv;refine kV ?_;intro x7 O;cbv;refine rZ hS O (λ_=>c195 hM) ?_;intro y8 O;cbv;refine jc ?_ ?_
 exact jr
 intro O;cbv;refine kE hS (je [2,34,46]) wf [] [1,3,4] (λs9=>f3 129 [(1,.lv 0 0),(3,sI s4),(4,sI s9)] [vR (jb M s)]) O ?_;intro Ik10 k10 s9 hk10 O e he;subst he;unfold Nr at O;cbv;refine jc ?_ ?_
 intro O;cbv;refine rD hS ?_;cbv;refine kV ?_;intro x12 O;cbv;refine kV ?_;intro x13 O;cbv;refine jc ?_ ?_
 exact jr
 exact jv
 exact jv
 intro O;cbv;refine kE hS (je [2,34,46]) wf [] [1,5] (λs14=>f3 129 [(1,.lv 0 0),(5,sI s14)] [vR (jb M s)]) O ?_;intro Ik15 k15 s14 hk15 O e he;subst he;unfold Nu at O;cbv;refine jc ?_ ?_
 intro O;cbv;refine kV ?_;intro x17 O;cbv;refine jk hS [] [1,5,86] (λs18=>f3 129 [(1,.lv 0 0),(5,sI s14),(86,.sb s18)] [vR (jb M s)]) O ?_ ?_
 intro Ik19 k19 hk19 O;cbv;refine jK hS O (λ_=>c130 hM) ?_;intro y21 O;cbv;refine jc ?_ ?_
 exact jv
 intro O;cbv;refine jc ?_ ?_
 exact jv
 intro O;cbv;refine jK hS O (λ_=>akS hM) ?_;exact lu
 intro s18 O;cbv;refine jA hS O rfl ?_ ?_
 exact jr
 exact jv
 intro O;cbv;refine kE hS (je [2,34,46]) wf [] [1,7] (λs23=>f3 129 [(1,.lv 0 0),(7,sI s23)] [vR (jb M s)]) O ?_;intro Ik24 k24 s23 hk24 O e he;subst he;unfold Ns at O;cbv;refine jc ?_ ?_
 intro O;cbv;refine kV ?_;intro x26 O;cbv;refine jk hS [] [1,7,128] (λs27=>f3 129 [(1,.lv 0 0),(7,sI s23),(128,.sb s27)] [vR (jb M s)]) O ?_ ?_
 intro Ik28 k28 hk28 O;cbv;refine jK hS O (λ_=>c130 hM) ?_;intro y30 O;cbv;refine jc ?_ ?_
 exact jv
 intro O;cbv;refine jc ?_ ?_
 exact jv
 intro O;cbv;refine jK hS O (λ_=>TT hM) ?_;intro y31 O;cbv;refine jc ?_ ?_
 exact jv
 intro O;cbv;refine jK hS O (λ_=>c196 hM) ?_;intro y32 O;cbv;refine jc ?_ ?_
 exact jv
 intro O;cbv;refine jK hS O (λ_=>am5 hM) ?_;exact lu
 intro s27 O;cbv;refine jA hS O rfl ?_ ?_
 exact jr
 exact jv
 exact jr
theorem c58 {l:List jI}{r:Int×Int}(O:Ap l=some r):iI 58 [.sl 17 (M.m jI (lJ M) l) false] (λu=>u=.IX [sI r.1,sI r.2]):=by
 refine jB jm func58 call58 ?_;intro S R hS hR;have q:=sf hM hS;unfold Ap at O;cbv;refine jc ?_ ?_
 exact jr
 intro O;cbv;refine kE hS jm wf [] [0,4] (λs1=>f3 39 [(0,.sl 17 (M.m jI (lJ M) l) false),(4,sI s1)] []) O ?_;intro Ik2 k2 s1 hk2 O e he;subst he;unfold Gj at O;cbv;refine jc ?_ ?_
 intro O;cbv;refine kV ?_;intro x4 O;cbv;refine jK hS O (λ_=>c125 hM) ?_;intro y5 O;cbv;refine jc ?_ ?_
 exact jr
 intro O;cbv;refine kV ?_;intro x6 O;cbv;refine jK hS O (λ_=>c126 hM) ?_;intro y7 O;cbv;refine jc ?_ ?_
 exact jr
 intro O;cbv;refine kV ?_;intro x8 O;cbv;refine jK hS O (λ_=>c127 hM) ?_;intro y9 O;cbv;refine jc ?_ ?_
 exact jr
 exact jv
 exact jr
end
section
variable {M:kM}(hM:M=jT)
include hM
theorem c59 {cards:List jI}{s:iT}{r:Bool}(O:uN cards s=some r):iI 59 [.sl 17 (M.m jI (lJ M) cards) false,.agg (jb M s)] (λu=>u=.sb r):=by
 refine jB (je [2,6,20]) func59 call59 ?_;intro S R hS hR;have q:=sf hM hS;unfold uN at O;cbv;refine jk hS [] [0,3,33] (λs1=>f3 114 [(0,.sl 17 (M.m jI (lJ M) cards) false),(3,.lv 0 0),(33,.sb s1)] [vR (jb M s)]) O ?_ ?_
 intro Ik2 k2 hk2 O;cbv;refine jK hS O (λ_=>TT hM) ?_;intro y4 O;cbv;refine jc ?_ ?_
 exact jv
 intro O;cbv;refine jK hS O (λ_=>TT hM) ?_;intro y5 O;cbv;refine jc ?_ ?_
 exact jv
 intro O;cbv;refine jK hS O (λ_=>TT hM) ?_;intro y6 O;cbv;refine jc ?_ ?_
 exact jv
 intro O;cbv;refine jK hS O (λ_=>TT hM) ?_;intro y7 O;cbv;refine jc ?_ ?_<;>exact jv
 intro s1 O;cbv;refine jA hS O rfl ?_ ?_
 exact jr
 intro O;cbv;refine jk hS [] [0,3,71] (λs8=>f3 114 [(0,.sl 17 (M.m jI (lJ M) cards) false),(3,.lv 0 0),(71,.sb s8)] [vR (jb M s)]) O ?_ ?_
 intro Ik9 k9 hk9 O;cbv;refine jK hS O (λ_=>c129 hM) ?_;intro y11 O;cbv;refine jc ?_ ?_
 exact jv
 intro O;cbv;refine jK hS O (λ_=>c130 hM) ?_;intro y12 O;cbv;refine jc ?_ ?_
 exact jv
 intro O;cbv;refine jK hS O (λ_=>c130 hM) ?_;intro y13 O;cbv;refine jc ?_ ?_
 exact jv
 intro O;cbv;refine qU hS O (λ_=>TT hM) xB ?_;intro y14 O;cbv;refine jc ?_ ?_
 exact jv
 intro O;cbv;refine jc ?_ ?_
 exact jv
 intro O;cbv;refine jK hS O (λ_=>TT hM) ?_;exact lu
 intro s8 O;cbv;refine jA hS O rfl ?_ ?_
 exact jr
 intro O;cbv;refine kE hS (je [2,6,20]) wf [] [0,3,5] (λs16=>f3 114 [(0,.sl 17 (M.m jI (lJ M) cards) false),(3,.lv 0 0),(5,sI s16)] [vR (jb M s)]) O ?_;intro Ik17 k17 s16 hk17 O e he;subst he;unfold DN at O;cbv;refine jc ?_ ?_
 intro O;cbv;refine rD hS ?_;cbv;refine kV ?_;intro x19 O;cbv;refine rZ hS O (λ_=>c130 hM) ?_;intro y20 O;cbv;refine jc ?_ ?_
 exact jr
 exact jv
 intro O;cbv;refine jk hS [] [0,3,106] (λs21=>f3 114 [(0,.sl 17 (M.m jI (lJ M) cards) false),(3,.lv 0 0),(106,.sb s21)] [vR (jb M s)]) O ?_ ?_
 intro Ik22 k22 hk22 O;cbv;refine jc ?_ ?_
 intro O;cbv;refine jK hS O (λ_=>c130 hM) ?_;intro y24 O;cbv;refine jc ?_ ?_
 exact jv
 intro O;cbv;refine jc ?_ ?_<;>exact jv
 intro O;cbv;refine jc ?_ ?_<;>exact jv
 intro s21 O;cbv;refine jA hS O rfl ?_ ?_
 exact jr
 intro O;cbv;refine jK hS O (λ_=>c131 hM) ?_;intro y25 O;cbv;refine jA hS O rfl ?_ ?_
 intro O;cbv;refine jK hS O (λ_=>c132 hM) ?_;exact kS
 exact jr
end
end Go.Proofs.YtlacmdnhabblcaaGreat
