import Derived.Test.YtlacmdnhabblcaaGreatB16
import Derived.Test.YtlacmdnhabblcaaGreatB42
set_option linter.all false
namespace Go.Proofs.YtlacmdnhabblcaaGreat
open Go Go.Pv Proofs.Tryz
set_option maxRecDepth 100000
set_option maxHeartbeats 2000000
section
variable {M:kM}(hM:M=jT)
include hM
theorem c166 {s:iT}{r:List Int}(O:CG s=some r):iI 166 [.agg (jb M s)] (λu=>u=.sl 1 (mI M r) false):=by
 refine jB (je [15]) func166 call166 ?_;intro S R hS hR;have q:=sf hM hS;unfold CG at O;cbv;refine kE hS (je [15]) wf [.tO 3 1] [3,7,8,9] (λs1=>f3 23 [(3,.os 0 0 (S.jD (mI M s1.2))),(7,.sl 14 (M.m kD (lF M) s.ji) false),(8,sI (S.len (M.m kD (lF M) s.ji))),(9,sI s1.1)] [aR 1 (mI M s1.2)]) O ?_;intro Ik2 k2 s1 hk2 O e he;subst he;unfold zQ at O;cbv;refine jc ?_ ?_
 intro O;cbv;refine jk hS [.tO 3 1] [3,7,8,9] (λs4=>f3 23 [(3,.os 0 0 (S.jD (mI M s4))),(7,.sl 14 (M.m kD (lF M) s.ji) false),(8,sI (S.len (M.m kD (lF M) s.ji))),(9,sI s1.1)] [aR 1 (mI M s4)]) O ?_ ?_
 intro Ik5 k5 hk5 O;cbv;refine kV ?_;intro x7 O;cbv;refine jc ?_ ?_
 intro O;cbv;refine jM hS O lS ?_;exact jv
 exact jv
 intro s4 O;cbv;exact ng
 exact jr
end
section
variable {M:kM}(hM:M=jT)
include hM
theorem c168 {s:iT}{r:List Int}(O:NP s=some r):iI 168 [.agg (jb M s)] (λu=>u=.sl 1 (mI M r) false):=by
 refine jB (je [9]) func168 call168 ?_;intro S R hS hR;have q:=sf hM hS;unfold NP at O;cbv;refine kE hS (je [9]) wf [.tO 3 1] [1,3,4] (λs1=>f3 24 [(1,.lv 0 0),(3,.os 1 0 (S.jD (mI M s1.2))),(4,sI s1.1)] [vR (jb M s),aR 1 (mI M s1.2)]) O ?_;intro Ik2 k2 s1 hk2 O e he;subst he;unfold QW at O;cbv;refine jc ?_ ?_
 intro O;cbv;refine jk hS [.tO 3 1] [1,3,4] (λs4=>f3 24 [(1,.lv 0 0),(3,.os 1 0 (S.jD (mI M s4))),(4,sI s1.1)] [vR (jb M s),aR 1 (mI M s4)]) O ?_ ?_
 intro Ik5 k5 hk5 O;cbv;refine kV ?_;intro x7 O;cbv;refine jc ?_ ?_
 intro O;cbv;refine jM hS O lS ?_;exact jv
 exact jv
 intro s4 O;cbv;exact ng
 exact jr
end
section
variable {M:kM}(hM:M=jT)
include hM
theorem apq {x:Int}{r:Bool}(O:cmp_isNaN_int x=some r):iI 224 [sI x] (λu=>u=.sb r):=by
 refine jB jm func224 call224 ?_;intro S R hS hR;have q:=sf hM hS;unfold cmp_isNaN_int at O;cbv;exact tu
theorem c44  {r:Bool}(O:yB=some r):iI 44 [] (λu=>u=.sb r):=by
 cases O;exact ak1
end
section
variable {M:kM}(hM:M=jT)
include hM
theorem c104 {s:iT}{o:iW}{t:iM}{r:Bool}(O:IC s o t=some r):iI 104 [.agg (jb M s),.agg (ja M o),.agg (iY M t)] (λu=>u=.sb r):=by
 refine jB (je [2,6]) func104 call104 ?_;intro S R hS hR;have q:=sf hM hS;unfold IC at O;cbv;refine jk hS [] [4,5,27] (λs1=>f3 46 [(4,.lv 0 0),(5,.lv 1 0),(27,.sb s1)] [vR (ja M o),vR (iY M t)]) O ?_ ?_
 intro Ik2 k2 hk2 O;cbv;refine jc ?_ ?_
 exact jv
 intro O;cbv;refine jc ?_ ?_
 exact jv
 intro O;cbv;refine jc ?_ ?_<;>exact jv
 intro s1 O;cbv;refine jA hS O rfl ?_ ?_
 exact jr
 intro O;cbv;refine jk hS [] [5,35] (λs4=>f3 46 [(5,.lv 0 0),(35,.sb s4)] [vR (iY M t)]) O ?_ ?_
 intro Ik5 k5 hk5 O;cbv;refine jA hS O rfl ?_ ?_
 intro O;cbv;refine jK hS O (λ_=>c56 hM) ?_;exact lu
 exact jv
 intro s4 O;cbv;refine jA hS O rfl ?_ ?_
 exact jr
 intro O;cbv;refine jK hS O (λ_=>c56 hM) ?_;intro y8 O;cbv;refine jc ?_ ?_
 intro O;cbv;refine jK hS O (λ_=>c56 hM) ?_;exact kS
 exact jr
theorem c167 {x:Int}{y:Int}{r:Int}(O:cmp_Compare_int x y=some r):iI 167 [sI x,sI y] (λu=>u=sI r):=by
 refine jB jm func167 call167 ?_;intro S R hS hR;have q:=sf hM hS;unfold cmp_Compare_int at O;cbv;refine jK hS O (λ_=>apq hM) ?_;intro y1 O;cbv;refine jK hS O (λ_=>apq hM) ?_;intro y2 O;cbv;refine jA hS O rfl ?_ ?_
 intro O;cbv;refine jA hS O rfl ?_ ?_<;>exact jr
 intro O;cbv;refine jA hS O rfl ?_ ?_
 exact jr
 intro O;cbv;refine jc ?_ ?_
 exact jr
 intro O;cbv;refine jc ?_ ?_<;>exact jr
end
section
variable {M:kM}(hM:M=jT)
include hM
theorem agA {all:List iM}{i:Int}{key:Int}{r:Bool}(O:zT all i key=some r):iI 169 [.sl 17 (M.m iM (iY M) all) false,sI i,sI key] (λu=>u=.sb r):=by
 refine jB jm func169 call169 ?_;intro S R hS hR;have q:=sf hM hS;unfold zT at O;cbv;refine jc ?_ ?_
 intro O;cbv;refine kV ?_;intro U O;cbv;refine jK hS O (λ_=>aiE hM) ?_;exact kS
 exact jr
end
section
variable {M:kM}(hM:M=jT)
include hM
theorem c105 {s:iT}{p:Int}{r:List Int}(O:Ea s p=some r):iI 105 [.agg (jb M s),sI p] (λu=>u=.sl 1 (mI M r) false):=by
 refine jB (je [11,12,21,22]) func105 call105 ?_;intro S R hS hR;have q:=sf hM hS;unfold Ea at O;cbv;refine jK hS O (λ_=>c168 hM) ?_;intro y1 O;cbv;refine kE hS (je [11,12,21,22]) wf [.tO 6 1] [1,2,5,6,7] (λs2=>f3 61 [(1,sI p),(2,.lv 0 0),(5,.sl 1 (mI M y1) false),(6,.os 1 0 (S.jD (mI M s2.2))),(7,sI s2.1)] [vR (jb M s),aR 1 (mI M s2.2)]) O ?_;intro Ik3 k3 s2 hk3 O e he;subst he;unfold EI at O;cbv;refine jc ?_ ?_
 intro O;cbv;refine jk hS [.tO 6 1] [1,2,5,6,7] (λs5=>f3 61 [(1,sI p),(2,.lv 0 0),(5,.sl 1 (mI M y1) false),(6,.os 1 0 (S.jD (mI M s5))),(7,sI s2.1)] [vR (jb M s),aR 1 (mI M s5)]) O ?_ ?_
 intro Ik6 k6 hk6 O;cbv;refine jk hS [] [1,2,5,6,7,27] (λs8=>f3 61 [(1,sI p),(2,.lv 0 0),(5,.sl 1 (mI M y1) false),(6,.os 1 0 (S.jD (mI M s2.2))),(7,sI s2.1),(27,.sb s8)] [vR (jb M s),aR 1 (mI M s2.2)]) O ?_ ?_
 intro Ik9 k9 hk9 O;cbv;refine jK hS O (λ_=>c130 hM) ?_;intro y11 O;cbv;refine jA hS O rfl ?_ ?_
 intro O;cbv;refine kV ?_;exact lu
 exact jv
 intro s8 O;cbv;refine jA hS O rfl ?_ ?_
 intro O;cbv;refine kV ?_;intro x13 O;cbv;refine jM hS O lS ?_;exact jv
 exact jv
 intro s5 O;cbv;exact ng
 intro O;cbv;refine kE hS (je [11,12,21,22]) wf [] [1,2,5,6,8] (λs14=>f3 61 [(1,sI p),(2,.lv 0 0),(5,.sl 1 (mI M y1) false),(6,.os 1 0 (S.jD (mI M s14.2))),(8,sI s14.1)] [vR (jb M s),aR 1 (mI M s14.2)]) O ?_;intro Ik15 k15 s14 hk15 O e he;subst he;unfold EH at O;cbv;refine jc ?_ ?_
 intro O;cbv;refine jk hS [] [1,2,5,6,8] (λs17=>f3 61 [(1,sI p),(2,.lv 0 0),(5,.sl 1 (mI M y1) false),(6,.os 1 0 (S.jD (mI M s17))),(8,sI s14.1)] [vR (jb M s),aR 1 (mI M s17)]) O ?_ ?_
 intro Ik18 k18 hk18 O;cbv;refine jk hS [] [1,2,5,6,8,52] (λs20=>f3 61 [(1,sI p),(2,.lv 0 0),(5,.sl 1 (mI M y1) false),(6,.os 1 0 (S.jD (mI M s14.2))),(8,sI s14.1),(52,.sb s20)] [vR (jb M s),aR 1 (mI M s14.2)]) O ?_ ?_
 intro Ik21 k21 hk21 O;cbv;refine jK hS O (λ_=>c130 hM) ?_;intro y23 O;cbv;refine jc ?_ ?_
 exact jv
 intro O;cbv;refine kV ?_;exact lu
 intro s20 O;cbv;refine jA hS O rfl ?_ ?_
 intro O;cbv;refine kV ?_;intro x25 O;cbv;refine jM hS O lS ?_;exact jv
 exact jv
 intro s17 O;cbv;exact ng
 exact jr
end
section
variable {M:kM}(hM:M=jT)
include hM
theorem c103 {s:iT}{p:Int}{r:List Int}(O:yU s p=some r):iI 103 [.agg (jb M s),sI p] (λu=>u=.sl 1 (mI M r) false):=by
 refine jB (je [2,7,25]) func103 call103 ?_;intro S R hS hR;have q:=sf hM hS;unfold yU at O;cbv;refine jk hS [] [1,2] (λs1=>f3 44 [(1,sI s1),(2,.lv 0 0)] [vR (jb M s)]) O ?_ ?_
 intro Ik2 k2 hk2 O;cbv;refine jk hS [] [1,2,17] (λs4=>f3 44 [(1,sI p),(2,.lv 0 0),(17,.sb s4)] [vR (jb M s)]) O ?_ ?_
 intro Ik5 k5 hk5 O;cbv;refine jc ?_ ?_<;>exact jv
 intro s4 O;cbv;refine jA hS O rfl ?_ ?_<;>exact jv
 intro s1 O;cbv;refine jK hS O (λ_=>c166 hM) ?_;intro y7 O;cbv;refine kE hS (je [2,7,25]) wf [.tO 5 1,.tO 6 1] [1,5,6,19,20,21] (λs8=>f3 44 [(1,sI s1),(5,.os 0 0 (S.jD (mI M s8.2.1))),(6,.os 1 0 (S.jD (mI M s8.2.2))),(19,.sl 1 (mI M y7) false),(20,sI (S.len (mI M y7))),(21,sI s8.1)] [aR 1 (mI M s8.2.1),aR 1 (mI M s8.2.2)]) O ?_;intro Ik9 k9 s8 hk9 O e he;subst he;unfold zS at O;cbv;refine jc ?_ ?_
 intro O;cbv;refine jk hS [.tO 5 1,.tO 6 1] [1,5,6,19,20,21] (λs11=>f3 44 [(1,sI s1),(5,.os 0 0 (S.jD (mI M s11.1))),(6,.os 1 0 (S.jD (mI M s11.2))),(19,.sl 1 (mI M y7) false),(20,sI (S.len (mI M y7))),(21,sI s8.1)] [aR 1 (mI M s11.1),aR 1 (mI M s11.2)]) O ?_ ?_
 intro Ik12 k12 hk12 O;cbv;refine kV ?_;intro x14 O;cbv;refine jK hS O (λ_=>c167 hM) ?_;intro y15 O;cbv;refine jc ?_ ?_
 intro O;cbv;refine jM hS O lS ?_;exact jv
 intro O;cbv;refine jc ?_ ?_
 intro O;cbv;refine jM hS O lS ?_;exact jv
 exact jv
 intro s11 O;cbv;exact ng
 intro O;cbv;refine jM hS O lS ?_;exact jr
theorem c106 {s:iT}{all:List iM}{i:Int}{r:Bool}(O:Uk s all i=some r):iI 106 [.agg (jb M s),.sl 17 (M.m iM (iY M) all) false,sI i] (λu=>u=.sb r):=by
 refine jB (je [4]) func106 call106 ?_;intro S R hS hR;have q:=sf hM hS;unfold Uk at O;cbv;refine kV ?_;intro x1 O;cbv;refine jk hS [] [1,2,7,45] (λs2=>f3 66 [(1,.sl 17 (M.m iM (iY M) all) false),(2,sI i),(7,.lv 0 0),(45,.sb s2)] [vR (ja M x1)]) O ?_ ?_
 intro Ik3 k3 hk3 O;cbv;refine rD hS ?_;cbv;refine jc ?_ ?_
 exact jv
 intro O;cbv;refine kV ?_;intro x5 O;cbv;refine jc ?_ ?_
 exact jv
 intro O;cbv;refine jc ?_ ?_
 exact jv
 intro O;cbv;refine kV ?_;intro x6 O;cbv;refine jc ?_ ?_<;>exact jv
 intro s2 O;cbv;refine jA hS O rfl ?_ ?_
 exact jr
 intro O;cbv;refine jc ?_ ?_
 intro O;cbv;refine jK hS O (λ_=>agA hM) ?_;intro y7 O;cbv;refine jc ?_ ?_
 intro O;cbv;refine jK hS O (λ_=>agA hM) ?_;exact kS
 exact jr
 intro O;cbv;refine jK hS O (λ_=>agA hM) ?_;intro y9 O;cbv;refine jA hS O rfl ?_ ?_
 intro O;cbv;refine jK hS O (λ_=>agA hM) ?_;intro y10 O;cbv;refine jc ?_ ?_
 intro O;cbv;refine jK hS O (λ_=>agA hM) ?_;exact kS
 exact jr
 exact jr
end
end Go.Proofs.YtlacmdnhabblcaaGreat
