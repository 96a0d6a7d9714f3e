import Derived.Test.YtlacmdnhabblcaaGreatB20
set_option linter.all false
namespace Go.Proofs.YtlacmdnhabblcaaGreat
open Go Go.Pv Proofs.Tryz
set_option maxRecDepth 100000
set_option maxHeartbeats 2000000
section
variable {M:kM}(hM:M=jT)
include hM
theorem c261 {pr:rf}{r:Bool}(O:X7 pr=some r):iI 261 [.agg (vP M pr)] (λu=>u=.sb r):=by
 refine jB (je [12,18]) func261 call261 ?_;intro S R hS hR;have q:=sf hM hS;unfold X7 at O;cbv;refine jc ?_ ?_
 intro O;cbv;refine jK hS O (λ_=>c338 hM) ?_;exact kS
 intro O;cbv;refine jK hS O (λ_=>c339 hM) ?_;intro y2 O;cbv;refine jc ?_ ?_
 exact jr
 intro O;cbv;replace O:=pO O;refine jk hS [] [1,3,4] (λs4=>f3 127 [(1,.lv 0 0),(3,.sb s4.1),(4,.sb s4.2)] [vR (vP M pr)]) O ?_ ?_
 intro Ik5 k5 hk5 O;cbv;refine jc ?_ ?_
 exact jv
 intro O;cbv;refine jc ?_ ?_<;>exact jv
 intro s4 O;cbv;refine jc ?_ ?_
 intro O;cbv;refine jk hS [] [1,3,51] (λs7=>f3 127 [(1,.lv 0 0),(3,.sb s4.1),(51,.sb s7)] [vR (vP M pr)]) O ?_ ?_
 intro Ik8 k8 hk8 O;cbv;refine jc ?_ ?_
 intro O;cbv;refine jc ?_ ?_
 intro O;cbv;refine jc ?_ ?_<;>exact jv
 exact jv
 exact jv
 intro s7 O;cbv;refine jA hS O rfl ?_ ?_
 exact jr
 intro O;cbv;refine jc ?_ ?_
 intro O;cbv;refine jK hS O (λ_=>am3 hM) ?_;intro y10 O;cbv;refine jA hS O rfl ?_ ?_
 exact jr
 intro O;cbv;refine jc ?_ ?_
 exact jr
 intro O;cbv;refine jc ?_ ?_<;>exact jr
 intro O;cbv;refine jc ?_ ?_
 exact jr
 intro O;cbv;refine jc ?_ ?_<;>exact jr
 intro O;cbv;refine jc ?_ ?_
 intro O;cbv;refine jA hS O rfl ?_ ?_
 intro O;cbv;refine jc ?_ ?_
 intro O;cbv;refine jK hS O (λ_=>am3 hM) ?_;exact kS
 exact jr
 exact jr
 intro O;cbv;refine jc ?_ ?_
 intro O;cbv;refine jc ?_ ?_
 intro O;cbv;refine jc ?_ ?_
 intro O;cbv;refine jc ?_ ?_<;>exact jr
 exact jr
 intro O;cbv;refine jc ?_ ?_
 intro O;cbv;refine jc ?_ ?_
 intro O;cbv;refine jc ?_ ?_<;>exact jr
 exact jr
 exact jr
 intro O;cbv;refine jc ?_ ?_
 intro O;cbv;refine jA hS O rfl ?_ ?_
 intro O;cbv;refine jc ?_ ?_
 intro O;cbv;refine jc ?_ ?_<;>exact jr
 exact jr
 exact jr
 intro O;cbv;refine jc ?_ ?_
 intro O;cbv;refine jA hS O rfl ?_ ?_
 intro O;cbv;refine jc ?_ ?_
 intro O;cbv;refine jc ?_ ?_<;>exact jr
 exact jr
 exact jr
 intro O;cbv;refine jc ?_ ?_
 intro O;cbv;refine jA hS O rfl ?_ ?_
 intro O;cbv;refine jc ?_ ?_
 intro O;cbv;refine jc ?_ ?_<;>exact jr
 exact jr
 exact jr
 exact jr
theorem c206 {w:jP}{i:Int}{stage:Int}{r:List Int}(O:yt w i stage=some r):iI 206 [.agg (kL M w),sI i,sI stage] (λu=>u=.sl 1 (mI M r) false):=by
 refine jB (je [11,21]) func206 call206 ?_;intro S R hS hR;have q:=sf hM hS;unfold yt at O;cbv;refine kV ?_;intro x1 O;cbv;refine kE hS (je [11,21]) wf [] [1,2,3,7,8,9] (λs2=>f3 62 [(1,sI i),(2,sI stage),(3,.lv 0 0),(7,.os 1 0 (S.jD (mI M s2.2))),(8,.lv 2 0),(9,sI s2.1)] [vR (kL M w),aR 1 (mI M s2.2),vR (kP M x1)]) O ?_;intro Ik3 k3 s2 hk3 O e he;subst he;unfold BM at O;cbv;refine jc ?_ ?_
 intro O;cbv;refine jk hS [] [1,2,3,7,8,9] (λs5=>f3 62 [(1,sI i),(2,sI stage),(3,.lv 0 0),(7,.os 1 0 (S.jD (mI M s5))),(8,.lv 2 0),(9,sI s2.1)] [vR (kL M w),aR 1 (mI M s5),vR (kP M x1)]) O ?_ ?_
 intro Ik6 k6 hk6 O;cbv;refine kV ?_;intro x8 O;cbv;refine jK hS O (λ_=>c201 hM) ?_;intro y9 O;cbv;refine jc ?_ ?_
 exact jv
 intro O;cbv;refine jk hS [] [1,2,3,7,8,9,10] (λs10=>f3 62 [(1,sI i),(2,sI stage),(3,.lv 0 0),(7,.os 1 0 (S.jD (mI M s2.2))),(8,.lv 2 0),(9,sI s2.1),(10,sI s10)] [vR (kL M w),aR 1 (mI M s2.2),vR (kP M x1)]) O ?_ ?_
 intro Ik11 k11 hk11 O;cbv;refine kV ?_;intro x13 O;cbv;refine jc ?_ ?_
 intro O;cbv;refine rD hS ?_;cbv;refine rZ hS O (λ_=>akR hM) ?_;intro y14 O;cbv;refine kV ?_;intro x15 O;cbv;refine rZ hS O (λ_=>c280 hM) ?_;exact lu
 exact jv
 intro s10 O;cbv;refine jM hS O lS ?_;exact jv
 intro s5 O;cbv;exact ng
 exact jr
theorem c209 {t:iM}{f:jJ}{stage:Int}{l9:Int}{nums:List Int}{r:iM}(O:BN t f stage l9 nums=some r):iI 209 [.agg (iY M t),.agg (kP M f),sI stage,sI l9,.sl 1 (mI M nums) false] (λu=>u=.agg (iY M r)):=by
 refine jB (je [9]) func209 call209 ?_;intro S R hS hR;have q:=sf hM hS;unfold BN at O;cbv;refine kE hS (je [9]) wf [] [2,3,4,5,6,10,11,12] (λs1=>f3 44 [(2,sI stage),(3,sI l9),(4,.sl 1 (mI M nums) false),(5,.lv 0 0),(6,.lv 1 0),(10,.lv 2 0),(11,sI s1.2.1),(12,sI s1.2.2)] [vR (iY M s1.1),vR (kP M f),vR [.str (bs []),sI 0,sI 0,sI 0,sI 0,sI 0,sI 0,sI 0,sI 0,sI 0,sI 0,.sl 0 [] true,sI 0,sI 0,sI 0,.sl 0 [] true,sI 0]]) O ?_;intro Ik2 k2 s1 hk2 O e he;subst he;unfold FQ at O;cbv;refine jc ?_ ?_
 intro O;cbv;refine jk hS [] [2,3,4,5,6,10,11,12] (λs4=>f3 44 [(2,sI stage),(3,sI l9),(4,.sl 1 (mI M nums) false),(5,.lv 0 0),(6,.lv 1 0),(10,.lv 2 0),(11,sI s4.2),(12,sI s1.2.2)] [vR (iY M s4.1),vR (kP M f),vR [.str (bs []),sI 0,sI 0,sI 0,sI 0,sI 0,sI 0,sI 0,sI 0,sI 0,sI 0,.sl 0 [] true,sI 0,sI 0,sI 0,.sl 0 [] true,sI 0]]) O ?_ ?_
 intro Ik5 k5 hk5 O;cbv;refine kV ?_;intro x7 O;cbv;refine jK hS O (λ_=>c201 hM) ?_;intro y8 O;cbv;refine jc ?_ ?_
 intro O;cbv;refine rD hS ?_;cbv;refine kV ?_;intro x9 O;cbv;refine kV ?_;intro x10 O;cbv;refine rZ hS O (λ_=>c282 hM) ?_;exact lu
 exact jv
 intro s4 O;cbv;exact ng
 exact jr
theorem am5 {l:List nN}{r:ByteArray}(O:wB l=some r):iI 197 [.sl 20 (M.m nN (rE M) l) false] (λu=>u=.str r):=by
 refine jB (je [2,13,23]) func197 call197 ?_;intro S R hS hR;have q:=sf hM hS;unfold wB at O;cbv;refine jk hS [] [0,12] (λJ=>f3 37 [(0,.sl 20 (M.m nN (rE M) l) false),(12,.sb J)] []) O ?_ ?_
 intro Ik2 k2 hk2 O;cbv;refine jc ?_ ?_<;>exact jv
 intro J O;cbv;refine jA hS O rfl ?_ ?_
 exact jr
 intro O;cbv;refine kE hS (je [2,13,23]) wf [] [0,3,4] (λU=>f3 37 [(0,.sl 20 (M.m nN (rE M) l) false),(3,.str U.1),(4,sI U.2)] []) O ?_;intro Ik5 k5 U hk5 O e he;subst he;unfold zK at O;cbv;refine jc ?_ ?_
 intro O;cbv;refine jk hS [] [0,3,4] (λC=>f3 37 [(0,.sl 20 (M.m nN (rE M) l) false),(3,.str C),(4,sI U.2)] []) O ?_ ?_
 intro Ik8 k8 hk8 O;cbv;refine kV ?_;intro x10 O;cbv;refine jK hS O (λ_=>am2 hM) ?_;intro y11 O;cbv;refine jc ?_ ?_
 exact jr
 intro O;cbv;refine jk hS [] [0,3,4] (λT=>f3 37 [(0,.sl 20 (M.m nN (rE M) l) false),(3,.str T),(4,sI U.2)] []) O ?_ ?_
 intro I k13 g O;cbv;refine jc ?_ ?_
 intro O;cbv;refine qK hS O rfl rfl ?_;exact lu
 exact jv
 intro T O;cbv;refine kV ?_;intro x16 O;cbv;refine jK hS O (λ_=>c273 hM) ?_;intro y17 O;cbv;refine qK hS O rfl rfl ?_;exact lu
 intro C O;cbv;exact ng
 exact jr
end
section
variable {M:kM}(hM:M=jT)
include hM
theorem c138 {w:jP}{i:Int}{stage:Int}{r:jP}(O:Au w i stage=some r):iI 138 [.agg (kL M w),sI i,sI stage] (λu=>u=.agg (kL M r)):=by
 refine jB (je [31]) func138 call138 ?_;intro S R hS hR;have q:=sf hM hS;unfold Au at O;cbv;refine jK hS O (λ_=>akQ hM) ?_;intro y1 O;cbv;refine jc ?_ ?_
 exact jr
 intro O;cbv;refine jK hS O (λ_=>am4 hM) ?_;intro y2 O;cbv;refine jK hS O (λ_=>c206 hM) ?_;intro y3 O;cbv;refine jK hS O (λ_=>akR hM) ?_;intro y4 O;cbv;refine jM hS O lS ?_;intro O;cbv;refine jM hS O lS ?_;intro O;cbv;refine jM hS O lS ?_;intro O;cbv;refine jM hS O lS ?_;intro O;cbv;refine wM hS O lS rfl ?_;intro j5 _ O;cbv;refine Dw hS (e:=eB) O aj ?_;intro x6 O;cbv;refine qJ hS hM O rfl lS ?_;intro x7 O;cbv;refine wM hS O lS rfl ?_;intro j8 _ O;cbv;refine qJ hS hM O rfl lS ?_;intro x9 O;cbv
 refine kE hS (je [31]) wf [] [1,2,3,6,7,8,9,10,11] (λs10=>f3 113 [(1,sI i),(2,sI stage),(3,.lv 0 0),(6,.lv 1 0),(7,.sl 1 (mI M y2) false),(8,.sl 1 (mI M y3) false),(9,sI y4),(10,.lv 2 0),(11,sI s10.1)] [vR (kL M w),vR [.sl 0 [] true,.sl 0 [] true,.sl 0 [] true,.sl 0 [] true,.sl 0 [] true,.sl 0 [] true,.sl 0 [] true,sI 0,sI 0,sI 0,.sb false,sI 0,sI 0,sI 0,sI 0,.si .u64 0,.sl 0 [] true,sI 0,sI 0,.sl 0 [] true,.sl 0 [] true,.sl 0 [] true,.sl 0 [] true,.sl 0 [] true],vR [.sl 14 (M.m kD (lF M) w.s.ji) false,.sl 19 (M.m iW (ja M) w.s.objects) false,.sl 1 (mI M w.s.lq) false,.sl 1 (mI M w.s.uU) false,.sl 94 (M.m ou (pM M) w.s.stack) false,.sl 89 (M.m kT (mX M) w.s.waiting) false,.sl 6 (M.m pI (qQ M) w.s.oq) false,sI w.s.turn,sI w.s.nD,sI w.s.step,.sb w.s.begun,sI w.s.priority,sI w.s.passes,sI w.s.nextId,sI w.s.nH,.si .u64 w.s.seed,.sl 1 (mI M w.s.extra) false,sI w.s.over,sI w.s.uJ,.os 3 0 (S.jD (M.m iM (iY M) s10.2.1)),.sl 23 (M.m jJ (kP M) w.l) false,.os 4 0 (S.jD (S.JF (M.m Bool eB w.begun) (S.MB 0 j5) [.sb x6])),.os 5 0 (S.jD (S.JF (M.m (List Int) (eL M 1 (eI .i64)) w.sets) (S.MB 0 j8) [.sl 1 (mI M y2) false])),.os 6 0 (S.jD (M.m Bool eB s10.2.2))],aR 17 (M.m iM (iY M) s10.2.1),aR 1 (S.JF (M.m Bool eB w.begun) (S.MB 0 j5) [.sb x6]),aR 1 (S.JF (M.m (List Int) (eL M 1 (eI .i64)) w.sets) (S.MB 0 j8) [.sl 1 (mI M y2) false]),aR 1 (M.m Bool eB s10.2.2)]) O ?_
 intro Ik11 k11 s10 hk11 O e he;subst he;unfold BO at O;cbv;refine jc ?_ ?_
 intro O;cbv
 refine jk hS [] [1,2,3,6,7,8,9,10,11] (λs13=>f3 113 [(1,sI i),(2,sI stage),(3,.lv 0 0),(6,.lv 1 0),(7,.sl 1 (mI M y2) false),(8,.sl 1 (mI M y3) false),(9,sI y4),(10,.lv 2 0),(11,sI s10.1)] [vR (kL M w),vR [.sl 0 [] true,.sl 0 [] true,.sl 0 [] true,.sl 0 [] true,.sl 0 [] true,.sl 0 [] true,.sl 0 [] true,sI 0,sI 0,sI 0,.sb false,sI 0,sI 0,sI 0,sI 0,.si .u64 0,.sl 0 [] true,sI 0,sI 0,.sl 0 [] true,.sl 0 [] true,.sl 0 [] true,.sl 0 [] true,.sl 0 [] true],vR [.sl 14 (M.m kD (lF M) w.s.ji) false,.sl 19 (M.m iW (ja M) w.s.objects) false,.sl 1 (mI M w.s.lq) false,.sl 1 (mI M w.s.uU) false,.sl 94 (M.m ou (pM M) w.s.stack) false,.sl 89 (M.m kT (mX M) w.s.waiting) false,.sl 6 (M.m pI (qQ M) w.s.oq) false,sI w.s.turn,sI w.s.nD,sI w.s.step,.sb w.s.begun,sI w.s.priority,sI w.s.passes,sI w.s.nextId,sI w.s.nH,.si .u64 w.s.seed,.sl 1 (mI M w.s.extra) false,sI w.s.over,sI w.s.uJ,.os 3 0 (S.jD (M.m iM (iY M) s13.1)),.sl 23 (M.m jJ (kP M) w.l) false,.os 4 0 (S.jD (S.JF (M.m Bool eB w.begun) (S.MB 0 j5) [.sb x6])),.os 5 0 (S.jD (S.JF (M.m (List Int) (eL M 1 (eI .i64)) w.sets) (S.MB 0 j8) [.sl 1 (mI M y2) false])),.os 6 0 (S.jD (M.m Bool eB s13.2))],aR 17 (M.m iM (iY M) s13.1),aR 1 (S.JF (M.m Bool eB w.begun) (S.MB 0 j5) [.sb x6]),aR 1 (S.JF (M.m (List Int) (eL M 1 (eI .i64)) w.sets) (S.MB 0 j8) [.sl 1 (mI M y2) false]),aR 1 (M.m Bool eB s13.2)]) O ?_ ?_
 intro Ik14 k14 hk14 O;cbv;refine kV ?_;intro x16 O;cbv;refine jK hS O (λ_=>c208 hM) ?_;intro y17 O;cbv;refine jc ?_ ?_
 exact jv
 intro O;cbv;refine rD hS ?_;cbv;refine kV ?_;intro x18 O;cbv;refine kV ?_;intro x19 O;cbv;refine rZ hS O (λ_=>c209 hM) ?_;intro y20 O;cbv;refine wM hS O lS rfl ?_;intro j21 _ O;cbv;refine qJ hS hM O rfl lS ?_;intro x22 O;cbv;refine kV ?_;intro x23 O;cbv;refine jK hS O (λ_=>c210 hM) ?_;intro y24 O;cbv;refine jA hS O rfl ?_ ?_
 intro O;cbv;refine wM hS O lS rfl ?_;intro j25 _ O;cbv;refine Dw hS (e:=eB) O aj ?_;intro x26 O;cbv;refine qJ hS hM O rfl lS ?_;exact lu
 exact jv
 intro s13 O;cbv;exact ng
 intro O;cbv;cases O;exact hR _ (d_l aN)
theorem c411 {l:List nN}{r:Bool}(O:O7 l=some r):iI 411 [.sl 20 (M.m nN (rE M) l) false] (λu=>u=.sb r):=by
 refine jB jm func411 call411 ?_;intro S R hS hR;have q:=sf hM hS;unfold O7 at O;cbv;refine jK hS O (λ_=>am5 hM) ?_;exact kS
end
end Go.Proofs.YtlacmdnhabblcaaGreat
