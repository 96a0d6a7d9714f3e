import Derived.Test.YtlacmdnhabblcaaGreatB18
set_option linter.all false
namespace Go.Proofs.YtlacmdnhabblcaaGreat
open Go Go.Pv Proofs.Tryz
set_option maxRecDepth 100000
set_option maxHeartbeats 2000000
section
variable {M:kM}(hM:M=jT)
include hM
theorem c133 {cards:List jI}{s:iT}{r:List jJ}(O:Ip cards s=some r):iI 133 [.sl 17 (M.m jI (lJ M) cards) false,.agg (jb M s)] (λu=>u=.sl 23 (M.m jJ (kP M) r) false):=by
 refine jB (je [9,21]) func133 call133 ?_;intro S R hS hR;have q:=sf hM hS;unfold Ip at O;cbv;refine kE hS (je [9,21]) wf [] [0,3,5,6] (λs1=>f3 89 [(0,.sl 17 (M.m jI (lJ M) cards) false),(3,.lv 0 0),(5,.os 1 0 (S.jD (M.m jJ (kP M) s1.2))),(6,sI s1.1)] [vR (jb M s),aR 23 (M.m jJ (kP M) s1.2)]) O ?_;intro Ik2 k2 s1 hk2 O e he;subst he;unfold Et at O;cbv;refine jc ?_ ?_
 intro O;cbv;refine jk hS [] [0,3,5,6] (λs4=>f3 89 [(0,.sl 17 (M.m jI (lJ M) cards) false),(3,.lv 0 0),(5,.os 1 0 (S.jD (M.m jJ (kP M) s4))),(6,sI s1.1)] [vR (jb M s),aR 23 (M.m jJ (kP M) s4)]) O ?_ ?_
 intro Ik5 k5 hk5 O;cbv;refine kV ?_;intro x7 O;cbv;refine jc ?_ ?_
 exact jv
 intro O;cbv;refine jK hS O (λ_=>aoO hM) ?_;intro y8 O;cbv;refine kE hS (je [9,21]) wf [] [0,3,5,6,7,8,9] (λs9=>f3 89 [(0,.sl 17 (M.m jI (lJ M) cards) false),(3,.lv 0 0),(5,.os 1 0 (S.jD (M.m jJ (kP M) s9.2))),(6,sI s1.1),(7,.lv 2 0),(8,.lv 3 0),(9,sI s9.1)] [vR (jb M s),aR 23 (M.m jJ (kP M) s9.2),vR (ja M x7),vR (iY M y8)]) O ?_;intro Ik10 k10 s9 hk10 O e he;subst he;unfold Ep at O;cbv;refine jc ?_ ?_
 intro O;cbv;refine jk hS [] [0,3,5,6,7,8,9] (λs12=>f3 89 [(0,.sl 17 (M.m jI (lJ M) cards) false),(3,.lv 0 0),(5,.os 1 0 (S.jD (M.m jJ (kP M) s12))),(6,sI s1.1),(7,.lv 2 0),(8,.lv 3 0),(9,sI s9.1)] [vR (jb M s),aR 23 (M.m jJ (kP M) s12),vR (ja M x7),vR (iY M y8)]) O ?_ ?_
 intro Ik13 k13 hk13 O;cbv;refine kV ?_;intro x15 O;cbv;refine jc ?_ ?_
 intro O;cbv;refine Dw hS (e:=(kP M)) O oW ?_;intro x16 O;cbv;refine jM hS O lS ?_;exact jv
 exact jv
 intro s12 O;cbv;exact ng
 exact jv
 intro s4 O;cbv;exact ng
 intro O;cbv;refine kE hS (je [9,21]) wf [] [3,5,11] (λs17=>f3 89 [(3,.lv 0 0),(5,.os 1 0 (S.jD (M.m jJ (kP M) s17.2))),(11,sI s17.1)] [vR (jb M s),aR 23 (M.m jJ (kP M) s17.2)]) O ?_;intro Ik18 k18 s17 hk18 O e he;subst he;unfold Es at O;cbv;refine jc ?_ ?_
 intro O;cbv;refine kV ?_;intro x20 O;generalize hq : @Uy=q;cbv;subst hq;cbv;refine Dw hS (e:=(kP M)) O oW ?_;intro x21 O;cbv;refine jM hS O lS ?_;exact jv
 exact jr
theorem am1 {o:iW}{t:iM}{T:Int}{source:Int}{f:lX}{r:Bool}(O:yh o t T source f=some r):iI 279 [.agg (ja M o),.agg (iY M t),sI T,sI source,.agg (mW M f)] (λu=>u=.sb r):=by
 refine jB (je [2,6,10]) func279 call279 ?_;intro S R hS hR;have q:=sf hM hS;unfold yh at O;cbv;refine jk hS [] [6,9,46] (λC=>f3 107 [(6,.lv 0 0),(9,.lv 1 0),(46,.sb C)] [vR (iY M t),vR (mW M f)]) O ?_ ?_
 intro Ik2 k2 hk2 O;cbv;refine jK hS O (λ_=>YN hM) ?_;intro y4 O;cbv;refine jc ?_ ?_
 exact jv
 intro O;cbv;refine jc ?_ ?_
 exact jv
 intro O;cbv;refine jK hS O (λ_=>c357 hM) ?_;intro y5 O;cbv;refine jc ?_ ?_
 exact jv
 intro O;cbv;refine jK hS O (λ_=>c358 hM) ?_;intro y6 O;cbv;refine jc ?_ ?_
 exact jv
 intro O;cbv;refine jK hS O (λ_=>c359 hM) ?_;exact lu
 intro C O;cbv;refine jA hS O rfl ?_ ?_
 exact jr
 intro O;cbv;refine jk hS [] [6,9,66] (λI=>f3 107 [(6,.lv 0 0),(9,.lv 1 0),(66,.sb I)] [vR (iY M t),vR (mW M f)]) O ?_ ?_
 intro Ik9 k9 hk9 O;cbv;refine jc ?_ ?_
 intro O;cbv;refine jK hS O (λ_=>aeg hM) ?_;intro y11 O;cbv;refine jc ?_ ?_
 exact jv
 intro O;cbv;refine jK hS O (λ_=>aeg hM) ?_;exact lu
 intro O;cbv;refine jK hS O (λ_=>aeg hM) ?_;exact lu
 intro I O;cbv;refine jA hS O rfl ?_ ?_
 exact jr
 intro O;cbv;refine jk hS [] [6,9,84] (λU=>f3 107 [(6,.lv 0 0),(9,.lv 1 0),(84,.sb U)] [vR (iY M t),vR (mW M f)]) O ?_ ?_
 intro g k15 J O;cbv;refine jc ?_ ?_
 intro O;cbv;refine jK hS O (λ_=>aeg hM) ?_;intro y17 O;cbv;refine jc ?_ ?_
 exact jv
 intro O;cbv;refine jK hS O (λ_=>aeg hM) ?_;exact lu
 intro O;cbv;refine jK hS O (λ_=>aeg hM) ?_;exact lu
 intro U O;cbv;refine jA hS O rfl ?_ ?_
 exact jr
 intro O;cbv;refine jc ?_ ?_
 intro O;cbv;refine jK hS O (λ_=>aoK hM) ?_;intro y20 O;cbv;refine jc ?_ ?_
 exact jr
 intro O;cbv;refine jK hS O (λ_=>aiE hM) ?_;intro y21 O;cbv;refine jc ?_ ?_
 exact jr
 intro O;cbv;refine jK hS O (λ_=>aoP hM) ?_;exact kS
 intro O;cbv;refine jK hS O (λ_=>aiE hM) ?_;intro y23 O;cbv;refine jc ?_ ?_
 exact jr
 intro O;cbv;refine jK hS O (λ_=>aoP hM) ?_;exact kS
theorem am2 {m:nN}{r:Bool}(O:JQ m=some r):iI 272 [.agg (rE M m)] (λu=>u=.sb r):=by
 refine jB (je [2]) func272 call272 ?_;intro S R hS hR;have q:=sf hM hS;unfold JQ at O;cbv;refine jk hS [] [1,16] (λU=>f3 107 [(1,.lv 0 0),(16,.sb U)] [vR (rE M m)]) O ?_ ?_
 intro J k2 T O;cbv;refine jc ?_ ?_
 exact jv
 intro O;cbv;refine jc ?_ ?_
 exact jv
 intro O;cbv;refine jK hS O (λ_=>c346 hM) ?_;intro y4 O;cbv;replace O:=pO O;exact ng
 intro U O;cbv;refine jA hS O rfl ?_ ?_
 exact jr
 intro O;cbv;refine jc ?_ ?_
 intro O;cbv;refine jK hS O (λ_=>aoC hM) ?_;exact kS
 intro O;cbv;refine jc ?_ ?_
 intro O;cbv;refine jK hS O (λ_=>aoC hM) ?_;exact kS
 intro O;cbv;refine jc ?_ ?_
 intro O;cbv;refine jK hS O (λ_=>aiF hM) ?_;exact kS
 intro O;cbv;refine jc ?_ ?_
 intro O;cbv;refine jK hS O (λ_=>aiF hM) ?_;exact kS
 intro O;cbv;refine jc ?_ ?_
 intro O;cbv;refine jc ?_ ?_<;>exact jr
 intro O;cbv;refine jc ?_ ?_
 intro O;cbv;refine jc ?_ ?_<;>exact jr
 intro O;cbv;refine jc ?_ ?_
 intro O;cbv;refine jc ?_ ?_<;>exact jr
 intro O;cbv;refine jc ?_ ?_
 intro O;cbv;refine jc ?_ ?_<;>exact jr
 intro O;cbv;refine jc ?_ ?_
 intro O;cbv;refine jK hS O (λ_=>YN hM) ?_;exact kS
 intro O;cbv;refine jc ?_ ?_
 intro O;cbv;refine jc ?_ ?_
 intro O;cbv;refine jc ?_ ?_
 intro O;cbv;refine jc ?_ ?_<;>exact jr
 exact jr
 exact jr
 intro O;cbv;refine jc ?_ ?_
 intro O;cbv;refine jc ?_ ?_
 intro O;cbv;refine jc ?_ ?_
 intro O;cbv;refine jc ?_ ?_<;>exact jr
 exact jr
 exact jr
 exact jr
theorem c410 {a:yN}{r:Bool}(O:X9 a=some r):iI 410 [.agg (EX M a)] (λu=>u=.sb r):=by
 refine jB (je [10,20,33]) func410 call410 ?_;intro S R hS hR;have q:=sf hM hS;unfold X9 at O;cbv;refine jk hS [] [1,3] (λs1=>f3 59 [(1,.lv 0 0),(3,.lv 1 0)] [vR (EX M a),vR (EX M s1)]) O ?_ ?_
 intro Ik2 k2 hk2 O;cbv;refine jc ?_ ?_
 intro O;cbv;refine jk hS [] [1,3,17] (λs4=>f3 59 [(1,.lv 0 0),(3,.lv 1 0),(17,.sb s4)] [vR (EX M a),vR [sI a.kind,sI 0,sI a.counter,sI a.filter.jQ,sI a.filter.who,sI a.filter.self,sI a.filter.types,sI a.filter.jU,sI a.filter.kU,sI a.filter.jL,.str a.filter.sub,sI a.filter.keys,sI a.filter.vZ,sI a.filter.power.kind,sI a.filter.power.n,sI a.filter.jE.kind,sI a.filter.jE.n,sI a.filter.value.kind,sI a.filter.value.n]]) O ?_ ?_
 intro Ik5 k5 hk5 O;cbv;refine jc ?_ ?_<;>exact jv
 intro s4 O;cbv;refine jA hS O rfl ?_ ?_
 exact jr
 exact jv
 intro O;cbv;refine jc ?_ ?_
 intro O;cbv;refine jk hS [] [1,3,36] (λs7=>f3 59 [(1,.lv 0 0),(3,.lv 1 0),(36,.sb s7)] [vR (EX M a),vR [sI a.kind,sI 0,sI a.counter,sI 0,sI 0,sI 0,sI 0,sI 0,sI 0,sI 0,.str (bs []),sI 0,sI 0,sI 0,sI 0,sI 0,sI 0,sI 0,sI 0]]) O ?_ ?_
 intro Ik8 k8 hk8 O;cbv;refine jc ?_ ?_
 exact jv
 intro O;cbv;refine jc ?_ ?_
 exact jv
 intro O;cbv;refine jK hS O (λ_=>YN hM) ?_;exact lu
 intro s7 O;cbv;refine jA hS O rfl ?_ ?_
 exact jr
 exact jv
 intro O;cbv;refine jc ?_ ?_
 intro O;cbv;refine jK hS O (λ_=>aoB hM) ?_;intro y11 O;cbv;refine jc ?_ ?_
 exact jr
 exact jv
 exact jv
 intro s1 O;cbv;refine jc ?_ ?_
 intro O;cbv;refine jc ?_ ?_
 intro O;cbv;replace O:=pO O;exact tu
 exact jr
 exact jr
theorem c129 {s:iT}{r:Bool}(O:Fa s=some r):iI 129 [.agg (jb M s)] (λu=>u=.sb r):=by
 refine jB (je [14,18]) func129 call129 ?_;intro S R hS hR;have q:=sf hM hS;unfold Fa at O;cbv;refine qU hS O (λ_=>TT hM) xB ?_;intro y1 O;cbv;refine jc ?_ ?_
 exact jr
 intro O;cbv;refine kE hS (je [14,18]) wf [] [1,3] (λs2=>f3 76 [(1,.lv 0 0),(3,sI s2)] [vR (jb M s)]) O ?_;intro Ik3 k3 s2 hk3 O e he;subst he;unfold Ij at O;cbv;refine jc ?_ ?_
 intro O;cbv;refine kV ?_;intro x5 O;cbv;refine jk hS [] [1,3,4,43] (λs6=>f3 76 [(1,.lv 0 0),(3,sI s2),(4,.lv 1 0),(43,.sb s6)] [vR (jb M s),vR (lF M x5)]) O ?_ ?_
 intro Ik7 k7 hk7 O;cbv;refine jK hS O (λ_=>TT hM) ?_;intro y9 O;cbv;refine jc ?_ ?_
 exact jv
 intro O;cbv;refine jK hS O (λ_=>TT hM) ?_;intro y10 O;cbv;refine jc ?_ ?_
 exact jv
 intro O;cbv;refine jK hS O (λ_=>TT hM) ?_;intro y11 O;cbv;refine jc ?_ ?_
 exact jv
 intro O;cbv;refine jK hS O (λ_=>aot hM) ?_;exact lu
 intro s6 O;cbv;refine jA hS O rfl ?_ ?_
 exact jr
 intro O;cbv;refine jk hS [] [1,3,65] (λs13=>f3 76 [(1,.lv 0 0),(3,sI s2),(65,.sb s13)] [vR (jb M s)]) O ?_ ?_
 intro Ik14 k14 hk14 O;cbv;refine jK hS O (λ_=>aiG hM) ?_;intro y16 O;cbv;refine jc ?_ ?_
 exact jv
 intro O;cbv;refine jK hS O (λ_=>aiG hM) ?_;intro y17 O;cbv;refine jc ?_ ?_
 exact jv
 intro O;cbv;refine jK hS O (λ_=>aiG hM) ?_;exact lu
 intro s13 O;cbv;refine jA hS O rfl ?_ ?_
 exact jr
 exact jv
 intro O;cbv;refine jK hS O (λ_=>aiG hM) ?_;intro y19 O;cbv;refine jA hS O rfl ?_ ?_
 intro O;cbv;refine jK hS O (λ_=>aiG hM) ?_;exact kS
 exact jr
theorem c408 {pr:X4}{specs:Int}{r:Bool}(O:X8 pr specs=some r):iI 408 [.agg (VO M pr),sI specs] (λu=>u=.sb r):=by
 refine jB (je [6,7,12,21]) func408 call408 ?_;intro S R hS hR;have q:=sf hM hS;unfold X8 at O;cbv;refine jk hS [] [1,2] (λs1=>f3 40 [(1,sI s1),(2,.lv 0 0)] [vR (VO M pr)]) O ?_ ?_
 intro Ik2 k2 hk2 O;cbv;refine jc ?_ ?_<;>exact jv
 intro s1 O;cbv;refine jk hS [] [1,2,14] (λs4=>f3 40 [(1,sI s1),(2,.lv 0 0),(14,.sb s4)] [vR (VO M pr)]) O ?_ ?_
 intro Ik5 k5 hk5 O;cbv;refine jc ?_ ?_<;>exact jv
 intro s4 O;cbv;refine jA hS O rfl ?_ ?_
 exact jr
 intro O;cbv;refine jk hS [] [2] (λs7=>f3 40 [(2,.lv 0 0)] [vR (VO M pr)]) O ?_ ?_
 intro Ik8 k8 hk8 O;cbv;refine jK hS O (λ_=>c465 hM) ?_;intro y10 O;cbv;refine jA hS O rfl ?_ ?_
 intro O;cbv;refine jk hS [] [2,26] (λs11=>f3 40 [(2,.lv 0 0),(26,.sb s11)] [vR (VO M pr)]) O ?_ ?_
 intro Ik12 k12 hk12 O;cbv;refine jc ?_ ?_<;>exact jv
 intro s11 O;cbv;refine jA hS O rfl ?_ ?_
 exact jr
 exact jv
 intro O;cbv;refine jc ?_ ?_
 exact jr
 exact jv
 intro s7 O;cbv;refine jc ?_ ?_
 intro O;cbv;refine jK hS O (λ_=>YN hM) ?_;exact kS
 intro O;cbv;replace O:=pO O;exact tu
end
section
variable {M:kM}(hM:M=jT)
include hM
theorem c260 {t:xY}{r:Bool}(O:X6 t=some r):iI 260 [.agg (GY M t)] (λu=>u=.sb r):=by
 refine jB (je [2,17]) func260 call260 ?_;intro S R hS hR;have q:=sf hM hS;unfold X6 at O;cbv;refine jk hS [] [1,28] (λs1=>f3 50 [(1,.lv 0 0),(28,.sb s1)] [vR (GY M t)]) O ?_ ?_
 intro Ik2 k2 hk2 O;cbv;refine jK hS O (λ_=>aov hM) ?_;intro y4 O;cbv;refine jc ?_ ?_
 exact jv
 intro O;cbv;refine jc ?_ ?_
 exact jv
 intro O;cbv;refine jc ?_ ?_
 exact jv
 intro O;cbv;refine jK hS O (λ_=>aoA hM) ?_;intro y5 O;cbv;refine jc ?_ ?_<;>exact jv
 intro s1 O;cbv;refine jA hS O rfl ?_ ?_
 exact jr
 intro O;cbv;refine jK hS O (λ_=>c337 hM) ?_;intro y6 O;cbv;refine jc ?_ ?_
 intro O;cbv;replace O:=pO O;exact tu
 intro O;cbv;refine jk hS [] [1,3] (λs8=>f3 50 [(1,.lv 0 0),(3,sI s8)] [vR (GY M t)]) O ?_ ?_
 intro Ik9 k9 hk9 O;cbv;refine jc ?_ ?_<;>exact jv
 intro s8 O;cbv;refine jK hS O (λ_=>YN hM) ?_;intro y11 O;cbv;refine jA hS O rfl ?_ ?_<;>exact jr
theorem c341 {s:qM}{r:Bool}(O:O3 s=some r):iI 341 [.agg (zl M s)] (λu=>u=.sb r):=by
 refine jB (je [4]) func341 call341 ?_;intro S R hS hR;have q:=sf hM hS;unfold O3 at O;cbv;refine jc ?_ ?_
 intro O;cbv;refine jk hS [] [2] (λs1=>f3 33 [(2,.sb s1)] []) O ?_ ?_
 intro Ik2 k2 hk2 O;cbv;refine jA hS O rfl ?_ ?_
 intro O;cbv;replace O:=pO O;exact ng
 exact jv
 intro s1 O;cbv;exact tu
 intro O;cbv;refine jK hS O (λ_=>YN hM) ?_;intro y5 O;cbv;refine jA hS O rfl ?_ ?_
 intro O;cbv;refine jc ?_ ?_
 exact jr
 intro O;cbv;refine jc ?_ ?_<;>exact jr
 exact jr
theorem c413 {op:Int}{f:lX}{r:Bool}(O:Ih op f=some r):iI 413 [sI op,.agg (mW M f)] (λu=>u=.sb r):=by
 refine jB (je [9]) func413 call413 ?_;intro S R hS hR;have q:=sf hM hS;unfold Ih at O;cbv;refine jk hS [] [3,5] (λs1=>f3 16 [(3,.lv 0 0),(5,sI s1)] [vR (mW M f)]) O ?_ ?_
 intro Ik2 k2 hk2 O;cbv;refine jc ?_ ?_<;>exact jv
 intro s1 O;cbv;refine jK hS O (λ_=>YN hM) ?_;intro y4 O;cbv;refine jA hS O rfl ?_ ?_<;>exact jr
theorem am3 {f:lX}{r:Bool}(O:DI f=some r):iI 340 [.agg (mW M f)] (λu=>u=.sb r):=by
 refine jB jm func340 call340 ?_;intro S R hS hR;have q:=sf hM hS;unfold DI at O;cbv;refine jK hS O (λ_=>YN hM) ?_;intro y1 O;cbv;refine jA hS O rfl ?_ ?_<;>exact jr
end
end Go.Proofs.YtlacmdnhabblcaaGreat
