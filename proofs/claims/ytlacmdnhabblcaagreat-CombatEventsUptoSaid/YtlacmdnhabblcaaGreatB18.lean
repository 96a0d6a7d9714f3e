import Derived.Test.YtlacmdnhabblcaaGreatB17
set_option linter.all false
namespace Go.Proofs.YtlacmdnhabblcaaGreat
open Go Go.Pv Proofs.Tryz
set_option maxRecDepth 100000
set_option maxHeartbeats 2000000
section
variable {M:kM}(hM:M=jT)
include hM
theorem c203 {left:List Int}{stamps:List Int}{needs:List (List Bool)}{r:Int}(O:LG left stamps needs=some r):iI 203 [.sl 1 (mI M left) false,.sl 1 (mI M stamps) false,.sl 1 (M.m (List Bool) (eL M 1 eB) needs) false] (λu=>u=sI r):=by
 refine jB (je [11,14]) func203 call203 ?_;intro S R hS hR;have q:=sf hM hS;unfold LG at O;cbv;refine jK hS O (λ_=>c276 hM) ?_;intro y1 O;cbv;refine kE hS (je [11,14]) wf [] [1,7,8,9] (λs2=>f3 55 [(1,.sl 1 (mI M stamps) false),(7,.sl 1 (mI M y1) false),(8,sI s2.1),(9,sI s2.2)] []) O ?_;intro Ik3 k3 s2 hk3 O e he;subst he;unfold Js at O;cbv;refine jc ?_ ?_
 intro O;cbv;refine jk hS [] [1,7,8,9] (λs5=>f3 55 [(1,.sl 1 (mI M stamps) false),(7,.sl 1 (mI M y1) false),(8,sI s5),(9,sI s2.2)] []) O ?_ ?_
 intro Ik6 k6 hk6 O;cbv;refine kV ?_;intro x8 O;cbv;refine jK hS O (λ_=>amX hM) ?_;intro y9 O;cbv;refine jk hS [] [1,7,8,9,49] (λs10=>f3 55 [(1,.sl 1 (mI M stamps) false),(7,.sl 1 (mI M y1) false),(8,sI s2.1),(9,sI s2.2),(49,.sb s10)] []) O ?_ ?_
 intro Ik11 k11 hk11 O;cbv;refine jc ?_ ?_
 exact jv
 intro O;cbv;refine jK hS O (λ_=>amX hM) ?_;intro y13 O;cbv;refine jc ?_ ?_
 exact jv
 intro O;cbv;refine jK hS O (λ_=>amX hM) ?_;intro y14 O;cbv;refine jc ?_ ?_
 intro O;cbv;refine kV ?_;exact lu
 exact jv
 intro s10 O;cbv;refine jA hS O rfl ?_ ?_
 intro O;cbv;refine kV ?_;exact lu
 exact jv
 intro s5 O;cbv;exact ng
 exact jr
theorem c271 {a:kF}{b:kF}{r:Bool}(O:PG a b=some r):iI 271 [.agg (lD M a),.agg (lD M b)] (λu=>u=.sb r):=by
 refine jB jm func271 call271 ?_;intro S R hS hR;have q:=sf hM hS;unfold PG at O;cbv;refine jc ?_ ?_
 exact jr
 intro O;cbv;refine kE hS jm wf [] [2,3,5] (λs1=>f3 92 [(2,.lv 0 0),(3,.lv 1 0),(5,sI s1)] [vR (lD M a),vR (lD M b)]) O ?_;intro Ik2 k2 s1 hk2 O e he;subst he;unfold PE at O;cbv;refine jc ?_ ?_
 intro O;cbv;refine rD hS ?_;cbv;refine kV ?_;intro x4 O;cbv;refine kV ?_;intro x5 O;cbv;replace O:=pO O;refine jc ?_ ?_
 exact jr
 exact jv
 intro O;cbv;refine jc ?_ ?_
 intro O;cbv;replace O:=pO O;refine jc ?_ ?_
 intro O;cbv;refine jK hS O (λ_=>aow hM) ?_;intro y8 O;cbv;refine jA hS O rfl ?_ ?_
 intro O;cbv;replace O:=pO O;refine jc ?_ ?_
 intro O;cbv;refine jc ?_ ?_
 intro O;cbv;replace O:=pO O;refine jc ?_ ?_
 intro O;cbv;refine jc ?_ ?_
 intro O;cbv;refine jK hS O (λ_=>c345 hM) ?_;intro y11 O;cbv;refine jA hS O rfl ?_ ?_
 intro O;cbv;replace O:=pO O;exact tu
 exact jr
 exact jr
 exact jr
 exact jr
 exact jr
 exact jr
 exact jr
 exact jr
theorem c131 {cards:List jI}{s:iT}{r:Bool}(O:sG cards s=some r):iI 131 [.sl 17 (M.m jI (lJ M) cards) false,.agg (jb M s)] (λu=>u=.sb r):=by
 refine jB (je [14]) func131 call131 ?_;intro S R hS hR;have q:=sf hM hS;unfold sG at O;cbv;refine jc ?_ ?_
 exact jr
 intro O;cbv;refine kE hS (je [14]) wf [] [0,3,5] (λs1=>f3 65 [(0,.sl 17 (M.m jI (lJ M) cards) false),(3,.lv 0 0),(5,sI s1)] [vR (jb M s)]) O ?_;intro Ik2 k2 s1 hk2 O e he;subst he;unfold tC at O;cbv;refine jc ?_ ?_
 intro O;cbv;refine kV ?_;intro x4 O;cbv;refine jk hS [] [0,3,5,6,60] (λs5=>f3 65 [(0,.sl 17 (M.m jI (lJ M) cards) false),(3,.lv 0 0),(5,sI s1),(6,.lv 1 0),(60,.sb s5)] [vR (jb M s),vR (ja M x4)]) O ?_ ?_
 intro Ik6 k6 hk6 O;cbv;refine rD hS ?_;cbv;refine adX hS O (λ_=>c193 hM) xB ?_;intro y8 O;cbv;refine jc ?_ ?_
 exact jv
 intro O;cbv;refine jc ?_ ?_
 exact jv
 intro O;cbv;refine jc ?_ ?_
 exact jv
 intro O;cbv;refine jc ?_ ?_
 intro O;cbv;refine acp hS hM O rfl lS ?_;exact lu
 exact jv
 intro s5 O;cbv;refine jA hS O rfl ?_ ?_
 exact jr
 intro O;cbv;refine jK hS O (λ_=>c194 hM) ?_;intro y10 O;cbv;refine jc ?_ ?_
 exact jr
 exact jv
 exact jr
theorem aiG {s:iT}{l:List Int}{jQ:Int}{owner:Int}{r:Bool}(O:BF s l jQ owner=some r):iI 192 [.agg (jb M s),.sl 1 (mI M l) false,sI jQ,sI owner] (λu=>u=.sb r):=by
 refine jB (je [10]) func192 call192 ?_;intro S R hS hR;have q:=sf hM hS;unfold BF at O;cbv;refine kE hS (je [10]) wf [] [1,2,3,4,9] (λU=>f3 54 [(1,.sl 1 (mI M l) false),(2,sI jQ),(3,sI owner),(4,.lv 0 0),(9,sI U)] [vR (jb M s)]) O ?_;intro I k2 U J O e he;subst he;unfold Pq at O;cbv;refine jc ?_ ?_
 intro O;cbv;refine rD hS ?_;cbv;refine kV ?_;intro x4 O;cbv;refine rZ hS O (λ_=>aoN hM) ?_;intro y5 O;cbv;refine jk hS [] [1,2,3,4,9,53] (λT=>f3 54 [(1,.sl 1 (mI M l) false),(2,sI jQ),(3,sI owner),(4,.lv 0 0),(9,sI U),(53,.sb T)] [vR (jb M s)]) O ?_ ?_
 intro g k7 C O;cbv;refine jc ?_ ?_
 exact jv
 intro O;cbv;refine jc ?_ ?_
 exact jv
 intro O;cbv;refine jc ?_ ?_
 intro O;cbv;refine jc ?_ ?_
 exact jv
 intro O;cbv;refine kV ?_;intro x9 O;cbv;refine jK hS O (λ_=>amP hM) ?_;exact lu
 intro O;cbv;refine kV ?_;intro x11 O;cbv;refine jK hS O (λ_=>amP hM) ?_;exact lu
 intro T O;cbv;refine jA hS O rfl ?_ ?_
 exact jr
 exact jv
 exact jr
theorem aoP {t:iM}{f:lX}{r:Bool}(O:DV t f=some r):iI 362 [.agg (iY M t),.agg (mW M f)] (λu=>u=.sb r):=by
 refine jB (je [4,8]) func362 call362 ?_;intro S R hS hR;have q:=sf hM hS;unfold DV at O;cbv;refine jK hS O (λ_=>aeg hM) ?_;intro y1 O;cbv;refine jk hS [] [2,3,5,24] (λT=>f3 46 [(2,.lv 0 0),(3,.lv 1 0),(5,.sb y1),(24,.sb T)] [vR (iY M t),vR (mW M f)]) O ?_ ?_
 intro Ik3 k3 g O;cbv;refine jc ?_ ?_
 intro O;cbv;refine jA hS O rfl ?_ ?_
 intro O;cbv;refine jK hS O (λ_=>amW hM) ?_;exact lu
 exact jv
 exact jv
 intro T O;cbv;refine jA hS O rfl ?_ ?_
 exact jr
 intro O;cbv;refine jk hS [] [2,3,39] (λU=>f3 46 [(2,.lv 0 0),(3,.lv 1 0),(39,.sb U)] [vR (iY M t),vR (mW M f)]) O ?_ ?_
 intro I k7 C O;cbv;refine jc ?_ ?_
 intro O;cbv;refine jA hS O rfl ?_ ?_
 intro O;cbv;refine jK hS O (λ_=>amW hM) ?_;exact lu
 exact jv
 exact jv
 intro U O;cbv;refine jA hS O rfl ?_ ?_
 exact jr
 intro O;cbv;refine rD hS ?_;cbv;refine rZ hS O (λ_=>c430 hM) ?_;intro J O;cbv;refine rZ hS O (λ_=>amW hM) ?_;exact kS
theorem aoQ {i:Int}{r:ByteArray}(O:yP i=some r):iI 425 [sI i] (λu=>u=.str r):=by
 refine jB jm func425 call425 ?_;intro S R hS hR;have q:=sf hM hS;unfold yP at O;cbv;refine kE hS jm wf [] [0,3,4] (λU=>f3 14 [(0,sI i),(3,sI U.1),(4,sI U.2)] []) O ?_;intro J k2 U T O e he;subst he;unfold FN at O;cbv;refine jc ?_ ?_
 exact jv
 intro O;cbv;refine jK hS O (λ_=>am0 hM) ?_;exact kS
theorem c412 {p:rQ Int}{r:ByteArray}(O:Bz p=some r):iI 412 [.agg [sI p.a0,sI p.a1,sI p.a2,sI p.a3,sI p.a4,sI p.a5]] (λu=>u=.str r):=by
 refine jB jm func412 call412 ?_;intro S R hS hR;have q:=sf hM hS;unfold Bz at O;cbv;refine jK hS O (λ_=>c467 hM) ?_;intro y1 O;cbv;refine jK hS O (λ_=>c466 hM) ?_;exact kS
end
section
variable {M:kM}(hM:M=jT)
include hM
theorem c351 {f:lX}{r:ByteArray}(O:O0 f=some r):iI 351 [.agg (mW M f)] (λu=>u=.str r):=by
 refine jB (je [24,27,34,37,44,47,54,57,67,68,71]) func351 call351 ?_;intro S R hS hR;have q:=sf hM hS;unfold O0 at O;cbv;refine jK hS O (λ_=>YN hM) ?_;intro y1 O;cbv;refine jc ?_ ?_
 exact jr
 intro O;cbv;refine jK hS O (λ_=>c419 hM) ?_;intro y2 O;cbv;refine jK hS O (λ_=>c420 hM) ?_;intro y3 O;cbv;refine jK hS O (λ_=>c421 hM) ?_;intro y4 O;cbv;refine jK hS O (λ_=>c422 hM) ?_;intro y5 O;cbv;refine kV ?_;intro x6 O;cbv;refine amn hS [(1,false),(0,false)] rfl ?_;cbv;refine uZ hS O (λ_=>aef hM) aj aj rfl rfl rfl rfl ?_;intro y7 O;cbv;refine kV ?_;intro x8 O;cbv;refine uZ hS O (λ_=>aef hM) aj aj rfl rfl rfl rfl ?_;intro y9 O;cbv;refine kV ?_;intro x10 O;cbv;refine uZ hS O (λ_=>aef hM) aj aj rfl rfl rfl rfl ?_;intro y11 O;cbv;refine kE hS (je [24,27,34,37,44,47,54,57,67,68,71]) wf [] [1,6,7,8] (λs12=>f3 145 [(1,.lv 0 0),(6,.sl 1 (M.m ByteArray eS y5) false),(7,.os 1 0 (S.jD (M.m ByteArray eS s12.2))),(8,sI s12.1)] [vR (mW M f),aR 1 (M.m ByteArray eS s12.2)]) O ?_;intro Ik13 k13 s12 hk13 O e he;subst he;unfold Jm at O;cbv;refine nJ hS ?_;cbv;refine jc ?_ ?_
 intro O;cbv;refine jk hS [] [1,6,7,8] (λs15=>f3 145 [(1,.lv 0 0),(6,.sl 1 (M.m ByteArray eS y5) false),(7,.os 1 0 (S.jD (M.m ByteArray eS s15))),(8,sI s12.1)] [vR (mW M f),aR 1 (M.m ByteArray eS s15)]) O ?_ ?_
 intro Ik16 k16 hk16 O;cbv;refine jK hS O (λ_=>aiC hM) ?_;intro y18 O;cbv;refine jA hS O rfl ?_ ?_
 intro O;cbv;refine jK hS O (λ_=>aoQ hM) ?_;intro y19 O;cbv;refine jM hS O lS ?_;exact jv
 exact jv
 intro s15 O;cbv;exact ng
 intro O;cbv;refine kE hS (je [24,27,34,37,44,47,54,57,67,68,71]) wf [] [1,6,7,9] (λs20=>f3 145 [(1,.lv 0 0),(6,.sl 1 (M.m ByteArray eS y5) false),(7,.os 1 0 (S.jD (M.m ByteArray eS s20.2))),(9,sI s20.1)] [vR (mW M f),aR 1 (M.m ByteArray eS s20.2)]) O ?_;intro Ik21 k21 s20 hk21 O e he;subst he;unfold Jl at O;cbv;refine nJ hS ?_;cbv;refine jc ?_ ?_
 intro O;cbv;refine jk hS [] [1,6,7,9] (λs23=>f3 145 [(1,.lv 0 0),(6,.sl 1 (M.m ByteArray eS y5) false),(7,.os 1 0 (S.jD (M.m ByteArray eS s23))),(9,sI s20.1)] [vR (mW M f),aR 1 (M.m ByteArray eS s23)]) O ?_ ?_
 intro Ik24 k24 hk24 O;cbv;refine jK hS O (λ_=>aiC hM) ?_;intro y26 O;cbv;refine jA hS O rfl ?_ ?_
 intro O;cbv;refine jK hS O (λ_=>aoQ hM) ?_;intro y27 O;cbv;refine qK hS O rfl rfl ?_;intro x28 O;cbv;refine jM hS O lS ?_;exact jv
 exact jv
 intro s23 O;cbv;exact ng
 intro O;cbv;refine kE hS (je [24,27,34,37,44,47,54,57,67,68,71]) wf [] [1,6,7,10] (λs29=>f3 145 [(1,.lv 0 0),(6,.sl 1 (M.m ByteArray eS y5) false),(7,.os 1 0 (S.jD (M.m ByteArray eS s29.2))),(10,sI s29.1)] [vR (mW M f),aR 1 (M.m ByteArray eS s29.2)]) O ?_;intro Ik30 k30 s29 hk30 O e he;subst he;unfold Jk at O;cbv;refine nJ hS ?_;cbv;refine jc ?_ ?_
 intro O;cbv;refine jk hS [] [1,6,7,10] (λs32=>f3 145 [(1,.lv 0 0),(6,.sl 1 (M.m ByteArray eS y5) false),(7,.os 1 0 (S.jD (M.m ByteArray eS s32))),(10,sI s29.1)] [vR (mW M f),aR 1 (M.m ByteArray eS s32)]) O ?_ ?_
 intro Ik33 k33 hk33 O;cbv;refine jK hS O (λ_=>aiC hM) ?_;intro y35 O;cbv;refine jA hS O rfl ?_ ?_
 intro O;cbv;refine jK hS O (λ_=>amU hM) ?_;intro y36 O;cbv;refine jM hS O lS ?_;exact jv
 exact jv
 intro s32 O;cbv;exact ng
 intro O;cbv;refine kE hS (je [24,27,34,37,44,47,54,57,67,68,71]) wf [] [1,6,7,11] (λs37=>f3 145 [(1,.lv 0 0),(6,.sl 1 (M.m ByteArray eS y5) false),(7,.os 1 0 (S.jD (M.m ByteArray eS s37.2))),(11,sI s37.1)] [vR (mW M f),aR 1 (M.m ByteArray eS s37.2)]) O ?_;intro Ik38 k38 s37 hk38 O e he;subst he;unfold Jj at O;cbv;refine nJ hS ?_;cbv;refine jc ?_ ?_
 intro O;cbv;refine jk hS [] [1,6,7,11] (λs40=>f3 145 [(1,.lv 0 0),(6,.sl 1 (M.m ByteArray eS y5) false),(7,.os 1 0 (S.jD (M.m ByteArray eS s40))),(11,sI s37.1)] [vR (mW M f),aR 1 (M.m ByteArray eS s40)]) O ?_ ?_
 intro Ik41 k41 hk41 O;cbv;refine jK hS O (λ_=>aiC hM) ?_;intro y43 O;cbv;refine jA hS O rfl ?_ ?_
 intro O;cbv;refine jK hS O (λ_=>amU hM) ?_;intro y44 O;cbv;refine qK hS O rfl rfl ?_;intro x45 O;cbv;refine jM hS O lS ?_;exact jv
 exact jv
 intro s40 O;cbv;exact ng
 intro O;cbv;refine jk hS [] [1,6,7] (λs46=>f3 145 [(1,.lv 0 0),(6,.sl 1 (M.m ByteArray eS y5) false),(7,.os 1 0 (S.jD (M.m ByteArray eS s46)))] [vR (mW M f),aR 1 (M.m ByteArray eS s46)]) O ?_ ?_
 intro Ik47 k47 hk47 O;cbv;refine jc ?_ ?_
 intro O;cbv;refine qK hS O rfl rfl ?_;intro x49 O;cbv;refine jM hS O lS ?_;exact jv
 exact jv
 intro s46 O;cbv;refine kE hS (je [24,27,34,37,44,47,54,57,67,68,71]) wf [] [1,6,7,12] (λs50=>f3 145 [(1,.lv 0 0),(6,.sl 1 (M.m ByteArray eS y5) false),(7,.os 1 0 (S.jD (M.m ByteArray eS s50.2))),(12,sI s50.1)] [vR (mW M f),aR 1 (M.m ByteArray eS s50.2)]) O ?_;intro Ik51 k51 s50 hk51 O e he;subst he;unfold Ji at O;cbv;refine nJ hS ?_;cbv;refine jc ?_ ?_
 intro O;cbv;refine jk hS [] [1,6,7,12] (λs53=>f3 145 [(1,.lv 0 0),(6,.sl 1 (M.m ByteArray eS y5) false),(7,.os 1 0 (S.jD (M.m ByteArray eS s53))),(12,sI s50.1)] [vR (mW M f),aR 1 (M.m ByteArray eS s53)]) O ?_ ?_
 intro Ik54 k54 hk54 O;cbv;refine jK hS O (λ_=>aiC hM) ?_;intro y56 O;cbv;refine jA hS O rfl ?_ ?_
 intro O;cbv;refine jK hS O (λ_=>aoH hM) ?_;intro y57 O;cbv;refine qK hS O rfl rfl ?_;intro x58 O;cbv;refine jM hS O lS ?_;exact jv
 exact jv
 intro s53 O;cbv;exact ng
 intro O;cbv;refine kV ?_;intro x59 O;cbv;refine uZ hS O (λ_=>aef hM) aj aj rfl rfl rfl rfl ?_;intro y60 O;cbv;refine jK hS O (λ_=>amZ hM) ?_;intro y61 O;cbv;refine uZ hS O (λ_=>aef hM) aj aj rfl rfl rfl rfl ?_;intro y62 O;cbv;refine jK hS O (λ_=>amZ hM) ?_;intro y63 O;cbv;refine uZ hS O (λ_=>aef hM) aj aj rfl rfl rfl rfl ?_;intro y64 O;cbv;refine jK hS O (λ_=>amZ hM) ?_;intro y65 O;cbv;refine uZ hS O (λ_=>aef hM) aj aj rfl rfl rfl rfl ?_;intro y66 O;cbv;refine jc ?_ ?_
 exact jr
 intro O;cbv;refine tN hS O (λ_=>c427 hM) xB (λ_=>rfl) ?_;exact kS
theorem c23 {s:iT}{all:List iM}{p:Int}{l:List iL}{r:Int}(O:yw s all p l=some r):iI 23 [.agg (jb M s),.sl 17 (M.m iM (iY M) all) false,sI p,.sl 3 (M.m iL (iQ M) l) false] (λu=>u=sI r):=by
 refine jB (je [12,39,45]) func23 call23 ?_;intro S R hS hR;have q:=sf hM hS;unfold yw at O;cbv;refine jK hS O (λ_=>c21 hM) ?_;intro y1 O;cbv;refine kE hS (je [12,39,45]) wf [] [1,3,4,9,22,23,24] (λs2=>f3 73 [(1,.sl 17 (M.m iM (iY M) all) false),(3,.sl 3 (M.m iL (iQ M) l) false),(4,.lv 0 0),(9,.sl 3 (M.m iL (iQ M) y1) false),(22,.sl 3 (M.m iL (iQ M) l) false),(23,sI (S.len (M.m iL (iQ M) l))),(24,sI s2)] [vR (jb M s)]) O ?_;intro Ik3 k3 s2 hk3 O e he;subst he;unfold BZ at O;cbv;refine jc ?_ ?_
 intro O;cbv;refine kV ?_;intro x5 O;cbv;refine ZQ hS O lS rfl rfl ?_;intro x6 bx6 O;cbv;refine tN hS O (λ_=>aoM hM) xB (λ_=>rfl) ?_;intro y7 O;cbv;refine jk hS [] [1,3,4,9,22,23,24,40] (λs8=>f3 73 [(1,.sl 17 (M.m iM (iY M) all) false),(3,.sl 3 (M.m iL (iQ M) l) false),(4,.lv 0 0),(9,.sl 3 (M.m iL (iQ M) y1) false),(22,.sl 3 (M.m iL (iQ M) l) false),(23,sI (S.len (M.m iL (iQ M) l))),(24,sI s2),(40,.sb s8)] [vR (jb M s)]) O ?_ ?_
 intro Ik9 k9 hk9 O;cbv;refine jA hS O rfl ?_ ?_
 exact jv
 intro O;cbv;refine jK hS O (λ_=>c66 hM) ?_;exact lu
 intro s8 O;cbv;refine jA hS O rfl ?_ ?_
 exact jr
 exact jv
 intro O;cbv;refine kE hS (je [12,39,45]) wf [] [1,3,43,44,45] (λs12=>f3 73 [(1,.sl 17 (M.m iM (iY M) all) false),(3,.sl 3 (M.m iL (iQ M) l) false),(43,.sl 19 (M.m iW (ja M) s.objects) false),(44,sI (S.len (M.m iW (ja M) s.objects))),(45,sI s12)] []) O ?_;intro Ik13 k13 s12 hk13 O e he;subst he;unfold BX at O;cbv;refine jc ?_ ?_
 intro O;cbv;refine jk hS [] [1,3,43,44,45] (λs15=>f3 73 [(1,.sl 17 (M.m iM (iY M) all) false),(3,.sl 3 (M.m iL (iQ M) l) false),(43,.sl 19 (M.m iW (ja M) s.objects) false),(44,sI (S.len (M.m iW (ja M) s.objects))),(45,sI s12)] []) O ?_ ?_
 intro Ik16 k16 hk16 O;cbv;refine kV ?_;intro x18 O;cbv;refine jK hS O (λ_=>c62 hM) ?_;intro y19 O;cbv;refine jK hS O (λ_=>c56 hM) ?_;intro y20 O;cbv;refine jc ?_ ?_
 exact jv
 intro O;cbv;refine kE hS (je [12,39,45]) wf [] [1,3,14,15,43,44,45,56,57,58] (λs21=>f3 73 [(1,.sl 17 (M.m iM (iY M) all) false),(3,.sl 3 (M.m iL (iQ M) l) false),(14,.lv 0 0),(15,sI s21.1),(43,.sl 19 (M.m iW (ja M) s.objects) false),(44,sI (S.len (M.m iW (ja M) s.objects))),(45,sI s12),(56,.sl 3 (M.m iL (iQ M) l) false),(57,sI (S.len (M.m iL (iQ M) l))),(58,sI s21.2)] [vR (ja M x18)]) O ?_;intro Ik22 k22 s21 hk22 O e he;subst he;unfold BV at O;cbv;refine jc ?_ ?_
 intro O;cbv;refine jk hS [] [1,3,14,15,43,44,45,56,57,58] (λs24=>f3 73 [(1,.sl 17 (M.m iM (iY M) all) false),(3,.sl 3 (M.m iL (iQ M) l) false),(14,.lv 0 0),(15,sI s24),(43,.sl 19 (M.m iW (ja M) s.objects) false),(44,sI (S.len (M.m iW (ja M) s.objects))),(45,sI s12),(56,.sl 3 (M.m iL (iQ M) l) false),(57,sI (S.len (M.m iL (iQ M) l))),(58,sI s21.2)] [vR (ja M x18)]) O ?_ ?_
 intro Ik25 k25 hk25 O;cbv;refine kV ?_;intro x27 O;cbv;refine jc ?_ ?_<;>exact jv
 intro s24 O;cbv;exact ng
 intro O;cbv;refine jc ?_ ?_
 exact jr
 exact jv
 intro s15 O;cbv;exact ng
 exact jr
end
end Go.Proofs.YtlacmdnhabblcaaGreat
