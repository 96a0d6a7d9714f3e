import Derived.Test.YtchmoabpofnbaaaGreatW4a
import Derived.Test.YtchmoabpofnbaaaGreatW4d
set_option linter.all false
namespace Go.Proofs.YtchmoabpofnbaaaGreat
open Go Go.Pv
set_option maxRecDepth 100000
set_option maxHeartbeats 20000000
variable [GM]
attribute [local irreducible] bnd br jn qR ig jK lK jS rQ uY divO lu jR kY lD lU mg l9
variable {M:iO}[HM M]
instance c323 {f}:CC M 323 (J8 f) [.agg (jU M f)] (λr=>.str r):=by
 have hM:=HM.h (M:=M);refine⟨λr O=>?_⟩;refine Ij (ja [24,27,34,37,44,47,54,57,67,68,71]) Tryz.func323 Tryz.call323 ?_;intro S R hS hR q;unfold J8 at O;cbv;refine FX hS O (cI hM) ?_;intro y1 O;cbv;refine pW ?_ ?_
 exact d_R
 intro O;cbv;refine FX hS O (cI hM) ?_;intro y2 O;cbv;refine FX hS O (cI hM) ?_;intro y3 O;cbv;refine FX hS O (cI hM) ?_;intro y4 O;cbv;refine FX hS O (cI hM) ?_;intro y5 O;cbv;refine d_I ?_;intro x6 O;cbv;refine ags hS [(1,false),(0,false)] rfl ?_;cbv;refine jT hS O (cZ hM) ak ak rfl rfl rfl rfl ?_;intro y7 O;cbv;refine d_I ?_;intro x8 O;cbv;refine jT hS O (cZ hM) ak ak rfl rfl rfl rfl ?_;intro y9 O;cbv;refine d_I ?_;intro x10 O;cbv;refine jT hS O (cZ hM) ak ak rfl rfl rfl rfl ?_;intro y11 O;cbv;refine d_L (ja [24,27,34,37,44,47,54,57,67,68,71]) [] [1,6,7,8] (λs12=>f4 145 [.lv 0 0,.sl 1 (M.m ByteArray eS y5) false,.os 1 0 (S.iD (M.m ByteArray eS s12.2)),sI s12.1] [vR (jU M f),aR 1 (M.m ByteArray eS s12.2)]) O ?_;intro Ik13 k13 s12 hk13 O e he;subst he;unfold Gs at O;cbv;refine rF hS ?_;cbv;refine pW ?_ ?_
 intro O;cbv;refine Bd [] [1,6,7,8] (λs15=>f4 145 [.lv 0 0,.sl 1 (M.m ByteArray eS y5) false,.os 1 0 (S.iD (M.m ByteArray eS s15)),sI s12.1] [vR (jU M f),aR 1 (M.m ByteArray eS s15)]) O ?_ ?_
 intro Ik16 k16 hk16 O;cbv;refine FX hS O (cI hM) ?_;intro y18 O;cbv;refine vH ?_ ?_
 intro O;cbv;refine FX hS O (cI hM) ?_;intro y19 O;cbv;refine rU hS O mi ?_;exact sV
 exact sV
 intro s15 O;cbv;exact uB
 intro O;cbv;refine d_L (ja [24,27,34,37,44,47,54,57,67,68,71]) [] [1,6,7,9] (λs20=>f4 145 [.lv 0 0,.sl 1 (M.m ByteArray eS y5) false,.os 1 0 (S.iD (M.m ByteArray eS s20.2)),sI s20.1] [vR (jU M f),aR 1 (M.m ByteArray eS s20.2)]) O ?_;intro Ik21 k21 s20 hk21 O e he;subst he;unfold Gq at O;cbv;refine rF hS ?_;cbv;refine pW ?_ ?_
 intro O;cbv;refine Bd [] [1,6,7,9] (λs23=>f4 145 [.lv 0 0,.sl 1 (M.m ByteArray eS y5) false,.os 1 0 (S.iD (M.m ByteArray eS s23)),sI s20.1] [vR (jU M f),aR 1 (M.m ByteArray eS s23)]) O ?_ ?_
 intro Ik24 k24 hk24 O;cbv;refine FX hS O (cI hM) ?_;intro y26 O;cbv;refine vH ?_ ?_
 intro O;cbv;refine FX hS O (cI hM) ?_;intro y27 O;cbv;refine Vy hS O rfl rfl ?_;intro x28 O;cbv;refine rU hS O mi ?_;exact sV
 exact sV
 intro s23 O;cbv;exact uB
 intro O;cbv;refine d_L (ja [24,27,34,37,44,47,54,57,67,68,71]) [] [1,6,7,10] (λs29=>f4 145 [.lv 0 0,.sl 1 (M.m ByteArray eS y5) false,.os 1 0 (S.iD (M.m ByteArray eS s29.2)),sI s29.1] [vR (jU M f),aR 1 (M.m ByteArray eS s29.2)]) O ?_;intro Ik30 k30 s29 hk30 O e he;subst he;unfold Gp at O;cbv;refine rF hS ?_;cbv;refine pW ?_ ?_
 intro O;cbv;refine Bd [] [1,6,7,10] (λs32=>f4 145 [.lv 0 0,.sl 1 (M.m ByteArray eS y5) false,.os 1 0 (S.iD (M.m ByteArray eS s32)),sI s29.1] [vR (jU M f),aR 1 (M.m ByteArray eS s32)]) O ?_ ?_
 intro Ik33 k33 hk33 O;cbv;refine FX hS O (cI hM) ?_;intro y35 O;cbv;refine vH ?_ ?_
 intro O;cbv;refine FX hS O (cI hM) ?_;intro y36 O;cbv;refine rU hS O mi ?_;exact sV
 exact sV
 intro s32 O;cbv;exact uB
 intro O;cbv;refine d_L (ja [24,27,34,37,44,47,54,57,67,68,71]) [] [1,6,7,11] (λs37=>f4 145 [.lv 0 0,.sl 1 (M.m ByteArray eS y5) false,.os 1 0 (S.iD (M.m ByteArray eS s37.2)),sI s37.1] [vR (jU M f),aR 1 (M.m ByteArray eS s37.2)]) O ?_;intro Ik38 k38 s37 hk38 O e he;subst he;unfold Gn at O;cbv;refine rF hS ?_;cbv;refine pW ?_ ?_
 intro O;cbv;refine Bd [] [1,6,7,11] (λs40=>f4 145 [.lv 0 0,.sl 1 (M.m ByteArray eS y5) false,.os 1 0 (S.iD (M.m ByteArray eS s40)),sI s37.1] [vR (jU M f),aR 1 (M.m ByteArray eS s40)]) O ?_ ?_
 intro Ik41 k41 hk41 O;cbv;refine FX hS O (cI hM) ?_;intro y43 O;cbv;refine vH ?_ ?_
 intro O;cbv;refine FX hS O (cI hM) ?_;intro y44 O;cbv;refine Vy hS O rfl rfl ?_;intro x45 O;cbv;refine rU hS O mi ?_;exact sV
 exact sV
 intro s40 O;cbv;exact uB
 intro O;cbv;refine Bd [] [1,6,7] (λs46=>f4 145 [.lv 0 0,.sl 1 (M.m ByteArray eS y5) false,.os 1 0 (S.iD (M.m ByteArray eS s46))] [vR (jU M f),aR 1 (M.m ByteArray eS s46)]) O ?_ ?_
 intro Ik47 k47 hk47 O;cbv;refine pW ?_ ?_
 intro O;cbv;refine Vy hS O rfl rfl ?_;intro x49 O;cbv;refine rU hS O mi ?_;exact sV
 exact sV
 intro s46 O;cbv;refine d_L (ja [24,27,34,37,44,47,54,57,67,68,71]) [] [1,6,7,12] (λs50=>f4 145 [.lv 0 0,.sl 1 (M.m ByteArray eS y5) false,.os 1 0 (S.iD (M.m ByteArray eS s50.2)),sI s50.1] [vR (jU M f),aR 1 (M.m ByteArray eS s50.2)]) O ?_;intro Ik51 k51 s50 hk51 O e he;subst he;unfold Gm at O;cbv;refine rF hS ?_;cbv;refine pW ?_ ?_
 intro O;cbv;refine Bd [] [1,6,7,12] (λs53=>f4 145 [.lv 0 0,.sl 1 (M.m ByteArray eS y5) false,.os 1 0 (S.iD (M.m ByteArray eS s53)),sI s50.1] [vR (jU M f),aR 1 (M.m ByteArray eS s53)]) O ?_ ?_
 intro Ik54 k54 hk54 O;cbv;refine FX hS O (cI hM) ?_;intro y56 O;cbv;refine vH ?_ ?_
 intro O;cbv;refine FX hS O (cI hM) ?_;intro y57 O;cbv;refine Vy hS O rfl rfl ?_;intro x58 O;cbv;refine rU hS O mi ?_;exact sV
 exact sV
 intro s53 O;cbv;exact uB
 intro O;cbv;refine d_I ?_;intro x59 O;cbv;refine jT hS O (cZ hM) ak ak rfl rfl rfl rfl ?_;intro y60 O;cbv;refine FX hS O (cI hM) ?_;intro y61 O;cbv;refine jT hS O (cZ hM) ak ak rfl rfl rfl rfl ?_;intro y62 O;cbv;refine FX hS O (cI hM) ?_;intro y63 O;cbv;refine jT hS O (cZ hM) ak ak rfl rfl rfl rfl ?_;intro y64 O;cbv;refine FX hS O (cI hM) ?_;intro y65 O;cbv;refine jT hS O (cZ hM) ak ak rfl rfl rfl rfl ?_;intro y66 O;cbv;refine pW ?_ ?_
 exact d_R
 intro O;cbv;refine D6 hS O (cI hM) LU (λ_=>rfl) ?_;exact ab2
end Go.Proofs.YtchmoabpofnbaaaGreat
