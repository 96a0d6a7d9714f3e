import Derived.Test.YtchmoabpofnbaaaGreatB22
set_option linter.all false
namespace Go.Proofs.YtchmoabpofnbaaaGreat
open Go Go.Pv Proofs.Tryz
set_option maxRecDepth 100000
set_option maxHeartbeats 2000000
variable [GM]
section
variable {M:EncM}(hM:M=mapE)
include hM
theorem aaj {o:GObject}{t:GTraits}{U:Int}{source:Int}{f:jf}{r:Bool}(O:lI o t U source f=some r):fV 412 [.agg (eGObject M o),.agg (eGTraits M t),sI U,sI source,.agg (iR M f)] (λu=>u=.sb r):=by
 refine iw (gY [2,12,18,30,36,43]) func412 call412 ?_;intro S R hS hR q;unfold lI at O;cbv;refine jJ [] [2,3,5,6,9,23] (λs1=>f4 144 [sI U,sI source,.lv 0 0,.lv 1 0,.lv 2 0,.sb s1] [vR (eGObject M o),vR (eGTraits M t),vR (iR M f)]) O ?_ ?_
 intro Ik2 k2 hk2 O;cbv;refine iH (akw hM) ?_;intro y4 O;cbv;refine gu ?_ ?_<;>exact iC
 intro s1 O;cbv;refine iq ?_ ?_
 exact gQ
 intro O;cbv;refine jJ [] [6,9,13] (λs5=>f4 144 [.lv 0 0,.lv 1 0,.fn 458 [.lv 2 0]] [vR (eGTraits M t),vR (iR M f),vR [.sb (S.cmp .neq (S.bin .and .i64 t.line.types 1) 0)]]) O ?_ ?_
 intro Ik6 k6 hk6 O;cbv;refine jJ [] [2,3,5,6,9,12,13,30] (λs8=>f4 144 [sI U,sI source,.lv 0 0,.lv 1 0,.lv 2 0,.fn 457 [],.fn 458 [.lv 3 0],.sb s8] [vR (eGObject M o),vR (eGTraits M t),vR (iR M f),vR [.sb (S.cmp .neq (S.bin .and .i64 t.line.types 1) 0)]]) O ?_ ?_
 intro Ik9 k9 hk9 O;cbv;refine gu ?_ ?_<;>exact iC
 intro s8 O;cbv;refine iq ?_ ?_
 exact gQ
 intro O;cbv;refine gu ?_ ?_
 intro O;cbv;refine gu ?_ ?_
 exact gQ
 intro O;cbv;refine jJ [] [3,5,6,9,12,13,49] (λJ=>f4 144 [sI source,.lv 0 0,.lv 1 0,.lv 2 0,.fn 457 [],.fn 458 [.lv 3 0],.sb J] [vR (eGObject M o),vR (eGTraits M t),vR (iR M f),vR [.sb (S.cmp .neq (S.bin .and .i64 t.line.types 1) 0)]]) O ?_ ?_
 intro Ik12 k12 hk12 O;cbv;refine gu ?_ ?_<;>exact iC
 intro J O;cbv;refine iq ?_ ?_
 exact gQ
 intro O;cbv;refine gu ?_ ?_
 intro O;cbv;refine gu ?_ ?_
 exact gQ
 intro O;cbv;refine iH (Yq hM) ?_;intro y14 O;cbv;refine gu ?_ ?_
 exact gQ
 intro O;cbv;refine iH (Yq hM) ?_;intro y15 O;cbv;refine gu ?_ ?_
 exact gQ
 intro O;cbv;refine jJ [] [5,6,9,13,88] (λs16=>f4 144 [.lv 0 0,.lv 1 0,.lv 2 0,.fn 458 [.lv 3 0],.sb s16] [vR (eGObject M o),vR (eGTraits M t),vR (iR M f),vR [.sb (S.cmp .neq (S.bin .and .i64 t.line.types 1) 0)]]) O ?_ ?_
 intro Ik17 k17 hk17 O;cbv;refine gu ?_ ?_
 intro O;cbv;refine iH (aeG hM) ?_;exact jP
 exact iC
 intro s16 O;cbv;refine iq ?_ ?_
 exact gQ
 intro O;cbv;refine iH (agi hM) ?_;intro y20 O;cbv;refine gu ?_ ?_
 exact gQ
 intro O;cbv;refine jJ [] [5,6,9,13,106] (λs21=>f4 144 [.lv 0 0,.lv 1 0,.lv 2 0,.fn 458 [.lv 3 0],.sb s21] [vR (eGObject M o),vR (eGTraits M t),vR (iR M f),vR [.sb (S.cmp .neq (S.bin .and .i64 t.line.types 1) 0)]]) O ?_ ?_
 intro Ik22 k22 hk22 O;cbv;refine gu ?_ ?_<;>exact iC
 intro s21 O;cbv;refine iq ?_ ?_
 exact gQ
 intro O;cbv;refine gu ?_ ?_
 intro O;cbv;refine iq ?_ ?_
 exact gQ
 exact iC
 exact iC
 intro O;cbv;refine iH (Yq hM) ?_;intro y24 O;cbv;refine gu ?_ ?_
 exact gQ
 intro O;cbv;refine iH (Yq hM) ?_;intro y25 O;cbv;refine gu ?_ ?_
 exact gQ
 intro O;cbv;refine jJ [] [5,6,9,13,88] (λs26=>f4 144 [.lv 0 0,.lv 1 0,.lv 2 0,.fn 458 [.lv 3 0],.sb s26] [vR (eGObject M o),vR (eGTraits M t),vR (iR M f),vR [.sb (S.cmp .neq (S.bin .and .i64 t.line.types 1) 0)]]) O ?_ ?_
 intro Ik27 k27 hk27 O;cbv;refine gu ?_ ?_
 intro O;cbv;refine iH (aeG hM) ?_;exact jP
 exact iC
 intro s26 O;cbv;refine iq ?_ ?_
 exact gQ
 intro O;cbv;refine iH (agi hM) ?_;intro y30 O;cbv;refine gu ?_ ?_
 exact gQ
 intro O;cbv;refine jJ [] [5,6,9,13,106] (λT=>f4 144 [.lv 0 0,.lv 1 0,.lv 2 0,.fn 458 [.lv 3 0],.sb T] [vR (eGObject M o),vR (eGTraits M t),vR (iR M f),vR [.sb (S.cmp .neq (S.bin .and .i64 t.line.types 1) 0)]]) O ?_ ?_
 intro Ik32 k32 hk32 O;cbv;refine gu ?_ ?_<;>exact iC
 intro T O;cbv;refine iq ?_ ?_
 exact gQ
 intro O;cbv;refine gu ?_ ?_
 intro O;cbv;refine iq ?_ ?_
 exact gQ
 exact iC
 exact iC
 intro O;cbv;refine jJ [] [3,5,6,9,12,13,49] (λs34=>f4 144 [sI source,.lv 0 0,.lv 1 0,.lv 2 0,.fn 457 [],.fn 458 [.lv 3 0],.sb s34] [vR (eGObject M o),vR (eGTraits M t),vR (iR M f),vR [.sb (S.cmp .neq (S.bin .and .i64 t.line.types 1) 0)]]) O ?_ ?_
 intro Ik35 k35 hk35 O;cbv;refine gu ?_ ?_<;>exact iC
 intro s34 O;cbv;refine iq ?_ ?_
 exact gQ
 intro O;cbv;refine gu ?_ ?_
 intro O;cbv;refine gu ?_ ?_
 exact gQ
 intro O;cbv;refine iH (Yq hM) ?_;intro y37 O;cbv;refine gu ?_ ?_
 exact gQ
 intro O;cbv;refine iH (Yq hM) ?_;intro y38 O;cbv;refine gu ?_ ?_
 exact gQ
 intro O;cbv;refine jJ [] [5,6,9,13,88] (λI=>f4 144 [.lv 0 0,.lv 1 0,.lv 2 0,.fn 458 [.lv 3 0],.sb I] [vR (eGObject M o),vR (eGTraits M t),vR (iR M f),vR [.sb (S.cmp .neq (S.bin .and .i64 t.line.types 1) 0)]]) O ?_ ?_
 intro Ik40 k40 hk40 O;cbv;refine gu ?_ ?_
 intro O;cbv;refine iH (aeG hM) ?_;exact jP
 exact iC
 intro I O;cbv;refine iq ?_ ?_
 exact gQ
 intro O;cbv;refine iH (agi hM) ?_;intro y43 O;cbv;refine gu ?_ ?_
 exact gQ
 intro O;cbv;refine jJ [] [5,6,9,13,106] (λC=>f4 144 [.lv 0 0,.lv 1 0,.lv 2 0,.fn 458 [.lv 3 0],.sb C] [vR (eGObject M o),vR (eGTraits M t),vR (iR M f),vR [.sb (S.cmp .neq (S.bin .and .i64 t.line.types 1) 0)]]) O ?_ ?_
 intro Ik45 k45 hk45 O;cbv;refine gu ?_ ?_<;>exact iC
 intro C O;cbv;refine iq ?_ ?_
 exact gQ
 intro O;cbv;refine gu ?_ ?_
 intro O;cbv;refine iq ?_ ?_
 exact gQ
 exact iC
 exact iC
 intro O;cbv;refine iH (Yq hM) ?_;intro y47 O;cbv;refine gu ?_ ?_
 exact gQ
 intro O;cbv;refine iH (Yq hM) ?_;intro y48 O;cbv;refine gu ?_ ?_
 exact gQ
 intro O;cbv;refine jJ [] [5,6,9,13,88] (λs49=>f4 144 [.lv 0 0,.lv 1 0,.lv 2 0,.fn 458 [.lv 3 0],.sb s49] [vR (eGObject M o),vR (eGTraits M t),vR (iR M f),vR [.sb (S.cmp .neq (S.bin .and .i64 t.line.types 1) 0)]]) O ?_ ?_
 intro Ik50 k50 hk50 O;cbv;refine gu ?_ ?_
 intro O;cbv;refine iH (aeG hM) ?_;exact jP
 exact iC
 intro s49 O;cbv;refine iq ?_ ?_
 exact gQ
 intro O;cbv;refine iH (agi hM) ?_;intro y53 O;cbv;refine gu ?_ ?_
 exact gQ
 intro O;cbv;refine jJ [] [5,6,9,13,106] (λg=>f4 144 [.lv 0 0,.lv 1 0,.lv 2 0,.fn 458 [.lv 3 0],.sb g] [vR (eGObject M o),vR (eGTraits M t),vR (iR M f),vR [.sb (S.cmp .neq (S.bin .and .i64 t.line.types 1) 0)]]) O ?_ ?_
 intro Ik55 k55 hk55 O;cbv;refine gu ?_ ?_<;>exact iC
 intro g O;cbv;refine iq ?_ ?_
 exact gQ
 intro O;cbv;refine gu ?_ ?_
 intro O;cbv;refine iq ?_ ?_
 exact gQ
 exact iC
 exact iC
 intro s5 O;cbv;refine zU hS ?_;cbv;refine Q5 hS O (λ_=>akr hM) AQ (λ_=>rfl) ?_;intro y57 O;cbv;refine iq ?_ ?_
 intro O;cbv;refine Q5 hS O (λ_=>akr hM) AQ (λ_=>rfl) ?_;intro y58 O;cbv;refine iq ?_ ?_
 intro O;cbv;refine Ac hS O (λ_=>c461 hM) ?_;intro y59 O;cbv;refine Ac hS O (λ_=>aka hM) ?_;exact ja
 exact gQ
 exact gQ
end
variable [GM]
section
variable {M:EncM}(hM:M=mapE)
include hM
theorem c323 {f:jf}{r:ByteArray}(O:JK f=some r):fV 323 [.agg (iR M f)] (λu=>u=.str r):=by
 refine iw (gY [24,27,34,37,44,47,54,57,67,68,71]) func323 call323 ?_;intro S R hS hR q;unfold JK at O;cbv;refine iH (WT hM) ?_;intro y1 O;cbv;refine gu ?_ ?_
 exact gQ
 intro O;cbv;refine iH (c389 hM) ?_;intro y2 O;cbv;refine iH (c390 hM) ?_;intro y3 O;cbv;refine iH (c391 hM) ?_;intro y4 O;cbv;refine iH (c392 hM) ?_;intro y5 O;cbv;refine lH ?_;intro x6 O;cbv;refine ahN hS [(1,false),(0,false)] rfl ?_;cbv;refine jO hS O (λ_=>aab hM) ai ai rfl rfl rfl rfl ?_;intro y7 O;cbv;refine lH ?_;intro x8 O;cbv;refine jO hS O (λ_=>aab hM) ai ai rfl rfl rfl rfl ?_;intro y9 O;cbv;refine lH ?_;intro x10 O;cbv;refine jO hS O (λ_=>aab hM) ai ai rfl rfl rfl rfl ?_;intro y11 O;cbv;refine wB (gY [24,27,34,37,44,47,54,57,67,68,71]) [] [1,6,7,8] (λs12=>f4 145 [.lv 0 0,.sl 1 (M.m ByteArray eS y5) false,.os 1 0 (S.lenN (M.m ByteArray eS s12.2)),sI s12.1] [vR (iR M f),aR 1 (M.m ByteArray eS s12.2)]) O ?_;intro Ik13 k13 s12 hk13 O e he;subst he;unfold E8 at O;cbv;refine qN hS ?_;cbv;refine gu ?_ ?_
 intro O;cbv;refine jJ [] [1,6,7,8] (λs15=>f4 145 [.lv 0 0,.sl 1 (M.m ByteArray eS y5) false,.os 1 0 (S.lenN (M.m ByteArray eS s15)),sI s12.1] [vR (iR M f),aR 1 (M.m ByteArray eS s15)]) O ?_ ?_
 intro Ik16 k16 hk16 O;cbv;refine iH (ad8 hM) ?_;intro y18 O;cbv;refine iq ?_ ?_
 intro O;cbv;refine iH (akx hM) ?_;intro y19 O;cbv;refine d_room hS O d_e ?_;exact iC
 exact iC
 intro s15 O;cbv;exact nM
 intro O;cbv;refine wB (gY [24,27,34,37,44,47,54,57,67,68,71]) [] [1,6,7,9] (λs20=>f4 145 [.lv 0 0,.sl 1 (M.m ByteArray eS y5) false,.os 1 0 (S.lenN (M.m ByteArray eS s20.2)),sI s20.1] [vR (iR M f),aR 1 (M.m ByteArray eS s20.2)]) O ?_;intro Ik21 k21 s20 hk21 O e he;subst he;unfold E5 at O;cbv;refine qN hS ?_;cbv;refine gu ?_ ?_
 intro O;cbv;refine jJ [] [1,6,7,9] (λs23=>f4 145 [.lv 0 0,.sl 1 (M.m ByteArray eS y5) false,.os 1 0 (S.lenN (M.m ByteArray eS s23)),sI s20.1] [vR (iR M f),aR 1 (M.m ByteArray eS s23)]) O ?_ ?_
 intro Ik24 k24 hk24 O;cbv;refine iH (ad8 hM) ?_;intro y26 O;cbv;refine iq ?_ ?_
 intro O;cbv;refine iH (akx hM) ?_;intro y27 O;cbv;refine nS hS O rfl rfl ?_;intro x28 O;cbv;refine d_room hS O d_e ?_;exact iC
 exact iC
 intro s23 O;cbv;exact nM
 intro O;cbv;refine wB (gY [24,27,34,37,44,47,54,57,67,68,71]) [] [1,6,7,10] (λs29=>f4 145 [.lv 0 0,.sl 1 (M.m ByteArray eS y5) false,.os 1 0 (S.lenN (M.m ByteArray eS s29.2)),sI s29.1] [vR (iR M f),aR 1 (M.m ByteArray eS s29.2)]) O ?_;intro Ik30 k30 s29 hk30 O e he;subst he;unfold EZ at O;cbv;refine qN hS ?_;cbv;refine gu ?_ ?_
 intro O;cbv;refine jJ [] [1,6,7,10] (λs32=>f4 145 [.lv 0 0,.sl 1 (M.m ByteArray eS y5) false,.os 1 0 (S.lenN (M.m ByteArray eS s32)),sI s29.1] [vR (iR M f),aR 1 (M.m ByteArray eS s32)]) O ?_ ?_
 intro Ik33 k33 hk33 O;cbv;refine iH (ad8 hM) ?_;intro y35 O;cbv;refine iq ?_ ?_
 intro O;cbv;refine iH (ah3 hM) ?_;intro y36 O;cbv;refine d_room hS O d_e ?_;exact iC
 exact iC
 intro s32 O;cbv;exact nM
 intro O;cbv;refine wB (gY [24,27,34,37,44,47,54,57,67,68,71]) [] [1,6,7,11] (λs37=>f4 145 [.lv 0 0,.sl 1 (M.m ByteArray eS y5) false,.os 1 0 (S.lenN (M.m ByteArray eS s37.2)),sI s37.1] [vR (iR M f),aR 1 (M.m ByteArray eS s37.2)]) O ?_;intro Ik38 k38 s37 hk38 O e he;subst he;unfold EY at O;cbv;refine qN hS ?_;cbv;refine gu ?_ ?_
 intro O;cbv;refine jJ [] [1,6,7,11] (λs40=>f4 145 [.lv 0 0,.sl 1 (M.m ByteArray eS y5) false,.os 1 0 (S.lenN (M.m ByteArray eS s40)),sI s37.1] [vR (iR M f),aR 1 (M.m ByteArray eS s40)]) O ?_ ?_
 intro Ik41 k41 hk41 O;cbv;refine iH (ad8 hM) ?_;intro y43 O;cbv;refine iq ?_ ?_
 intro O;cbv;refine iH (ah3 hM) ?_;intro y44 O;cbv;refine nS hS O rfl rfl ?_;intro x45 O;cbv;refine d_room hS O d_e ?_;exact iC
 exact iC
 intro s40 O;cbv;exact nM
 intro O;cbv;refine jJ [] [1,6,7] (λs46=>f4 145 [.lv 0 0,.sl 1 (M.m ByteArray eS y5) false,.os 1 0 (S.lenN (M.m ByteArray eS s46))] [vR (iR M f),aR 1 (M.m ByteArray eS s46)]) O ?_ ?_
 intro Ik47 k47 hk47 O;cbv;refine gu ?_ ?_
 intro O;cbv;refine nS hS O rfl rfl ?_;intro x49 O;cbv;refine d_room hS O d_e ?_;exact iC
 exact iC
 intro s46 O;cbv;refine wB (gY [24,27,34,37,44,47,54,57,67,68,71]) [] [1,6,7,12] (λs50=>f4 145 [.lv 0 0,.sl 1 (M.m ByteArray eS y5) false,.os 1 0 (S.lenN (M.m ByteArray eS s50.2)),sI s50.1] [vR (iR M f),aR 1 (M.m ByteArray eS s50.2)]) O ?_;intro Ik51 k51 s50 hk51 O e he;subst he;unfold EX at O;cbv;refine qN hS ?_;cbv;refine gu ?_ ?_
 intro O;cbv;refine jJ [] [1,6,7,12] (λs53=>f4 145 [.lv 0 0,.sl 1 (M.m ByteArray eS y5) false,.os 1 0 (S.lenN (M.m ByteArray eS s53)),sI s50.1] [vR (iR M f),aR 1 (M.m ByteArray eS s53)]) O ?_ ?_
 intro Ik54 k54 hk54 O;cbv;refine iH (ad8 hM) ?_;intro y56 O;cbv;refine iq ?_ ?_
 intro O;cbv;refine iH (aks hM) ?_;intro y57 O;cbv;refine nS hS O rfl rfl ?_;intro x58 O;cbv;refine d_room hS O d_e ?_;exact iC
 exact iC
 intro s53 O;cbv;exact nM
 intro O;cbv;refine lH ?_;intro x59 O;cbv;refine jO hS O (λ_=>aab hM) ai ai rfl rfl rfl rfl ?_;intro y60 O;cbv;refine iH (aiF hM) ?_;intro y61 O;cbv;refine jO hS O (λ_=>aab hM) ai ai rfl rfl rfl rfl ?_;intro y62 O;cbv;refine iH (aiF hM) ?_;intro y63 O;cbv;refine jO hS O (λ_=>aab hM) ai ai rfl rfl rfl rfl ?_;intro y64 O;cbv;refine iH (aiF hM) ?_;intro y65 O;cbv;refine jO hS O (λ_=>aab hM) ai ai rfl rfl rfl rfl ?_;intro y66 O;cbv;refine gu ?_ ?_
 exact gQ
 intro O;cbv;refine oO hS O (λ_=>c397 hM) AQ (λ_=>rfl) ?_;exact ja
theorem c243 {cards:List GCard}{s:GState}{r:List iD}(O:zt cards s=some r):fV 243 [jR M cards,.agg (eGState M s)] (λu=>u=gV M r):=by
 refine iw (gY [23,25]) func243 call243 ?_;intro S R hS hR q;unfold zt at O;cbv;refine wB (gY [23,25]) [.tO 5 23] [0,3,5,13,14,15] (λs1=>f4 78 [jR M cards,.lv 0 0,.os 1 0 (S.lenN (nK M s1.2)),kP M s.objects,sI (S.len (lK M s.objects)),sI s1.1] [vR (eGState M s),aR 23 (nK M s1.2)]) O ?_;intro Ik2 k2 s1 hk2 O e he;subst he;unfold xE at O;cbv;refine gu ?_ ?_
 intro O;cbv;refine jJ [.tO 5 23] [0,3,5,13,14,15] (λs4=>f4 78 [jR M cards,.lv 0 0,.os 1 0 (S.lenN (nK M s4)),kP M s.objects,sI (S.len (lK M s.objects)),sI s1.1] [vR (eGState M s),aR 23 (nK M s4)]) O ?_ ?_
 intro Ik5 k5 hk5 O;cbv;refine lH ?_;intro x7 O;cbv;refine gu ?_ ?_
 exact iC
 intro O;cbv;refine iH (aiI hM) ?_;intro y8 O;cbv;refine wB (gY [23,25]) [.tO 5 23] [0,3,5,7,13,14,15,25,26,27] (λs9=>f4 78 [jR M cards,.lv 0 0,.os 1 0 (S.lenN (nK M s9.2)),.lv 2 0,kP M s.objects,sI (S.len (lK M s.objects)),sI s1.1,xq M y8.abilities,sI (S.len (pX M y8.abilities)),sI s9.1] [vR (eGState M s),aR 23 (nK M s9.2),vR (eGObject M x7)]) O ?_;intro Ik10 k10 s9 hk10 O e he;subst he;unfold xB at O;cbv;refine gu ?_ ?_
 intro O;cbv;refine jJ [.tO 5 23] [0,3,5,7,13,14,15,25,26,27] (λs12=>f4 78 [jR M cards,.lv 0 0,.os 1 0 (S.lenN (nK M s12)),.lv 2 0,kP M s.objects,sI (S.len (lK M s.objects)),sI s1.1,xq M y8.abilities,sI (S.len (pX M y8.abilities)),sI s9.1] [vR (eGState M s),aR 23 (nK M s12),vR (eGObject M x7)]) O ?_ ?_
 intro Ik13 k13 hk13 O;cbv;refine lH ?_;intro x15 O;cbv;refine gu ?_ ?_
 intro O;cbv;refine zU hS ?_;cbv;refine Ac hS O (λ_=>ad9 hM) ?_;intro y16 O;cbv;refine d_wk hS (e:=(jb M)) O d_st ?_;intro x17 O;cbv;refine d_room hS O d_e ?_;exact iC
 exact iC
 intro s12 O;cbv;exact nM
 exact iC
 intro s4 O;cbv;exact nM
 intro O;cbv;refine wB (gY [23,25]) [] [5,54,55,56] (λs18=>f4 78 [.os 0 0 (S.lenN (nK M s18.2)),ajW M s.uB,sI (S.len (ajV M s.uB)),sI s18.1] [aR 23 (nK M s18.2)]) O ?_;intro Ik19 k19 s18 hk19 O e he;subst he;unfold xC at O;cbv;refine gu ?_ ?_
 intro O;cbv;refine lH ?_;intro x21 O;cbv;refine zU hS ?_;cbv;refine Ac hS O (λ_=>c130 hM) ?_;intro y22 O;cbv;refine Ac hS O (λ_=>ad9 hM) ?_;intro y23 O;cbv;refine d_wk hS (e:=(jb M)) O d_st ?_;intro x24 O;cbv;refine d_room hS O d_e ?_;exact iC
 exact gQ
theorem aky {m:jv}{r:Bool}(O:PS m=some r):fV 241 [.agg (uz M m)] (λu=>u=.sb r):=by
 refine iw (gY [2]) func241 call241 ?_;intro S R hS hR q;unfold PS at O;cbv;refine jJ [] [1,16] (λU=>f4 107 [.lv 0 0,.sb U] [vR (uz M m)]) O ?_ ?_
 intro T k2 J O;cbv;refine gu ?_ ?_
 exact iC
 intro O;cbv;refine gu ?_ ?_
 exact iC
 intro O;cbv;refine iH (c318 hM) ?_;intro y4 O;cbv;replace O:=uZ O;exact nM
 intro U O;cbv;refine iq ?_ ?_
 exact gQ
 intro O;cbv;refine gu ?_ ?_
 intro O;cbv;refine iH (akd hM) ?_;exact ja
 intro O;cbv;refine gu ?_ ?_
 intro O;cbv;refine iH (akd hM) ?_;exact ja
 intro O;cbv;refine gu ?_ ?_
 intro O;cbv;refine iH (agC hM) ?_;exact ja
 intro O;cbv;refine gu ?_ ?_
 intro O;cbv;refine iH (agC hM) ?_;exact ja
 intro O;cbv;refine gu ?_ ?_
 intro O;cbv;refine gu ?_ ?_<;>exact gQ
 intro O;cbv;refine gu ?_ ?_
 intro O;cbv;refine gu ?_ ?_<;>exact gQ
 intro O;cbv;refine gu ?_ ?_
 intro O;cbv;refine gu ?_ ?_<;>exact gQ
 intro O;cbv;refine gu ?_ ?_
 intro O;cbv;refine gu ?_ ?_<;>exact gQ
 intro O;cbv;refine gu ?_ ?_
 intro O;cbv;refine iH (WT hM) ?_;exact ja
 intro O;cbv;refine gu ?_ ?_
 intro O;cbv;refine gu ?_ ?_
 intro O;cbv;refine gu ?_ ?_
 intro O;cbv;refine gu ?_ ?_<;>exact gQ
 exact gQ
 exact gQ
 intro O;cbv;refine gu ?_ ?_
 intro O;cbv;refine gu ?_ ?_
 intro O;cbv;refine gu ?_ ?_
 intro O;cbv;refine gu ?_ ?_<;>exact gQ
 exact gQ
 exact gQ
 exact gQ
end
end Go.Proofs.YtchmoabpofnbaaaGreat
