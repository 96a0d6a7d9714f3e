import Derived.Test.YtchmoabpofnbaaaGreatD52
import Derived.Test.YtchmoabpofnbaaaGreatD54
set_option linter.all false
namespace Go.Proofs.YtchmoabpofnbaaaGreat
open Go Go.Pv
set_option maxRecDepth 100000
set_option maxHeartbeats 20000000
variable [GM]
attribute [local irreducible] bnd br jn pI eH iI kD gW qx sG divO jU jc jM jD jR kK kE
variable {M:gm}[HM M]
instance c323 {f}:CC M 323 (Oo f) [.agg (jm M f)] (λr=>.str r):=by
 have hM:=HM.h (M:=M);refine⟨λr U=>?_⟩;refine EN (fZ [24,27,34,37,44,47,54,57,67,68,71]) Tryz.func323 Tryz.call323 ?_;intro S R O hR q;unfold Oo at U;cbv;refine wo O U (cI hM) ?_;intro y1 U;cbv;refine mP ?_ ?_
 exact d_R
 intro U;cbv;refine wo O U (cI hM) ?_;intro y2 U;cbv;refine wo O U (cI hM) ?_;intro y3 U;cbv;refine wo O U (cI hM) ?_;intro y4 U;cbv;refine wo O U (cI hM) ?_;intro y5 U;cbv;refine Kr ?_;intro x6 U;cbv;refine als O [(1,false),(0,false)] rfl ?_;cbv;refine jE O U (cZ hM) ah ah rfl rfl rfl rfl ?_;intro y7 U;cbv;refine Kr ?_;intro x8 U;cbv;refine jE O U (cZ hM) ah ah rfl rfl rfl rfl ?_;intro y9 U;cbv;refine Kr ?_;intro x10 U;cbv;refine jE O U (cZ hM) ah ah rfl rfl rfl rfl ?_;intro y11 U;cbv;refine Ji (fZ [24,27,34,37,44,47,54,57,67,68,71]) [] [1,6,7,8] (λs12=>f4 145 [.lv 0 0,.sl 1 (M.m ByteArray eS y5) false,.os 1 0 (S.fE (M.m ByteArray eS s12.2)),sI s12.1] [vR (jm M f),aR 1 (M.m ByteArray eS s12.2)]) U ?_;intro Ik13 k13 s12 hk13 U e he;subst he;unfold Jv at U;cbv;refine nz O ?_;cbv;refine mP ?_ ?_
 intro U;cbv;refine DJ [] [1,6,7,8] (λs15=>f4 145 [.lv 0 0,.sl 1 (M.m ByteArray eS y5) false,.os 1 0 (S.fE (M.m ByteArray eS s15)),sI s12.1] [vR (jm M f),aR 1 (M.m ByteArray eS s15)]) U ?_ ?_
 intro Ik16 k16 hk16 U;cbv;refine wo O U (cI hM) ?_;intro y18 U;cbv;refine xH ?_ ?_
 intro U;cbv;refine wo O U (cI hM) ?_;intro y19 U;cbv;refine nM O U jW ?_;exact tY
 exact tY
 intro s15 U;cbv;exact uj
 intro U;cbv;refine Ji (fZ [24,27,34,37,44,47,54,57,67,68,71]) [] [1,6,7,9] (λs20=>f4 145 [.lv 0 0,.sl 1 (M.m ByteArray eS y5) false,.os 1 0 (S.fE (M.m ByteArray eS s20.2)),sI s20.1] [vR (jm M f),aR 1 (M.m ByteArray eS s20.2)]) U ?_;intro Ik21 k21 s20 hk21 U e he;subst he;unfold Ju at U;cbv;refine nz O ?_;cbv;refine mP ?_ ?_
 intro U;cbv;refine DJ [] [1,6,7,9] (λs23=>f4 145 [.lv 0 0,.sl 1 (M.m ByteArray eS y5) false,.os 1 0 (S.fE (M.m ByteArray eS s23)),sI s20.1] [vR (jm M f),aR 1 (M.m ByteArray eS s23)]) U ?_ ?_
 intro Ik24 k24 hk24 U;cbv;refine wo O U (cI hM) ?_;intro y26 U;cbv;refine xH ?_ ?_
 intro U;cbv;refine wo O U (cI hM) ?_;intro y27 U;cbv;refine YU O U rfl rfl ?_;intro x28 U;cbv;refine nM O U jW ?_;exact tY
 exact tY
 intro s23 U;cbv;exact uj
 intro U;cbv;refine Ji (fZ [24,27,34,37,44,47,54,57,67,68,71]) [] [1,6,7,10] (λs29=>f4 145 [.lv 0 0,.sl 1 (M.m ByteArray eS y5) false,.os 1 0 (S.fE (M.m ByteArray eS s29.2)),sI s29.1] [vR (jm M f),aR 1 (M.m ByteArray eS s29.2)]) U ?_;intro Ik30 k30 s29 hk30 U e he;subst he;unfold Jt at U;cbv;refine nz O ?_;cbv;refine mP ?_ ?_
 intro U;cbv;refine DJ [] [1,6,7,10] (λs32=>f4 145 [.lv 0 0,.sl 1 (M.m ByteArray eS y5) false,.os 1 0 (S.fE (M.m ByteArray eS s32)),sI s29.1] [vR (jm M f),aR 1 (M.m ByteArray eS s32)]) U ?_ ?_
 intro Ik33 k33 hk33 U;cbv;refine wo O U (cI hM) ?_;intro y35 U;cbv;refine xH ?_ ?_
 intro U;cbv;refine wo O U (cI hM) ?_;intro y36 U;cbv;refine nM O U jW ?_;exact tY
 exact tY
 intro s32 U;cbv;exact uj
 intro U;cbv;refine Ji (fZ [24,27,34,37,44,47,54,57,67,68,71]) [] [1,6,7,11] (λs37=>f4 145 [.lv 0 0,.sl 1 (M.m ByteArray eS y5) false,.os 1 0 (S.fE (M.m ByteArray eS s37.2)),sI s37.1] [vR (jm M f),aR 1 (M.m ByteArray eS s37.2)]) U ?_;intro Ik38 k38 s37 hk38 U e he;subst he;unfold Js at U;cbv;refine nz O ?_;cbv;refine mP ?_ ?_
 intro U;cbv;refine DJ [] [1,6,7,11] (λs40=>f4 145 [.lv 0 0,.sl 1 (M.m ByteArray eS y5) false,.os 1 0 (S.fE (M.m ByteArray eS s40)),sI s37.1] [vR (jm M f),aR 1 (M.m ByteArray eS s40)]) U ?_ ?_
 intro Ik41 k41 hk41 U;cbv;refine wo O U (cI hM) ?_;intro y43 U;cbv;refine xH ?_ ?_
 intro U;cbv;refine wo O U (cI hM) ?_;intro y44 U;cbv;refine YU O U rfl rfl ?_;intro x45 U;cbv;refine nM O U jW ?_;exact tY
 exact tY
 intro s40 U;cbv;exact uj
 intro U;cbv;refine DJ [] [1,6,7] (λs46=>f4 145 [.lv 0 0,.sl 1 (M.m ByteArray eS y5) false,.os 1 0 (S.fE (M.m ByteArray eS s46))] [vR (jm M f),aR 1 (M.m ByteArray eS s46)]) U ?_ ?_
 intro Ik47 k47 hk47 U;cbv;refine mP ?_ ?_
 intro U;cbv;refine YU O U rfl rfl ?_;intro x49 U;cbv;refine nM O U jW ?_;exact tY
 exact tY
 intro s46 U;cbv;refine Ji (fZ [24,27,34,37,44,47,54,57,67,68,71]) [] [1,6,7,12] (λs50=>f4 145 [.lv 0 0,.sl 1 (M.m ByteArray eS y5) false,.os 1 0 (S.fE (M.m ByteArray eS s50.2)),sI s50.1] [vR (jm M f),aR 1 (M.m ByteArray eS s50.2)]) U ?_;intro Ik51 k51 s50 hk51 U e he;subst he;unfold Jr at U;cbv;refine nz O ?_;cbv;refine mP ?_ ?_
 intro U;cbv;refine DJ [] [1,6,7,12] (λs53=>f4 145 [.lv 0 0,.sl 1 (M.m ByteArray eS y5) false,.os 1 0 (S.fE (M.m ByteArray eS s53)),sI s50.1] [vR (jm M f),aR 1 (M.m ByteArray eS s53)]) U ?_ ?_
 intro Ik54 k54 hk54 U;cbv;refine wo O U (cI hM) ?_;intro y56 U;cbv;refine xH ?_ ?_
 intro U;cbv;refine wo O U (cI hM) ?_;intro y57 U;cbv;refine YU O U rfl rfl ?_;intro x58 U;cbv;refine nM O U jW ?_;exact tY
 exact tY
 intro s53 U;cbv;exact uj
 intro U;cbv;refine Kr ?_;intro x59 U;cbv;refine jE O U (cZ hM) ah ah rfl rfl rfl rfl ?_;intro y60 U;cbv;refine wo O U (cI hM) ?_;intro y61 U;cbv;refine jE O U (cZ hM) ah ah rfl rfl rfl rfl ?_;intro y62 U;cbv;refine wo O U (cI hM) ?_;intro y63 U;cbv;refine jE O U (cZ hM) ah ah rfl rfl rfl rfl ?_;intro y64 U;cbv;refine wo O U (cI hM) ?_;intro y65 U;cbv;refine jE O U (cZ hM) ah ah rfl rfl rfl rfl ?_;intro y66 U;cbv;refine mP ?_ ?_
 exact d_R
 intro U;cbv;refine Em O U (cI hM) NC (λ_=>rfl) ?_;exact adz
instance aoc {s}{w1:List fH}:CZ M 199 (uK s (λa0=>Cf a0 w1)) [.os 0 0 (M.n fH s),.fn 284 [.pp [pX M w1]]] [(0,(aR 3 (ny M s)))] 1 (λr=>.os 1 0 (M.n fH r)) (λr=>[(0,none),(1,(aR 3 (ny M r)))]) 2:=by
 have hM:=HM.h (M:=M);refine⟨λr U=>?_⟩;refine Ad (T:=(Gh 1 [13] [[(3,true)]])) (gJ 1 [13] [[(3,true)]]) wf Tryz.func199 rfl Tryz.call199 rfl ?_;intro S R O hR;have q:=sf hM O;unfold uK at U;cbv;refine Em O U (cI hM) NC (λ_=>rfl) ?_;intro y1 U;cbv;refine mP ?_ ?_
 intro U;cbv;cases U;exact hR _ _ _ ah ah rfl
 intro U;cbv;refine Ji (gJ 1 [13] [[(3,true)]]) [] [0,1,5,6] (λs2=>f4 42 [.os 0 0 (S.fE (ny M s2.2.2)),.fn 284 [.pp [pX M w1]],sI s2.1,sI s2.2.1] [aR 3 (ny M s2.2.2)]) U ?_;intro Ik3 k3 s2 hk3 U e he;subst he;unfold xN at U;cbv;refine mP ?_ ?_
 intro U;cbv;refine DJ [] [0,1,5,6] (λs5=>f4 42 [.os 0 0 (S.fE (ny M s5.2)),.fn 284 [.pp [pX M w1]],sI s5.1,sI s2.2.1] [aR 3 (ny M s5.2)]) U ?_ ?_
 intro Ik6 k6 hk6 U;cbv;refine lh O U jW rfl ?_;intro j8 _ U;cbv;refine jv O hM U rfl jW ?_;intro x9 U;cbv;refine wo O U (cI hM) ?_;intro y10 U;cbv;refine mP ?_ ?_
 intro U;cbv;refine lh O U jW rfl ?_;intro j11 _ U;cbv;refine jv O hM U rfl jW ?_;exact yX
 exact tY
 intro s5 U;cbv;exact uj
 intro U;cbv;refine ab5 O U jW rfl jW ?_;intro x13 bx13 U;cbv;refine LV O (e:=(uk M)) U iU ?_;intro x14 U;cbv;refine ab5 O U jW rfl rfl ?_;intro x15 bx15 U;cbv;cases U;exact hR _ _ _ ak ak rfl
end Go.Proofs.YtchmoabpofnbaaaGreat
namespace Go.Proofs.YtchmoabpofnbaaaGreat
open Go Go.Pv Proofs.Tryz
set_option maxRecDepth 100000
set_option maxHeartbeats 20000000
variable [GM]
attribute [local irreducible] bnd br jn pI eH iI kD gW qx sG divO jU jc jM jD jR kK kE
variable {M:gm}[HM M]
instance c412 {o}{t}{you}{source}{f}:CC M 412 (mJ o t you source f) [.agg (jo M o),.agg (jd M t),sI you,sI source,.agg (jm M f)] (λr=>.sb r):=by
 have:=ct 2 [2,3,5,6,9,23] (λ_ s=>jf [(23,.sb s)]);have:=ct 43 [6,9,13] (λ_ (_:Unit)=>jf []);have:=ct 12 [2,3,5,6,9,12,13,30] (λ_ s=>jf [(30,.sb s)]);have:=ct 18 [3,5,6,9,12,13,49] (λ_ s=>jf [(49,.sb s)]);have:=ct 30 [5,6,9,13,88] (λ_ s=>jf [(88,.sb s)]);have:=ct 36 [5,6,9,13,106] (λ_ s=>jf [(106,.sb s)]);exact wA (fZ [2,12,18,30,36,43]) func412 call412
instance aod {s}{w1}{w2}{w3}{w4:List (List Bool)}:CC M 222 (qV s (λa0=>yE a0 w1 w2 (λa0 a1=>tq a0 a1 w3 w4))) [.sl 1 (mI M s) false,.fn 405 [.pp [sI w1],.pp [.sl 1 (M.m (List Bool) (eL M 1 eB) w2) false],.pp [.fn 455 [.pp [.sl 1 (mI M w3) false],.pp [.sl 1 (M.m (List Bool) (eL M 1 eB) w4) false]]]]] (λr=>.sb r):=by
 exact wA fG func222 call222
instance c353 {o}{t}{you}{source}{f}:CC M 353 (qF o t you source f) [.agg (jo M o),.agg (jd M t),sI you,sI source,.agg (jm M f)] (λr=>.sb r):=by
 have:=ct 2 [6,9,46] (λ_ s=>jf [(46,.sb s)]);have:=ct 6 [6,9,66] (λ_ s=>jf [(66,.sb s)]);have:=ct 10 [6,9,84] (λ_ s=>jf [(84,.sb s)]);exact wA (fZ [2,6,10]) func353 call353
instance c379 {pr}{specs}:CC M 379 (aaw pr specs) [.agg (Y8 M pr),sI specs] (λr=>.sb r):=by
 have:=ct 7 [1,2] (λ_ s=>jf [(1,sI s)]);have:=ct 6 [1,2,14] (λ_ s=>jf [(14,.sb s)]);have:=ct 21 [2] (λ_ (_:Unit)=>jf []);have:=ct 12 [2,26] (λ_ s=>jf [(26,.sb s)]);exact wA (fZ [6,7,12,21]) func379 call379
instance c381 {a}:CC M 381 (aax a) [.agg (Ie M a)] (λr=>.sb r):=by
 have:=ct 33 [1,3] (λ_ s=>up [] [(1,(vR (Ie M s)))]);have:=ct 10 [1,3,17] (λ_ s=>jf [(17,.sb s)]);have:=ct 20 [1,3,36] (λ_ s=>jf [(36,.sb s)]);exact wA (fZ [10,20,33]) func381 call381
instance c87 {s}:CC M 87 (Jp s) [.agg (fM M s)] (λr=>.sb r):=by
 have:=lo 4 [1,3] (λ_ s=>jf [(3,sI s)]);have:=ct 14 [1,3,4,43] (λ_ s=>jf [(43,.sb s)]);have:=ct 18 [1,3,65] (λ_ s=>jf [(65,.sb s)]);exact wA (fZ [14,18]) func87 call87
instance c237 {t}:CC M 237 (aau t) [.agg (qf M t)] (λr=>.sb r):=by
 have:=ct 2 [1,28] (λ_ s=>jf [(28,.sb s)]);have:=ct 17 [1,3] (λ_ s=>jf [(3,sI s)]);exact wA (fZ [2,17]) func237 call237
end Go.Proofs.YtchmoabpofnbaaaGreat
