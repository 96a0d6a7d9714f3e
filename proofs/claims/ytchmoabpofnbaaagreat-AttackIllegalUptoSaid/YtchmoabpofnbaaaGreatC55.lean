import Derived.Test.YtchmoabpofnbaaaGreatC48
import Derived.Test.YtchmoabpofnbaaaGreatC49
import Derived.Test.YtchmoabpofnbaaaGreatC51
set_option linter.all false
namespace Go.Proofs.YtchmoabpofnbaaaGreat
open Go Go.Pv
set_option maxRecDepth 100000
set_option maxHeartbeats 20000000
variable [GM]
attribute [local irreducible] bnd br jn qE gK jv lJ jl rD uo divO kT jL kN kP lI lS lM
variable {M:iG}[HM M]
instance c323 {f}:CC M 323 (LM f) [.agg (jU M f)] (λr=>.str r):=by
 have hM:=HM.h (M:=M);refine⟨λr O=>?_⟩;refine ES (iO [24,27,34,37,44,47,54,57,67,68,71]) Tryz.func323 Tryz.call323 ?_;intro S R hS hR q;unfold LM at O;cbv;refine zn hS O (cI hM) ?_;intro y1 O;cbv;refine nZ ?_ ?_
 exact d_R
 intro O;cbv;refine zn hS O (cI hM) ?_;intro y2 O;cbv;refine zn hS O (cI hM) ?_;intro y3 O;cbv;refine zn hS O (cI hM) ?_;intro y4 O;cbv;refine zn hS O (cI hM) ?_;intro y5 O;cbv;refine d_I ?_;intro x6 O;cbv;refine ahK hS [(1,false),(0,false)] rfl ?_;cbv;refine jT hS O (cZ hM) aj aj rfl rfl rfl rfl ?_;intro y7 O;cbv;refine d_I ?_;intro x8 O;cbv;refine jT hS O (cZ hM) aj aj rfl rfl rfl rfl ?_;intro y9 O;cbv;refine d_I ?_;intro x10 O;cbv;refine jT hS O (cZ hM) aj aj rfl rfl rfl rfl ?_;intro y11 O;cbv;refine d_L (iO [24,27,34,37,44,47,54,57,67,68,71]) [] [1,6,7,8] (λs12=>f4 145 [.lv 0 0,.sl 1 (M.m ByteArray eS y5) false,.os 1 0 (S.gZ (M.m ByteArray eS s12.2)),sI s12.1] [vR (jU M f),aR 1 (M.m ByteArray eS s12.2)]) O ?_;intro Ik13 k13 s12 hk13 O e he;subst he;unfold HY at O;cbv;refine oU hS ?_;cbv;refine nZ ?_ ?_
 intro O;cbv;refine DR [] [1,6,7,8] (λs15=>f4 145 [.lv 0 0,.sl 1 (M.m ByteArray eS y5) false,.os 1 0 (S.gZ (M.m ByteArray eS s15)),sI s12.1] [vR (jU M f),aR 1 (M.m ByteArray eS s15)]) O ?_ ?_
 intro Ik16 k16 hk16 O;cbv;refine zn hS O (cI hM) ?_;intro y18 O;cbv;refine vP ?_ ?_
 intro O;cbv;refine zn hS O (cI hM) ?_;intro y19 O;cbv;refine tH hS O lC ?_;exact vF
 exact vF
 intro s15 O;cbv;exact vw
 intro O;cbv;refine d_L (iO [24,27,34,37,44,47,54,57,67,68,71]) [] [1,6,7,9] (λs20=>f4 145 [.lv 0 0,.sl 1 (M.m ByteArray eS y5) false,.os 1 0 (S.gZ (M.m ByteArray eS s20.2)),sI s20.1] [vR (jU M f),aR 1 (M.m ByteArray eS s20.2)]) O ?_;intro Ik21 k21 s20 hk21 O e he;subst he;unfold Hz at O;cbv;refine oU hS ?_;cbv;refine nZ ?_ ?_
 intro O;cbv;refine DR [] [1,6,7,9] (λs23=>f4 145 [.lv 0 0,.sl 1 (M.m ByteArray eS y5) false,.os 1 0 (S.gZ (M.m ByteArray eS s23)),sI s20.1] [vR (jU M f),aR 1 (M.m ByteArray eS s23)]) O ?_ ?_
 intro Ik24 k24 hk24 O;cbv;refine zn hS O (cI hM) ?_;intro y26 O;cbv;refine vP ?_ ?_
 intro O;cbv;refine zn hS O (cI hM) ?_;intro y27 O;cbv;refine Xa hS O rfl rfl ?_;intro x28 O;cbv;refine tH hS O lC ?_;exact vF
 exact vF
 intro s23 O;cbv;exact vw
 intro O;cbv;refine d_L (iO [24,27,34,37,44,47,54,57,67,68,71]) [] [1,6,7,10] (λs29=>f4 145 [.lv 0 0,.sl 1 (M.m ByteArray eS y5) false,.os 1 0 (S.gZ (M.m ByteArray eS s29.2)),sI s29.1] [vR (jU M f),aR 1 (M.m ByteArray eS s29.2)]) O ?_;intro Ik30 k30 s29 hk30 O e he;subst he;unfold Hy at O;cbv;refine oU hS ?_;cbv;refine nZ ?_ ?_
 intro O;cbv;refine DR [] [1,6,7,10] (λs32=>f4 145 [.lv 0 0,.sl 1 (M.m ByteArray eS y5) false,.os 1 0 (S.gZ (M.m ByteArray eS s32)),sI s29.1] [vR (jU M f),aR 1 (M.m ByteArray eS s32)]) O ?_ ?_
 intro Ik33 k33 hk33 O;cbv;refine zn hS O (cI hM) ?_;intro y35 O;cbv;refine vP ?_ ?_
 intro O;cbv;refine zn hS O (cI hM) ?_;intro y36 O;cbv;refine tH hS O lC ?_;exact vF
 exact vF
 intro s32 O;cbv;exact vw
 intro O;cbv;refine d_L (iO [24,27,34,37,44,47,54,57,67,68,71]) [] [1,6,7,11] (λs37=>f4 145 [.lv 0 0,.sl 1 (M.m ByteArray eS y5) false,.os 1 0 (S.gZ (M.m ByteArray eS s37.2)),sI s37.1] [vR (jU M f),aR 1 (M.m ByteArray eS s37.2)]) O ?_;intro Ik38 k38 s37 hk38 O e he;subst he;unfold Hw at O;cbv;refine oU hS ?_;cbv;refine nZ ?_ ?_
 intro O;cbv;refine DR [] [1,6,7,11] (λs40=>f4 145 [.lv 0 0,.sl 1 (M.m ByteArray eS y5) false,.os 1 0 (S.gZ (M.m ByteArray eS s40)),sI s37.1] [vR (jU M f),aR 1 (M.m ByteArray eS s40)]) O ?_ ?_
 intro Ik41 k41 hk41 O;cbv;refine zn hS O (cI hM) ?_;intro y43 O;cbv;refine vP ?_ ?_
 intro O;cbv;refine zn hS O (cI hM) ?_;intro y44 O;cbv;refine Xa hS O rfl rfl ?_;intro x45 O;cbv;refine tH hS O lC ?_;exact vF
 exact vF
 intro s40 O;cbv;exact vw
 intro O;cbv;refine DR [] [1,6,7] (λs46=>f4 145 [.lv 0 0,.sl 1 (M.m ByteArray eS y5) false,.os 1 0 (S.gZ (M.m ByteArray eS s46))] [vR (jU M f),aR 1 (M.m ByteArray eS s46)]) O ?_ ?_
 intro Ik47 k47 hk47 O;cbv;refine nZ ?_ ?_
 intro O;cbv;refine Xa hS O rfl rfl ?_;intro x49 O;cbv;refine tH hS O lC ?_;exact vF
 exact vF
 intro s46 O;cbv;refine d_L (iO [24,27,34,37,44,47,54,57,67,68,71]) [] [1,6,7,12] (λs50=>f4 145 [.lv 0 0,.sl 1 (M.m ByteArray eS y5) false,.os 1 0 (S.gZ (M.m ByteArray eS s50.2)),sI s50.1] [vR (jU M f),aR 1 (M.m ByteArray eS s50.2)]) O ?_;intro Ik51 k51 s50 hk51 O e he;subst he;unfold Ht at O;cbv;refine oU hS ?_;cbv;refine nZ ?_ ?_
 intro O;cbv;refine DR [] [1,6,7,12] (λs53=>f4 145 [.lv 0 0,.sl 1 (M.m ByteArray eS y5) false,.os 1 0 (S.gZ (M.m ByteArray eS s53)),sI s50.1] [vR (jU M f),aR 1 (M.m ByteArray eS s53)]) O ?_ ?_
 intro Ik54 k54 hk54 O;cbv;refine zn hS O (cI hM) ?_;intro y56 O;cbv;refine vP ?_ ?_
 intro O;cbv;refine zn hS O (cI hM) ?_;intro y57 O;cbv;refine Xa hS O rfl rfl ?_;intro x58 O;cbv;refine tH hS O lC ?_;exact vF
 exact vF
 intro s53 O;cbv;exact vw
 intro O;cbv;refine d_I ?_;intro x59 O;cbv;refine jT hS O (cZ hM) aj aj rfl rfl rfl rfl ?_;intro y60 O;cbv;refine zn hS O (cI hM) ?_;intro y61 O;cbv;refine jT hS O (cZ hM) aj aj rfl rfl rfl rfl ?_;intro y62 O;cbv;refine zn hS O (cI hM) ?_;intro y63 O;cbv;refine jT hS O (cZ hM) aj aj rfl rfl rfl rfl ?_;intro y64 O;cbv;refine zn hS O (cI hM) ?_;intro y65 O;cbv;refine jT hS O (cZ hM) aj aj rfl rfl rfl rfl ?_;intro y66 O;cbv;refine nZ ?_ ?_
 exact d_R
 intro O;cbv;refine JK hS O (cI hM) Lr (λ_=>rfl) ?_;exact Z4
theorem ail {M:iG}(hM:M=kX){data:List gq}{n:Int}{r:List gq}(O:kJ data n oJ=some r):Pv.FnS Tryz.prog glF 369 [.os 0 0 (M.n gq data),sI n,.fn 300 []] [(0,(aR 76 (gQ M data)))] 1 (λuu ss nn=>uu=.DJ []/\ss=[(0,(aR 76 (gQ M r)))]/\nn=1):=by
 haveI:HM M:=⟨hM⟩
 refine AQ (T:=(GY 1 [33] [])) (iV 1 [33] []) wf Tryz.func369 rfl Tryz.call369 rfl ?_;intro S R hS hR;have q:=sf hM hS;unfold kJ at O;cbv;refine d_L (iV 1 [33] []) [] [0,1,2,6,7,8] (λg=>f4 63 [.os 0 0 (S.gZ (gQ M g.2.2)),sI n,.fn 300 [],sI 20,sI g.1,sI g.2.1] [aR 76 (gQ M g.2.2)]) O ?_;intro Ik2 k2 g hk2 O e U;subst U;unfold nS at O;cbv;refine nZ ?_ ?_
 intro O;cbv;refine wG hS O (cZ hM) aj aj rfl rfl rfl rfl ?_;intro y4 U O;have q:=And.intro q (pY YF U).symm;cbv;exact vw
 intro O;cbv;refine wG hS O (cZ hM) aj aj rfl rfl rfl rfl ?_;intro y5 U O;have q:=And.intro q (pY YF U).symm;cbv;refine d_L (iV 1 [33] []) [] [0,1,2,6] (λI=>f4 63 [.os 0 0 (S.gZ (gQ M I.2)),sI n,.fn 300 [],sI I.1] [aR 76 (gQ M I.2)]) O ?_;intro Ik7 k7 I hk7 O e U;subst U;unfold nR at O;cbv;refine nZ ?_ ?_
 intro O;cbv;refine d_L (iV 1 [33] []) [] [0,1,2,6,7,8] (λC=>f4 63 [.os 0 0 (S.gZ (gQ M C.2.2)),sI n,.fn 300 [],sI I.1,sI C.1,sI C.2.1] [aR 76 (gQ M C.2.2)]) O ?_;intro Ik10 k10 C hk10 O e U;subst U;unfold nP at O;cbv;refine nZ ?_ ?_
 intro O;cbv;refine wG hS O (λ_=>afz hM) aj aj rfl rfl rfl rfl ?_;intro y12 U O;have q:=And.intro q (pY Uh U).symm;cbv;exact vw
 intro O;cbv;refine DR [] [0,1,2,6] (λJ=>f4 63 [.os 0 0 (S.gZ (gQ M J)),sI n,.fn 300 [],sI I.1] [aR 76 (gQ M J)]) O ?_ ?_
 intro Ik14 k14 hk14 O;cbv;refine nZ ?_ ?_
 intro O;cbv;refine wG hS O (λ_=>afz hM) aj aj rfl rfl rfl rfl ?_;intro y16 U O;have q:=And.intro q (pY Uh U).symm;cbv;exact vw
 exact vF
 intro J O;cbv;exact vw
 intro O;cbv;cases O;exact hR _ _ _ aj aj rfl
end Go.Proofs.YtchmoabpofnbaaaGreat
namespace Go.Proofs.YtchmoabpofnbaaaGreat
open Go Go.Pv Proofs.Tryz
set_option maxRecDepth 100000
set_option maxHeartbeats 20000000
variable [GM]
attribute [local irreducible] bnd br jn qE gK jv lJ jl rD uo divO kT jL kN kP lI lS lM
variable {M:iG}[HM M]
instance c243 {cards}{s}:CC M 243 (Ff cards s) [oh M cards,.agg (iI M s)] (λr=>iy M r):=by
 have:=lo 3 [0,3,5,13,14,15] (λ_ (s:Int×(List iC))=>up [(5,.os 1 0 (M.n iC s.2)),(15,sI s.1)] [(1,(aR 23 (rW M s.2)))]) [.tO 5 23];have:=ct 25 [0,3,5,13,14,15] (λ_ s=>up [(5,.os 1 0 (M.n iC s))] [(1,(aR 23 (rW M s)))]) [.tO 5 23];have:=lo 7 [0,3,5,7,13,14,15,25,26,27] (λ_ (s:Int×(List iC))=>up [(5,.os 1 0 (M.n iC s.2)),(27,sI s.1)] [(1,(aR 23 (rW M s.2)))]) [.tO 5 23];have:=ct 23 [0,3,5,7,13,14,15,25,26,27] (λ_ s=>up [(5,.os 1 0 (M.n iC s))] [(1,(aR 23 (rW M s)))]) [.tO 5 23];have:=lo 14 [5,54,55,56] (λ_ (s:Int×(List iC))=>up [(5,.os 0 0 (M.n iC s.2)),(56,sI s.1)] [(0,(aR 23 (rW M s.2)))]);exact wA (iO [23,25]) func243 call243
instance c412 {o}{t}{you}{source}{f}:CC M 412 (oL o t you source f) [.agg (jQ M o),.agg (kU M t),sI you,sI source,.agg (jU M f)] (λr=>.sb r):=by
 have:=ct 2 [2,3,5,6,9,23] (λ_ s=>jO [(23,.sb s)]);have:=ct 43 [6,9,13] (λ_ (_:Unit)=>jO []);have:=ct 12 [2,3,5,6,9,12,13,30] (λ_ s=>jO [(30,.sb s)]);have:=ct 18 [3,5,6,9,12,13,49] (λ_ s=>jO [(49,.sb s)]);have:=ct 30 [5,6,9,13,88] (λ_ s=>jO [(88,.sb s)]);have:=ct 36 [5,6,9,13,106] (λ_ s=>jO [(106,.sb s)]);exact wA (iO [2,12,18,30,36,43]) func412 call412
end Go.Proofs.YtchmoabpofnbaaaGreat
