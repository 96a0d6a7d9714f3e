import Derived.Test.YtchmoabpofnbaaaGreatW8a
import Derived.Test.YtchmoabpofnbaaaGreatW8c
import Derived.Test.YtchmoabpofnbaaaGreatW8e
import Derived.Test.YtchmoabpofnbaaaGreatW8d
set_option linter.all false
namespace Go.Proofs.YtchmoabpofnbaaaGreat
open Go Go.Pv Proofs.Tryz
set_option maxRecDepth 100000
set_option maxHeartbeats 20000000
variable [GM]
attribute [local irreducible] bnd br jn qR ig jK lK jS rQ uY divO lu jR kY lD lU mg l9
variable {M:iO}[HM M]
instance c302 {c}{w}:CC M 302 (yE c w) [.agg (oK M c),.agg (jZ M w)] (λr=>yF M r):=by
 have hM:=HM.h (M:=M);refine⟨λr O=>?_⟩;refine Ij (ja [10,12,30,35,37]) func302 call302 ?_;intro S R hS hR q;unfold yE at O;cbv;refine Ii hS ?_;cbv;refine d_c hS O (cI hM) ?_;intro y1 O;cbv;refine FX hS O (cI hM) ?_;intro y2 O;cbv;refine pW ?_ ?_
 intro O;cbv;refine Bd [] [2,3,5,6,8] (λs3=>f4 99 [.lv 0 0,.lv 1 0,.lv 2 0,.lv 3 0,.sb s3] [vR (oK M c),vR (jZ M w),vR ([sI w.id,sI w.you]++(jQ M y1++(jm M c.e))),vR (pX M w.jM.iM)]) O ?_ ?_
 intro Ik4 k4 hk4 O;cbv;refine pW ?_ ?_
 intro O;cbv;refine FX hS O (cI hM) ?_;exact zK
 exact sV
 intro s3 O;cbv;refine Bd [] [5,66] (λs7=>f4 99 [.lv 0 0,.sb s7] [vR ([sI w.id,sI w.you]++(jQ M y1++(jm M c.e)))]) O ?_ ?_
 intro Ik8 k8 hk8 O;cbv;refine pW ?_ ?_
 exact sV
 intro O;cbv;refine pW ?_ ?_
 intro O;cbv;refine FX hS O (cI hM) ?_;exact zK
 exact sV
 intro s7 O;cbv;refine vH ?_ ?_
 intro O;cbv;cases O;exact hR _ jC
 exact d_R
 intro O;cbv;refine FX hS O (cI hM) ?_;intro y11 O;cbv;refine d_L (ja [10,12,30,35,37]) [.tO 9 89] [3,5,6,9,71,72,73] (λs12=>f4 99 [.lv 0 0,.lv 1 0,.lv 2 0,.os 3 0 (S.iD (jW M s12.2)),.sl 1 (mI M y11) false,sI (S.len (mI M y11)),sI s12.1] [vR (jZ M w),vR ([sI w.id,sI w.you]++(jQ M y1++(jm M c.e))),vR (pX M w.jM.iM),aR 89 (jW M s12.2)]) O ?_;intro Ik13 k13 s12 hk13 O e he;subst he;unfold xU at O;cbv;refine pW ?_ ?_
 intro O;cbv;refine Bd [] [3,5,6,9,71,72,73] (λs15=>f4 99 [.lv 0 0,.lv 1 0,.lv 2 0,.os 3 0 (S.iD (jW M s15)),.sl 1 (mI M y11) false,sI (S.len (mI M y11)),sI s12.1] [vR (jZ M w),vR ([sI w.id,sI w.you]++(jQ M y1++(jm M c.e))),vR (pX M w.jM.iM),aR 89 (jW M s15)]) O ?_ ?_
 intro Ik16 k16 hk16 O;cbv;refine d_I ?_;intro x18 O;cbv;refine FX hS O (cI hM) ?_;intro y19 O;cbv;refine Bd [] [3,5,6,9,12,71,72,73] (λs20=>f4 99 [.lv 0 0,.lv 1 0,.lv 2 0,.os 3 0 (S.iD (jW M s12.2)),.lv 4 0,.sl 1 (mI M y11) false,sI (S.len (mI M y11)),sI s12.1] [vR (jZ M w),vR ([sI w.id,sI w.you]++(jQ M y1++(jm M c.e))),vR (pX M w.jM.iM),aR 89 (jW M s12.2),vR ([sI w.id,sI w.you]++(jQ M y19++[sI c.e.kind,sI c.e.source,sI s20,sI c.e.kE,sI c.e.amount,sI c.e.Jt,sI c.e.to,sI c.e.cause,sI c.e.counter,sI c.e.card,.sb c.e.JY,.sb c.e.qg,sI c.e.extra.a0,sI c.e.extra.a1,sI c.e.extra.a2]))]) O ?_ ?_
 intro Ik21 k21 hk21 O;cbv;refine Bd [] [3,5,6,9,11,12,71,72,73,89] (λs23=>f4 99 [.lv 0 0,.lv 1 0,.lv 2 0,.os 3 0 (S.iD (jW M s12.2)),sI x18,.lv 4 0,.sl 1 (mI M y11) false,sI (S.len (mI M y11)),sI s12.1,.sb s23] [vR (jZ M w),vR ([sI w.id,sI w.you]++(jQ M y1++(jm M c.e))),vR (pX M w.jM.iM),aR 89 (jW M s12.2),vR ([sI w.id,sI w.you]++(jQ M y19++(jm M c.e)))]) O ?_ ?_
 intro Ik24 k24 hk24 O;cbv;refine pW ?_ ?_<;>exact sV
 intro s23 O;cbv;refine vH ?_ ?_<;>exact sV
 intro s20 O;cbv;refine rU hS O mi ?_;exact sV
 intro s15 O;cbv;exact uB
 exact d_R
instance c198 {cards}{s}{all}{pe}{used}:CC M 198 (Eg cards s all pe used) [mD M cards,.agg (iQ M s),ny M all,.agg (jm M pe),xW M used] (λr=>xW M r):=by
 have hM:=HM.h (M:=M);refine⟨λr O=>?_⟩;refine Ij iE func198 call198 ?_;intro S R hS hR q;unfold Eg at O;cbv;refine mJ hS O (cZ hM) (le_eq rfl) ?_;intro y1 O;cbv;refine adA hS [(3,false),(0,true)] rfl ?_;cbv;refine jT hS O (cZ hM) ak ak rfl rfl rfl rfl ?_;exact ab2
instance c203 {cards}{s}{all}{pe}{o}:CC M 203 (MB cards s all pe o) [mD M cards,.agg (iQ M s),ny M all,.agg (jm M pe),.agg (vV M o)] (λr=>.EJ [.agg (iQ M r.1),.agg (jm M r.2.1),.sb r.2.2]):=by
 have:=ct 57 [8,10,11,13,14] (λ_ (s:Int×Bool)=>up [(14,.sb false)] [(0,(vR [sI pe.kind,sI pe.source,sI pe.object,sI pe.kE,sI pe.amount,sI pe.Jt,sI s.1,sI pe.cause,sI pe.counter,sI pe.card,.sb pe.JY,.sb s.2,sI pe.extra.a0,sI pe.extra.a1,sI pe.extra.a2]))]);have:=ct 40 [8,10,11,13,14,15,86] (λ_ s=>kG [(86,.sb s)]);have:=ct 56 [8,10,11,13,130] (λ_ s=>kG [(130,.sb s)]);exact wA (ja [40,56,57,1003,1030]) func203 call203
instance c317 {pe}{specs}:CC M 317 (Xk pe specs) [.agg (xk M pe),sI specs] (λr=>.sb r):=by
 have:=ct 13 [2,5] (λ_ s=>kG [(5,.sb s)]);have:=ct 12 [2,5,6] (λ_ s=>kG [(6,.sb s)]);have:=ct 14 [2,5,6,7] (λ_ s=>kG [(7,.sb s)]);have:=ct 23 [2,5,6,7,8] (λ_ s=>kG [(8,.sb s)]);have:=ct 29 [2,5,6,7,8,9] (λ_ s=>kG [(9,.sb s)]);have:=ct 35 [2,5,6,7,8,9,10] (λ_ s=>kG [(10,.sb s)]);have:=ct 41 [2,5,6,7,8,9,10,11] (λ_ s=>kG [(11,.sb s)]);have:=ct 47 [5,6,7,8,9,10,11,12] (λ_ s=>kG [(12,.sb s)]);exact wA (ja [12,13,14,23,29,35,41,47]) func317 call317
end Go.Proofs.YtchmoabpofnbaaaGreat
