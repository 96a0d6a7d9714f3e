import Derived.Test.YtchmoabpofnbaaaGreatC77
import Derived.Test.YtchmoabpofnbaaaGreatC78
set_option linter.all false
namespace Go.Proofs.YtchmoabpofnbaaaGreat
open Go Go.Pv
set_option maxRecDepth 100000
set_option maxHeartbeats 20000000
variable [GM]
attribute [local irreducible] bnd br jn oL loopF iq jS gu pO rG divO jF iO jA jm jE jY jU
variable {M:fP}[HM M]
instance c302 {c}{w}:CC M 302 (yS c w) [.agg (nH M c),.agg (jy M w)] (λr=>sF M r):=by
 have hM:=HM.h (M:=M);refine⟨λr U=>?_⟩;refine CO (fO [10,12,30,35,37]) Tryz.func302 Tryz.call302 ?_;intro S R hS hR q;unfold yS at U;cbv;refine CB hS ?_;cbv;refine GX hS U (cI hM) ?_;intro y1 U;cbv;refine qZ hS U (cI hM) ?_;intro y2 U;cbv;refine kQ ?_ ?_
 intro U;cbv;refine yE [] [2,3,5,6,8] (λs3=>f4 99 [.lv 0 0,.lv 1 0,.lv 2 0,.lv 3 0,.sb s3] [vR (nH M c),vR (jy M w),vR ([sI w.id,sI w.you]++(jv M y1++(jC M c.e))),vR (pg M w.iZ.fZ)]) U ?_ ?_
 intro Ik4 k4 hk4 U;cbv;refine kQ ?_ ?_
 intro U;cbv;refine qZ hS U (cI hM) ?_;exact sK
 exact pW
 intro s3 U;cbv;refine yE [] [5,66] (λs7=>f4 99 [.lv 0 0,.sb s7] [vR ([sI w.id,sI w.you]++(jv M y1++(jC M c.e)))]) U ?_ ?_
 intro Ik8 k8 hk8 U;cbv;refine kQ ?_ ?_
 exact pW
 intro U;cbv;refine kQ ?_ ?_
 intro U;cbv;refine qZ hS U (cI hM) ?_;exact sK
 exact pW
 intro s7 U;cbv;refine rf ?_ ?_
 intro U;cbv;cases U;exact hR _ gX
 exact d_R
 intro U;cbv;refine qZ hS U (cI hM) ?_;intro y11 U;cbv;refine Gg (fO [10,12,30,35,37]) [.tO 9 89] [3,5,6,9,71,72,73] (λs12=>f4 99 [.lv 0 0,.lv 1 0,.lv 2 0,.os 3 0 (S.fE (iP M s12.2)),.sl 1 (mI M y11) false,sI (S.len (mI M y11)),sI s12.1] [vR (jy M w),vR ([sI w.id,sI w.you]++(jv M y1++(jC M c.e))),vR (pg M w.iZ.fZ),aR 89 (iP M s12.2)]) U ?_;intro Ik13 k13 s12 hk13 U e he;subst he;unfold yu at U;cbv;refine kQ ?_ ?_
 intro U;cbv;refine yE [] [3,5,6,9,71,72,73] (λs15=>f4 99 [.lv 0 0,.lv 1 0,.lv 2 0,.os 3 0 (S.fE (iP M s15)),.sl 1 (mI M y11) false,sI (S.len (mI M y11)),sI s12.1] [vR (jy M w),vR ([sI w.id,sI w.you]++(jv M y1++(jC M c.e))),vR (pg M w.iZ.fZ),aR 89 (iP M s15)]) U ?_ ?_
 intro Ik16 k16 hk16 U;cbv;refine zT ?_;intro x18 U;cbv;refine qZ hS U (cI hM) ?_;intro y19 U;cbv;refine yE [] [3,5,6,9,12,71,72,73] (λs20=>f4 99 [.lv 0 0,.lv 1 0,.lv 2 0,.os 3 0 (S.fE (iP M s12.2)),.lv 4 0,.sl 1 (mI M y11) false,sI (S.len (mI M y11)),sI s12.1] [vR (jy M w),vR ([sI w.id,sI w.you]++(jv M y1++(jC M c.e))),vR (pg M w.iZ.fZ),aR 89 (iP M s12.2),vR ([sI w.id,sI w.you]++(jv M y19++[sI c.e.kind,sI c.e.source,sI s20,sI c.e.lF,sI c.e.amount,sI c.e.adW,sI c.e.to,sI c.e.cause,sI c.e.counter,sI c.e.card,.sb c.e.acG,.sb c.e.kN,sI c.e.extra.a0,sI c.e.extra.a1,sI c.e.extra.a2]))]) U ?_ ?_
 intro Ik21 k21 hk21 U;cbv;refine yE [] [3,5,6,9,11,12,71,72,73,89] (λs23=>f4 99 [.lv 0 0,.lv 1 0,.lv 2 0,.os 3 0 (S.fE (iP M s12.2)),sI x18,.lv 4 0,.sl 1 (mI M y11) false,sI (S.len (mI M y11)),sI s12.1,.sb s23] [vR (jy M w),vR ([sI w.id,sI w.you]++(jv M y1++(jC M c.e))),vR (pg M w.iZ.fZ),aR 89 (iP M s12.2),vR ([sI w.id,sI w.you]++(jv M y19++(jC M c.e)))]) U ?_ ?_
 intro Ik24 k24 hk24 U;cbv;refine kQ ?_ ?_<;>exact pW
 intro s23 U;cbv;refine rf ?_ ?_<;>exact pW
 intro s20 U;cbv;refine nG hS U jJ ?_;exact pW
 intro s15 U;cbv;exact sN
 exact d_R
end Go.Proofs.YtchmoabpofnbaaaGreat
namespace Go.Proofs.YtchmoabpofnbaaaGreat
open Go Go.Pv Proofs.Tryz
set_option maxRecDepth 100000
set_option maxHeartbeats 20000000
variable [GM]
attribute [local irreducible] bnd br jn oL loopF iq jS gu pO rG divO jF iO jA jm jE jY jU
variable {M:fP}[HM M]
instance c317 {pe}{specs}:CC M 317 (ZB pe specs) [.agg (xA M pe),sI specs] (λr=>.sb r):=by
 have:=ct 13 [2,5] (λ_ s=>je [(5,.sb s)]);have:=ct 12 [2,5,6] (λ_ s=>je [(6,.sb s)]);have:=ct 14 [2,5,6,7] (λ_ s=>je [(7,.sb s)]);have:=ct 23 [2,5,6,7,8] (λ_ s=>je [(8,.sb s)]);have:=ct 29 [2,5,6,7,8,9] (λ_ s=>je [(9,.sb s)]);have:=ct 35 [2,5,6,7,8,9,10] (λ_ s=>je [(10,.sb s)]);have:=ct 41 [2,5,6,7,8,9,10,11] (λ_ s=>je [(11,.sb s)]);have:=ct 47 [5,6,7,8,9,10,11,12] (λ_ s=>je [(12,.sb s)]);exact wA (fO [12,13,14,23,29,35,41,47]) func317 call317
instance am3 {c0}{c1}{c2}{c3}{c4}{c5}:CZ M 197 (pR c0 c1 c2 c3 c4 c5) [.lv 0 0,.lv 1 0,.lv 2 0,.lv 3 0,.lv 4 0,.lv 5 0] [(0,(vR [kH M c0])),(1,(vR (fD M c1))),(2,(vR [iE M c2])),(3,(vR (jC M c3))),(4,(vR [.sl 0 [] true])),(5,(vR [.sb c5]))] 6 (λr=>jI M r) (λ_=>[(0,(vR [kH M c0])),(1,(vR (fD M c1))),(2,(vR [iE M c2])),(3,(vR (jC M c3))),(4,(vR [.sl 0 [] true])),(5,(vR [.sb c5]))]) 6:=by
 exact wC (gp 6 [] []) func197 call197 []
instance c269 {w}{i}{j}{stage}:CC M 269 (OG w i j stage) [.agg (jr M w),sI i,sI j,sI stage] (λr=>.sb r):=by
 exact wA fG func269 call269
end Go.Proofs.YtchmoabpofnbaaaGreat
