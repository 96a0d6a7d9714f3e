import Derived.Test.YtchmoabpofnbaaaGreatD78
import Derived.Test.YtchmoabpofnbaaaGreatD79
set_option linter.all false
namespace Go.Proofs.YtchmoabpofnbaaaGreat
open Go Go.Pv
set_option maxRecDepth 100000
set_option maxHeartbeats 20000000
variable [GM]
attribute [local irreducible] bnd br jn pI eH iI kD gW qx sG divO jU jc jM jD jR kK kE
variable {M:gm}[HM M]
instance c302 {c}{w}:CC M 302 (zZ c w) [.agg (nY M c),.agg (jK M w)] (λr=>tC M r):=by
 have hM:=HM.h (M:=M);refine⟨λr U=>?_⟩;refine EN (fZ [10,12,30,35,37]) Tryz.func302 Tryz.call302 ?_;intro S R O hR q;unfold zZ at U;cbv;refine Fa O ?_;cbv;refine Kq O U (cI hM) ?_;intro y1 U;cbv;refine wo O U (cI hM) ?_;intro y2 U;cbv;refine mP ?_ ?_
 intro U;cbv;refine DJ [] [2,3,5,6,8] (λs3=>f4 99 [.lv 0 0,.lv 1 0,.lv 2 0,.lv 3 0,.sb s3] [vR (nY M c),vR (jK M w),vR ([sI w.id,sI w.you]++(jH M y1++(jT M c.e))),vR (qf M w.ja.gI)]) U ?_ ?_
 intro Ik4 k4 hk4 U;cbv;refine mP ?_ ?_
 intro U;cbv;refine wo O U (cI hM) ?_;exact yX
 exact tY
 intro s3 U;cbv;refine DJ [] [5,66] (λs7=>f4 99 [.lv 0 0,.sb s7] [vR ([sI w.id,sI w.you]++(jH M y1++(jT M c.e)))]) U ?_ ?_
 intro Ik8 k8 hk8 U;cbv;refine mP ?_ ?_
 exact tY
 intro U;cbv;refine mP ?_ ?_
 intro U;cbv;refine wo O U (cI hM) ?_;exact yX
 exact tY
 intro s7 U;cbv;refine xH ?_ ?_
 intro U;cbv;cases U;exact hR _ iU
 exact d_R
 intro U;cbv;refine wo O U (cI hM) ?_;intro y11 U;cbv;refine Ji (fZ [10,12,30,35,37]) [.tO 9 89] [3,5,6,9,71,72,73] (λs12=>f4 99 [.lv 0 0,.lv 1 0,.lv 2 0,.os 3 0 (S.fE (iQ M s12.2)),.sl 1 (mI M y11) false,sI (S.len (mI M y11)),sI s12.1] [vR (jK M w),vR ([sI w.id,sI w.you]++(jH M y1++(jT M c.e))),vR (qf M w.ja.gI),aR 89 (iQ M s12.2)]) U ?_;intro Ik13 k13 s12 hk13 U e he;subst he;unfold zg at U;cbv;refine mP ?_ ?_
 intro U;cbv;refine DJ [] [3,5,6,9,71,72,73] (λs15=>f4 99 [.lv 0 0,.lv 1 0,.lv 2 0,.os 3 0 (S.fE (iQ M s15)),.sl 1 (mI M y11) false,sI (S.len (mI M y11)),sI s12.1] [vR (jK M w),vR ([sI w.id,sI w.you]++(jH M y1++(jT M c.e))),vR (qf M w.ja.gI),aR 89 (iQ M s15)]) U ?_ ?_
 intro Ik16 k16 hk16 U;cbv;refine Kr ?_;intro x18 U;cbv;refine wo O U (cI hM) ?_;intro y19 U;cbv;refine DJ [] [3,5,6,9,12,71,72,73] (λs20=>f4 99 [.lv 0 0,.lv 1 0,.lv 2 0,.os 3 0 (S.fE (iQ M s12.2)),.lv 4 0,.sl 1 (mI M y11) false,sI (S.len (mI M y11)),sI s12.1] [vR (jK M w),vR ([sI w.id,sI w.you]++(jH M y1++(jT M c.e))),vR (qf M w.ja.gI),aR 89 (iQ M s12.2),vR ([sI w.id,sI w.you]++(jH M y19++[sI c.e.kind,sI c.e.source,sI s20,sI c.e.lI,sI c.e.amount,sI c.e.Vb,sI c.e.to,sI c.e.cause,sI c.e.counter,sI c.e.card,.sb c.e.QF,.sb c.e.lu,sI c.e.extra.a0,sI c.e.extra.a1,sI c.e.extra.a2]))]) U ?_ ?_
 intro Ik21 k21 hk21 U;cbv;refine DJ [] [3,5,6,9,11,12,71,72,73,89] (λs23=>f4 99 [.lv 0 0,.lv 1 0,.lv 2 0,.os 3 0 (S.fE (iQ M s12.2)),sI x18,.lv 4 0,.sl 1 (mI M y11) false,sI (S.len (mI M y11)),sI s12.1,.sb s23] [vR (jK M w),vR ([sI w.id,sI w.you]++(jH M y1++(jT M c.e))),vR (qf M w.ja.gI),aR 89 (iQ M s12.2),vR ([sI w.id,sI w.you]++(jH M y19++(jT M c.e)))]) U ?_ ?_
 intro Ik24 k24 hk24 U;cbv;refine mP ?_ ?_<;>exact tY
 intro s23 U;cbv;refine xH ?_ ?_<;>exact tY
 intro s20 U;cbv;refine nM O U jW ?_;exact tY
 intro s15 U;cbv;exact uj
 exact d_R
end Go.Proofs.YtchmoabpofnbaaaGreat
namespace Go.Proofs.YtchmoabpofnbaaaGreat
open Go Go.Pv Proofs.Tryz
set_option maxRecDepth 100000
set_option maxHeartbeats 20000000
variable [GM]
attribute [local irreducible] bnd br jn pI eH iI kD gW qx sG divO jU jc jM jD jR kK kE
variable {M:gm}[HM M]
instance c317 {pe}{specs}:CC M 317 (aay pe specs) [.agg (xZ M pe),sI specs] (λr=>.sb r):=by
 have:=ct 13 [2,5] (λ_ s=>jf [(5,.sb s)]);have:=ct 12 [2,5,6] (λ_ s=>jf [(6,.sb s)]);have:=ct 14 [2,5,6,7] (λ_ s=>jf [(7,.sb s)]);have:=ct 23 [2,5,6,7,8] (λ_ s=>jf [(8,.sb s)]);have:=ct 29 [2,5,6,7,8,9] (λ_ s=>jf [(9,.sb s)]);have:=ct 35 [2,5,6,7,8,9,10] (λ_ s=>jf [(10,.sb s)]);have:=ct 41 [2,5,6,7,8,9,10,11] (λ_ s=>jf [(11,.sb s)]);have:=ct 47 [5,6,7,8,9,10,11,12] (λ_ s=>jf [(12,.sb s)]);exact wA (fZ [12,13,14,23,29,35,41,47]) func317 call317
instance aon {c0}{c1}{c2}{c3}{c4}{c5}:CZ M 197 (qy c0 c1 c2 c3 c4 c5) [.lv 0 0,.lv 1 0,.lv 2 0,.lv 3 0,.lv 4 0,.lv 5 0] [(0,(vR [lQ M c0])),(1,(vR (fM M c1))),(2,(vR [kH M c2])),(3,(vR (jT M c3))),(4,(vR [.sl 0 [] true])),(5,(vR [.sb c5]))] 6 (λr=>pX M r) (λ_=>[(0,(vR [lQ M c0])),(1,(vR (fM M c1))),(2,(vR [kH M c2])),(3,(vR (jT M c3))),(4,(vR [.sl 0 [] true])),(5,(vR [.sb c5]))]) 6:=by
 exact wC (gJ 6 [] []) func197 call197 []
instance c269 {w}{i}{j}{stage}:CC M 269 (DY w i j stage) [.agg (jG M w),sI i,sI j,sI stage] (λr=>.sb r):=by
 exact wA fG func269 call269
end Go.Proofs.YtchmoabpofnbaaaGreat
