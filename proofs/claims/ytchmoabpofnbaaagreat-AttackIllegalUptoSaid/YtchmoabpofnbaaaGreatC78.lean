import Derived.Test.YtchmoabpofnbaaaGreatC74
import Derived.Test.YtchmoabpofnbaaaGreatC75
set_option linter.all false
namespace Go.Proofs.YtchmoabpofnbaaaGreat
open Go Go.Pv
set_option maxRecDepth 100000
set_option maxHeartbeats 20000000
variable [GM]
attribute [local irreducible] bnd br jn qE gK jv lJ jl rD uo divO kT jL kN kP lI lS lM
variable {M:iG}[HM M]
instance c302 {c}{w}:CC M 302 (zf c w) [.agg (oI M c),.agg (jX M w)] (λr=>sU M r):=by
 have hM:=HM.h (M:=M);refine⟨λr O=>?_⟩;refine ES (iO [10,12,30,35,37]) Tryz.func302 Tryz.call302 ?_;intro S R hS hR q;unfold zf at O;cbv;refine EF hS ?_;cbv;refine Je hS O (cI hM) ?_;intro y1 O;cbv;refine zn hS O (cI hM) ?_;intro y2 O;cbv;refine nZ ?_ ?_
 intro O;cbv;refine DR [] [2,3,5,6,8] (λs3=>f4 99 [.lv 0 0,.lv 1 0,.lv 2 0,.lv 3 0,.sb s3] [vR (oI M c),vR (jX M w),vR ([sI w.id,sI w.you]++(kC M y1++(jZ M c.e))),vR (qA M w.jr.iK)]) O ?_ ?_
 intro Ik4 k4 hk4 O;cbv;refine nZ ?_ ?_
 intro O;cbv;refine zn hS O (cI hM) ?_;exact xZ
 exact vF
 intro s3 O;cbv;refine DR [] [5,66] (λs7=>f4 99 [.lv 0 0,.sb s7] [vR ([sI w.id,sI w.you]++(kC M y1++(jZ M c.e)))]) O ?_ ?_
 intro Ik8 k8 hk8 O;cbv;refine nZ ?_ ?_
 exact vF
 intro O;cbv;refine nZ ?_ ?_
 intro O;cbv;refine zn hS O (cI hM) ?_;exact xZ
 exact vF
 intro s7 O;cbv;refine vP ?_ ?_
 intro O;cbv;cases O;exact hR _ ji
 exact d_R
 intro O;cbv;refine zn hS O (cI hM) ?_;intro y11 O;cbv;refine d_L (iO [10,12,30,35,37]) [.tO 9 89] [3,5,6,9,71,72,73] (λs12=>f4 99 [.lv 0 0,.lv 1 0,.lv 2 0,.os 3 0 (S.gZ (jB M s12.2)),.sl 1 (mI M y11) false,sI (S.len (mI M y11)),sI s12.1] [vR (jX M w),vR ([sI w.id,sI w.you]++(kC M y1++(jZ M c.e))),vR (qA M w.jr.iK),aR 89 (jB M s12.2)]) O ?_;intro Ik13 k13 s12 hk13 O e he;subst he;unfold yw at O;cbv;refine nZ ?_ ?_
 intro O;cbv;refine DR [] [3,5,6,9,71,72,73] (λs15=>f4 99 [.lv 0 0,.lv 1 0,.lv 2 0,.os 3 0 (S.gZ (jB M s15)),.sl 1 (mI M y11) false,sI (S.len (mI M y11)),sI s12.1] [vR (jX M w),vR ([sI w.id,sI w.you]++(kC M y1++(jZ M c.e))),vR (qA M w.jr.iK),aR 89 (jB M s15)]) O ?_ ?_
 intro Ik16 k16 hk16 O;cbv;refine d_I ?_;intro x18 O;cbv;refine zn hS O (cI hM) ?_;intro y19 O;cbv;refine DR [] [3,5,6,9,12,71,72,73] (λs20=>f4 99 [.lv 0 0,.lv 1 0,.lv 2 0,.os 3 0 (S.gZ (jB M s12.2)),.lv 4 0,.sl 1 (mI M y11) false,sI (S.len (mI M y11)),sI s12.1] [vR (jX M w),vR ([sI w.id,sI w.you]++(kC M y1++(jZ M c.e))),vR (qA M w.jr.iK),aR 89 (jB M s12.2),vR ([sI w.id,sI w.you]++(kC M y19++[sI c.e.kind,sI c.e.source,sI s20,sI c.e.mV,sI c.e.amount,sI c.e.S9,sI c.e.to,sI c.e.cause,sI c.e.counter,sI c.e.card,.sb c.e.OL,.sb c.e.pK,sI c.e.extra.a0,sI c.e.extra.a1,sI c.e.extra.a2]))]) O ?_ ?_
 intro Ik21 k21 hk21 O;cbv;refine DR [] [3,5,6,9,11,12,71,72,73,89] (λs23=>f4 99 [.lv 0 0,.lv 1 0,.lv 2 0,.os 3 0 (S.gZ (jB M s12.2)),sI x18,.lv 4 0,.sl 1 (mI M y11) false,sI (S.len (mI M y11)),sI s12.1,.sb s23] [vR (jX M w),vR ([sI w.id,sI w.you]++(kC M y1++(jZ M c.e))),vR (qA M w.jr.iK),aR 89 (jB M s12.2),vR ([sI w.id,sI w.you]++(kC M y19++(jZ M c.e)))]) O ?_ ?_
 intro Ik24 k24 hk24 O;cbv;refine nZ ?_ ?_<;>exact vF
 intro s23 O;cbv;refine vP ?_ ?_<;>exact vF
 intro s20 O;cbv;refine tH hS O lC ?_;exact vF
 intro s15 O;cbv;exact vw
 exact d_R
end Go.Proofs.YtchmoabpofnbaaaGreat
namespace Go.Proofs.YtchmoabpofnbaaaGreat
open Go Go.Pv Proofs.Tryz
set_option maxRecDepth 100000
set_option maxHeartbeats 20000000
variable [GM]
attribute [local irreducible] bnd br jn qE gK jv lJ jl rD uo divO kT jL kN kP lI lS lM
variable {M:iG}[HM M]
instance c317 {pe}{specs}:CC M 317 (Yz pe specs) [.agg (xx M pe),sI specs] (λr=>.sb r):=by
 have:=ct 13 [2,5] (λ_ s=>jO [(5,.sb s)]);have:=ct 12 [2,5,6] (λ_ s=>jO [(6,.sb s)]);have:=ct 14 [2,5,6,7] (λ_ s=>jO [(7,.sb s)]);have:=ct 23 [2,5,6,7,8] (λ_ s=>jO [(8,.sb s)]);have:=ct 29 [2,5,6,7,8,9] (λ_ s=>jO [(9,.sb s)]);have:=ct 35 [2,5,6,7,8,9,10] (λ_ s=>jO [(10,.sb s)]);have:=ct 41 [2,5,6,7,8,9,10,11] (λ_ s=>jO [(11,.sb s)]);have:=ct 47 [5,6,7,8,9,10,11,12] (λ_ s=>jO [(12,.sb s)]);exact wA (iO [12,13,14,23,29,35,41,47]) func317 call317
instance akf {c0}{c1}{c2}{c3}{c4}{c5}:CZ M 197 (qp c0 c1 c2 c3 c4 c5) [.lv 0 0,.lv 1 0,.lv 2 0,.lv 3 0,.lv 4 0,.lv 5 0] [(0,(vR [oh M c0])),(1,(vR (iF M c1))),(2,(vR [lq M c2])),(3,(vR (jZ M c3))),(4,(vR [.sl 0 [] true])),(5,(vR [.sb c5]))] 6 (λr=>pF M r) (λ_=>[(0,(vR [oh M c0])),(1,(vR (iF M c1))),(2,(vR [lq M c2])),(3,(vR (jZ M c3))),(4,(vR [.sl 0 [] true])),(5,(vR [.sb c5]))]) 6:=by
 exact wC (iV 6 [] []) func197 call197 []
end Go.Proofs.YtchmoabpofnbaaaGreat
