import Derived.Test.YtchmoabpofnbaaaGreatC40
import Derived.Test.YtchmoabpofnbaaaGreatC41
import Derived.Test.YtchmoabpofnbaaaGreatC42
set_option linter.all false
namespace Go.Proofs.YtchmoabpofnbaaaGreat
open Go Go.Pv
set_option maxRecDepth 100000
set_option maxHeartbeats 20000000
variable [GM]
attribute [local irreducible] bnd br jn qE gK jv lJ jl rD uo divO kT jL kN kP lI lS lM
variable {M:iG}[HM M]
instance c179 {w}:CC M 179 (MB w) [.agg (qC M w)] (λr=>.agg (qC M r)):=by
 have hM:=HM.h (M:=M);refine⟨λr O=>?_⟩;refine ES (iO [11,16,25]) Tryz.func179 Tryz.call179 ?_;intro S R hS hR q;unfold MB at O;cbv;refine d_L (iO [11,16,25]) [.cO 2 19 17] [1,2,3,4] (λs1=>f4 59 [.lv 0 0,.lv 1 0,.lv 2 0,sI s1.1] [vR (qC M w),vR [.sl 0 [] true,.sl 0 [] true,.sl 0 [] true,.sl 0 [] true,.sl 0 [] true,.sl 0 [] true,.sl 0 [] true,sI 0,sI 0,sI 0,.sb false,sI 0,sI 0,sI 0,sI 0,.si .u64 0,.sl 0 [] true,sI 0,sI 0,.sl 0 [] true,.sl 0 [] true,.sl 0 [] true,.sl 0 [] true,.sl 0 [] true],vR (iF M w.s++[.os 3 0 (S.gZ (iD M s1.2)),yA M w.l,.sl 1 (M.m Bool eB w.begun) false,.sl 1 (M.m (List Int) (eL M 1 (eI .i64)) w.sets) false,.sl 1 (M.m Bool eB w.blank) false]),aR 17 (iD M s1.2)]) O ?_;intro Ik2 k2 s1 hk2 O e he;subst he;unfold Me at O;cbv;refine nZ ?_ ?_
 intro O;cbv;refine DR [] [1,2,3,4] (λs4=>f4 59 [.lv 0 0,.lv 1 0,.lv 2 0,sI s1.1] [vR (qC M w),vR [.sl 0 [] true,.sl 0 [] true,.sl 0 [] true,.sl 0 [] true,.sl 0 [] true,.sl 0 [] true,.sl 0 [] true,sI 0,sI 0,sI 0,.sb false,sI 0,sI 0,sI 0,sI 0,.si .u64 0,.sl 0 [] true,sI 0,sI 0,.sl 0 [] true,.sl 0 [] true,.sl 0 [] true,.sl 0 [] true,.sl 0 [] true],vR (iF M w.s++[.os 3 0 (S.gZ (iD M s4)),yA M w.l,.sl 1 (M.m Bool eB w.begun) false,.sl 1 (M.m (List Int) (eL M 1 (eI .i64)) w.sets) false,.sl 1 (M.m Bool eB w.blank) false]),aR 17 (iD M s4)]) O ?_ ?_
 intro Ik5 k5 hk5 O;cbv;refine d_I ?_;intro x7 O;cbv;refine d_I ?_;intro x8 O;cbv;refine DR [] [1,2,3,4,5] (λs9=>f4 59 [.lv 0 0,.lv 1 0,.lv 2 0,sI s1.1,.lv 4 0] [vR (qC M w),vR [.sl 0 [] true,.sl 0 [] true,.sl 0 [] true,.sl 0 [] true,.sl 0 [] true,.sl 0 [] true,.sl 0 [] true,sI 0,sI 0,sI 0,.sb false,sI 0,sI 0,sI 0,sI 0,.si .u64 0,.sl 0 [] true,sI 0,sI 0,.sl 0 [] true,.sl 0 [] true,.sl 0 [] true,.sl 0 [] true,.sl 0 [] true],vR (iF M w.s++[.os 3 0 (S.gZ (iD M s1.2)),yA M w.l,.sl 1 (M.m Bool eB w.begun) false,.sl 1 (M.m (List Int) (eL M 1 (eI .i64)) w.sets) false,.sl 1 (M.m Bool eB w.blank) false]),aR 17 (iD M s1.2),vR ([.str x7.name]++(rO M x7.cost++[sI x7.jS,sI x7.line.F7,sI x7.line.types,.sl 1 (M.m ByteArray eS x7.line.subs) false,sI s9.1,sI s9.2,sI x7.keys,BJ M x7.gU,sI x7.control]))]) O ?_ ?_
 intro Ik10 k10 hk10 O;cbv;refine DR [] [1,2,3,4,5,6,38] (λs12=>f4 59 [.lv 0 0,.lv 1 0,.lv 2 0,sI s1.1,.lv 4 0,.lv 5 0,.sb s12] [vR (qC M w),vR [.sl 0 [] true,.sl 0 [] true,.sl 0 [] true,.sl 0 [] true,.sl 0 [] true,.sl 0 [] true,.sl 0 [] true,sI 0,sI 0,sI 0,.sb false,sI 0,sI 0,sI 0,sI 0,.si .u64 0,.sl 0 [] true,sI 0,sI 0,.sl 0 [] true,.sl 0 [] true,.sl 0 [] true,.sl 0 [] true,.sl 0 [] true],vR (iF M w.s++[.os 3 0 (S.gZ (iD M s1.2)),yA M w.l,.sl 1 (M.m Bool eB w.begun) false,.sl 1 (M.m (List Int) (eL M 1 (eI .i64)) w.sets) false,.sl 1 (M.m Bool eB w.blank) false]),aR 17 (iD M s1.2),vR (kU M x7),vR (jQ M x8)]) O ?_ ?_
 intro Ik13 k13 hk13 O;cbv;refine nZ ?_ ?_
 intro O;cbv;refine Vf hS O rfl rfl ?_;intro x15 O;cbv;refine Vf hS O rfl rfl ?_;exact xZ
 exact vF
 intro s12 O;cbv;refine vP ?_ ?_
 intro O;cbv;refine zn hS O (cI hM) ?_;intro y17 O;cbv;refine zn hS O (cI hM) ?_;intro y18 O;cbv;refine zn hS O (cI hM) ?_;exact xZ
 exact vF
 intro s9 O;cbv;refine tH hS O lC ?_;exact vF
 intro s4 O;cbv;exact vw
 exact d_R
end Go.Proofs.YtchmoabpofnbaaaGreat
namespace Go.Proofs.YtchmoabpofnbaaaGreat
open Go Go.Pv Proofs.Tryz
set_option maxRecDepth 100000
set_option maxHeartbeats 20000000
variable [GM]
attribute [local irreducible] bnd br jn qE gK jv lJ jl rD uo divO kT jL kN kP lI lS lM
variable {M:iG}[HM M]
instance ajX {data}{a}{b}:CZ M 441 (jF data a b oJ) [.os 0 0 (M.n gq data),sI a,sI b,.fn 300 []] [(0,(aR 76 (gQ M data)))] 1 (λ_=>.DJ []) (λr=>[(0,(aR 76 (gQ M r)))]) 1:=by
 have:=lo 1 [0,1,2,3,8] (λ_ (s:Int×(List gq))=>up [(0,.os 0 0 (M.n gq s.2)),(8,sI s.1)] [(0,(aR 76 (gQ M s.2)))]);have:=lo 4 [0,1,2,3,8,9] (λ_ (s:Int×(List gq))=>up [(0,.os 0 0 (M.n gq s.2)),(9,sI s.1)] [(0,(aR 76 (gQ M s.2)))]);have:=ct 8 [0,1,2,3,8,9,34] (λ_ s=>jO [(34,.sb s)]);exact wZ (iV 1 [8] []) func441 call441
instance ajY {s}{w1}{w2}{w3}{w4:List (List Bool)}:CC M 226 (oW s (λa0=>xC a0 w1 w2 (λa0 a1=>sO a0 a1 w3 w4))) [.sl 1 (mI M s) false,.fn 405 [.pp [sI w1],.pp [.sl 1 (M.m (List Bool) (eL M 1 eB) w2) false],.pp [.fn 455 [.pp [.sl 1 (mI M w3) false],.pp [.sl 1 (M.m (List Bool) (eL M 1 eB) w4) false]]]]] (λr=>sI r):=by
 have:=lo 2 [0,1,7,8] (λ_ s=>jO [(8,sI s)]);exact wA ig func226 call226
instance c244 {cards}{o}:CC M 244 (QD cards o) [oh M cards,.agg (jQ M o)] (λr=>.agg (kU M r)):=by
 have:=ct 9 [0,3,4,5] (λ_ s=>jO [(5,sI s)]);have:=ct 15 [3,4,6] (λ_ s=>up [] [(2,(vR (kU M s)))]) [.cS 2 15 72,.cS 2 11 1];have:=ct 10 [0,3,4,5,6,21] (λ_ s=>jO [(21,.sb s)]);exact wA (iO [9,10,15]) func244 call244
instance c53 {cards}{o}:CC M 53 (abu cards o) [oh M cards,.agg (jQ M o)] (λr=>.agg (kU M r)):=by
 have:=ct 9 [0,3,4,5] (λ_ s=>jO [(5,sI s)]);have:=ct 15 [3,4,6] (λ_ s=>up [] [(2,(vR (kU M s)))]) [.cS 2 15 72,.cS 2 11 1];have:=ct 10 [0,3,4,5,6,20] (λ_ s=>jO [(20,.sb s)]);exact wA (iO [9,10,15]) func53 call53
instance c456 {f}:CC M 456 (Jo f) [.agg (jU M f)] (λr=>.sb r):=by
 have:=ct 2 [1,30] (λ_ s=>jO [(30,.sb s)]);have:=ct 6 [1,48] (λ_ s=>jO [(48,.sb s)]);have:=ct 10 [1,66] (λ_ s=>jO [(66,.sb s)]);have:=ct 14 [1,75] (λ_ s=>jO [(75,.sb s)]);exact wA (iO [2,6,10,14]) func456 call456
instance c161 {s}{l}{jE}{owner}:CC M 161 (DV s l jE owner) [.agg (iF M s),.sl 1 (mI M l) false,sI jE,sI owner] (λr=>.sb r):=by
 have:=lo 2 [1,2,3,4,9] (λ_ s=>jO [(9,sI s)]);have:=ct 10 [1,2,3,4,9,53] (λ_ s=>jO [(53,.sb s)]);exact wA (iO [10]) func161 call161
end Go.Proofs.YtchmoabpofnbaaaGreat
namespace Go.Proofs.YtchmoabpofnbaaaGreat
open Go Go.Pv
set_option maxRecDepth 100000
set_option maxHeartbeats 20000000
variable [GM]
attribute [local irreducible] bnd br jn qE gK jv lJ jl rD uo divO kT jL kN kP lI lS lM
variable {M:iG}[HM M]
instance c446 {c}:CC M 446 (Gx c) [.agg (oI M c)] (λr=>.sb r):=by
 exact wA ig Tryz.func446 Tryz.call446
end Go.Proofs.YtchmoabpofnbaaaGreat
