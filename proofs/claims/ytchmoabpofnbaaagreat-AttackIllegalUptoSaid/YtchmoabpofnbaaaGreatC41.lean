import Derived.Test.YtchmoabpofnbaaaGreatC24
import Derived.Test.YtchmoabpofnbaaaGreatC26
import Derived.Test.YtchmoabpofnbaaaGreatC29
import Derived.Test.YtchmoabpofnbaaaGreatC30
set_option linter.all false
namespace Go.Proofs.YtchmoabpofnbaaaGreat
open Go Go.Pv
set_option maxRecDepth 100000
set_option maxHeartbeats 20000000
variable [GM]
attribute [local irreducible] bnd br jn qE gK jv lJ jl rD uo divO kT jL kN kP lI lS lM
variable {M:iG}[HM M]
instance c59 {s}:CC M 59 (uZ s) [.agg (iF M s)] (λr=>.agg (iF M r)):=by
 have hM:=HM.h (M:=M);refine⟨λr O=>?_⟩;refine ES ig Tryz.func59 Tryz.call59 ?_;intro S R hS hR q;unfold uZ at O;cbv;refine jM hS O (cZ hM) (le_eq rfl) ?_;intro y1 O;cbv;refine TF hS ig wf [] [1,2,13,14] (λs2=>f3 138 [(1,.lv 0 0),(2,.lv 2 0),(13,sI (S.yO (M.n jP y1))),(14,sI s2.1)] [vR [.os 1 0 (S.gZ (mi M s2.2)),oM M s.objects,.sl 1 (mI M s.jd) false,.sl 1 (mI M s.qK) false,Tt M s.stack,sU M s.waiting,KH M s.kW,sI s.turn,sI s.mJ,sI s.step,.sb s.begun,sI s.priority,sI s.passes,sI s.nextId,sI s.kD,.si .u64 s.seed,.sl 1 (mI M s.extra) false,sI s.over,sI s.ql],aR 14 (mi M s2.2),vR [.sl 0 [] true,.sl 0 [] true,.sl 0 [] true,.sl 0 [] true,.sl 0 [] true,.sl 0 [] true,.sl 0 [] true,sI 0,sI 0,sI 0,.sb false,sI 0,sI 0,sI 0,sI 0,.si .u64 0,.sl 0 [] true,sI 0,sI 0]]) O ?_;intro Ik3 k3 s2 hk3 O e he;subst he;unfold Bv at O;cbv;refine nZ ?_ ?_
 intro O;cbv;refine EF hS ?_;cbv;refine mG hS O lC rfl ?_;intro j5 _ O;cbv;refine jW hS hM O rfl lC ?_;intro x6 O;cbv;refine Je hS O (cI hM) ?_;intro y7 O;cbv;refine mG hS O lC rfl ?_;intro j8 _ O;cbv;refine jW hS hM O rfl lC ?_;exact xZ
 intro O;cbv;refine jM hS O (cZ hM) (le_eq rfl) ?_;intro y10 O;cbv;refine jM hS O (cZ hM) (le_eq rfl) ?_;intro y11 O;cbv;refine jM hS O (cZ hM) (le_eq rfl) ?_;intro y12 O;cbv;refine jM hS O (cZ hM) (le_eq rfl) ?_;intro y13 O;cbv;refine TF hS ig wf [] [1,2,46,47] (λs14=>f3 138 [(1,.lv 0 0),(2,.lv 6 0),(46,sI (S.yO (M.n og y13))),(47,sI s14.1)] [vR [.os 1 0 (S.gZ (mi M s2.2)),.os 2 0 (S.gZ (kS M y10)),.os 3 0 (S.gZ (mI M y11)),.os 4 0 (S.gZ (mI M y12)),.os 5 0 (S.gZ (uA M s14.2)),sU M s.waiting,KH M s.kW,sI s.turn,sI s.mJ,sI s.step,.sb s.begun,sI s.priority,sI s.passes,sI s.nextId,sI s.kD,.si .u64 s.seed,.sl 1 (mI M s.extra) false,sI s.over,sI s.ql],aR 14 (mi M s2.2),aR 19 (kS M y10),aR 1 (mI M y11),aR 1 (mI M y12),aR 94 (uA M s14.2),vR [.sl 0 [] true,.sl 0 [] true,.sl 0 [] true,.sl 0 [] true,.sl 0 [] true,.sl 0 [] true,.sl 0 [] true,sI 0,sI 0,sI 0,.sb false,sI 0,sI 0,sI 0,sI 0,.si .u64 0,.sl 0 [] true,sI 0,sI 0]]) O ?_;intro Ik15 k15 s14 hk15 O e he;subst he;unfold Bq at O;cbv;refine nZ ?_ ?_
 intro O;cbv;refine EF hS ?_;cbv;refine mG hS O lC rfl ?_;intro j17 _ O;cbv;refine jW hS hM O rfl lC ?_;intro x18 O;cbv;refine Je hS O (cI hM) ?_;intro y19 O;cbv;refine mG hS O lC rfl ?_;intro j20 _ O;cbv;refine jW hS hM O rfl lC ?_;intro x21 O;cbv;refine EF hS ?_;cbv;refine mG hS O lC rfl ?_;intro j22 _ O;cbv;refine jW hS hM (e:=(yF M)) O lC lC ?_;intro x23 O;cbv;refine Je hS O (cI hM) ?_;intro y24 O;cbv;refine mG hS O lC rfl ?_;intro j25 _ O;cbv;refine jW hS hM (e:=(yF M)) O lC lC ?_;exact xZ
 intro O;cbv;refine jM hS O (cZ hM) (le_eq rfl) ?_;intro y27 O;cbv;refine TF hS ig wf [] [1,2,81,82] (λs28=>f3 138 [(1,.lv 0 0),(2,.lv 7 0),(81,sI (S.yO (M.n iL y27))),(82,sI s28.1)] [vR [.os 1 0 (S.gZ (mi M s2.2)),.os 2 0 (S.gZ (kS M y10)),.os 3 0 (S.gZ (mI M y11)),.os 4 0 (S.gZ (mI M y12)),.os 5 0 (S.gZ (uA M s14.2)),.os 6 0 (S.gZ (jB M s28.2)),KH M s.kW,sI s.turn,sI s.mJ,sI s.step,.sb s.begun,sI s.priority,sI s.passes,sI s.nextId,sI s.kD,.si .u64 s.seed,.sl 1 (mI M s.extra) false,sI s.over,sI s.ql],aR 14 (mi M s2.2),aR 19 (kS M y10),aR 1 (mI M y11),aR 1 (mI M y12),aR 94 (uA M s14.2),aR 89 (jB M s28.2),vR [.sl 0 [] true,.sl 0 [] true,.sl 0 [] true,.sl 0 [] true,.sl 0 [] true,.sl 0 [] true,.sl 0 [] true,sI 0,sI 0,sI 0,.sb false,sI 0,sI 0,sI 0,sI 0,.si .u64 0,.sl 0 [] true,sI 0,sI 0]]) O ?_;intro Ik29 k29 s28 hk29 O e he;subst he;unfold Bo at O;cbv;refine nZ ?_ ?_
 intro O;cbv;refine EF hS ?_;cbv;refine mG hS O lC rfl ?_;intro j31 _ O;cbv;refine jW hS hM O rfl lC ?_;intro x32 O;cbv;refine Je hS O (cI hM) ?_;intro y33 O;cbv;refine mG hS O lC rfl ?_;intro j34 _ O;cbv;refine jW hS hM O rfl lC ?_;exact xZ
 intro O;cbv;refine jM hS O (cZ hM) (le_eq rfl) ?_;intro y36 O;cbv;refine TF hS ig wf [] [1,2,104,105] (λs37=>f3 138 [(1,.lv 0 0),(2,.lv 8 0),(104,sI (S.yO (M.n pM y36))),(105,sI s37.1)] [vR [.os 1 0 (S.gZ (mi M s2.2)),.os 2 0 (S.gZ (kS M y10)),.os 3 0 (S.gZ (mI M y11)),.os 4 0 (S.gZ (mI M y12)),.os 5 0 (S.gZ (uA M s14.2)),.os 6 0 (S.gZ (jB M s28.2)),.os 7 0 (S.gZ (Ad M s37.2)),sI s.turn,sI s.mJ,sI s.step,.sb s.begun,sI s.priority,sI s.passes,sI s.nextId,sI s.kD,.si .u64 s.seed,.sl 1 (mI M s.extra) false,sI s.over,sI s.ql],aR 14 (mi M s2.2),aR 19 (kS M y10),aR 1 (mI M y11),aR 1 (mI M y12),aR 94 (uA M s14.2),aR 89 (jB M s28.2),aR 6 (Ad M s37.2),vR [.sl 0 [] true,.sl 0 [] true,.sl 0 [] true,.sl 0 [] true,.sl 0 [] true,.sl 0 [] true,.sl 0 [] true,sI 0,sI 0,sI 0,.sb false,sI 0,sI 0,sI 0,sI 0,.si .u64 0,.sl 0 [] true,sI 0,sI 0]]) O ?_;intro Ik38 k38 s37 hk38 O e he;subst he;unfold Bl at O;cbv;refine nZ ?_ ?_
 intro O;cbv;refine EF hS ?_;cbv;refine mG hS O lC rfl ?_;intro j40 _ O;cbv;refine jW hS hM O rfl lC ?_;intro x41 O;cbv;refine Je hS O (cI hM) ?_;intro y42 O;cbv;refine mG hS O lC rfl ?_;intro j43 _ O;cbv;refine jW hS hM O rfl lC ?_;intro x44 O;cbv;refine EF hS ?_;cbv;refine mG hS O lC rfl ?_;intro j45 _ O;cbv;refine jW hS hM (e:=(zQ M)) O lC lC ?_;intro x46 O;cbv;refine Je hS O (cI hM) ?_;intro y47 O;cbv;refine mG hS O lC rfl ?_;intro j48 _ O;cbv;refine jW hS hM (e:=(zQ M)) O lC lC ?_;exact xZ
 intro O;cbv;refine jM hS O (cZ hM) (le_eq rfl) ?_;exact Z4
end Go.Proofs.YtchmoabpofnbaaaGreat
namespace Go.Proofs.YtchmoabpofnbaaaGreat
open Go Go.Pv Proofs.Tryz
set_option maxRecDepth 100000
set_option maxHeartbeats 20000000
variable [GM]
attribute [local irreducible] bnd br jn qE gK jv lJ jl rD uo divO kT jL kN kP lI lS lM
variable {M:iG}[HM M]
instance c403 {left}:CC M 403 (zB left) [.sl 1 (mI M left) false] (λr=>.sl 1 (mI M r) false):=by
 have:=lo 3 [3,6,7,8] (λ_ (s:Int×(List Int))=>up [(3,.os 0 0 (M.n Int s.2)),(8,sI s.1)] [(0,(aR 1 (mI M s.2)))]) [.tO 3 1];have:=ct 15 [3,6,7,8] (λ_ s=>up [(3,.os 0 0 (M.n Int s))] [(0,(aR 1 (mI M s)))]) [.tO 3 1];have:=ct 10 [3,5,6,7,8,19] (λ_ s=>jO [(19,.sb s)]);exact wA (iO [10,15]) func403 call403
instance c322 {mask}:CC M 322 (LJ mask) [sI mask] (λr=>.str r):=by
 have:=lo 5 [0,3,4] (λ_ (s:Int×ByteArray×Int)=>jO [(0,sI s.1),(3,.str s.2.1),(4,sI s.2.2)]);have:=ct 13 [0,3,4] (λ_ (s:Int×ByteArray)=>jO [(0,sI s.1),(3,.str s.2)]);have:=ct 23 [0,3,4] (λ_ s=>jO [(3,.str s)]);have:=ct 21 [0,3,4] (λ_ s=>jO [(3,.str s)]);exact wA (iO [10,13,21,23]) func322 call322
instance ajQ {j}{c1}{c2}{w1}{w2:List (List Bool)}:CC M 405 (xC j c1 c2 (λa0 a1=>sO a0 a1 w1 w2)) [sI j,.pp [sI c1],.pp [.sl 1 (M.m (List Bool) (eL M 1 eB) c2) false],.pp [.fn 455 [.pp [.sl 1 (mI M w1) false],.pp [.sl 1 (M.m (List Bool) (eL M 1 eB) w2) false]]]] (λr=>.sb r):=by
 exact wA ig func405 call405
instance c461 {c}{x}:CC M 461 (Kq c x) [.agg (rO M c),sI x] (λr=>sI r):=by
 have:=lo 5 [1,2,5,14,15] (λ_ (s:Int×Int)=>jO [(5,sI s.1),(15,sI s.2)]);have:=ct 12 [1,2,5,7,14,15] (λ_ s=>jO [(7,sI s)]);exact wA (iO [10,12]) func461 call461
instance c252 {c}{a}:CC M 252 (qi c a) [.agg (lN M c),.sl 1 (mI M a) false] (λr=>.sb r):=by
 have:=lo 2 [1,2,7,8,9] (λ_ s=>jO [(9,sI s)]);have:=ct 8 [1,2,7,8,9,29] (λ_ s=>jO [(29,.sb s)]);exact wA (iO [8]) func252 call252
instance ajR {s}{w1:Int}:CC M 402 (xB s (λa0=>wE a0 w1)) [MC M s,.fn 328 [.pp [sI w1]]] (λr=>sI r):=by
 have:=lo 2 [0,1,7,8] (λ_ s=>jO [(8,sI s)]);exact wA ig func402 call402
instance c359 {s}{all}{id}:CC M 359 (A8 s all id) [.agg (iF M s),lq M all,sI id] (λr=>.DJ [.agg (jQ M r.1),.agg (kU M r.2.1),.sb r.2.2]):=by
 exact wA (iO [1006]) func359 call359
instance c304 {a}{b}:CC M 304 (yh a b) [Io M a,Io M b] (λr=>.sb r):=by
 have:=lo 4 [0,1,5] (λ_ s=>jO [(5,sI s)]);exact wA ig func304 call304
instance ajS {s}{w1:kK}:CC M 482 (l9 s (λa0=>BA a0 w1)) [oM M s,.fn 483 [.pp (oI M w1)]] (λr=>.sb r):=by
 exact wA ig func482 call482
end Go.Proofs.YtchmoabpofnbaaaGreat
