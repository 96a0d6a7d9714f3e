import Derived.Test.YtchmoabpofnbaaaGreatD25
import Derived.Test.YtchmoabpofnbaaaGreatD27
import Derived.Test.YtchmoabpofnbaaaGreatD28
import Derived.Test.YtchmoabpofnbaaaGreatD30
set_option linter.all false
namespace Go.Proofs.YtchmoabpofnbaaaGreat
open Go Go.Pv
set_option maxRecDepth 100000
set_option maxHeartbeats 20000000
variable [GM]
attribute [local irreducible] bnd br jn pI eH iI kD gW qx sG divO jU jc jM jD jR kK kE
variable {M:gm}[HM M]
instance c59 {s}:CC M 59 (vT s) [.agg (fM M s)] (λr=>.agg (fM M r)):=by
 have hM:=HM.h (M:=M);refine⟨λr U=>?_⟩;refine EN fG Tryz.func59 Tryz.call59 ?_;intro S R O hR q;unfold vT at U;cbv;refine jC O U (cZ hM) (le_eq rfl) ?_;intro y1 U;cbv;refine Vw O fG wf [] [1,2,13,14] (λs2=>f3 138 [(1,.lv 0 0),(2,.lv 2 0),(13,sI (S.xQ (M.n jl y1))),(14,sI s2.1)] [vR [.os 1 0 (S.fE (kN M s2.2)),oZ M s.objects,.sl 1 (mI M s.iF) false,.sl 1 (mI M s.pG) false,Vj M s.stack,tC M s.waiting,Nv M s.jB,sI s.turn,sI s.kX,sI s.step,.sb s.begun,sI s.priority,sI s.passes,sI s.nextId,sI s.jI,.si .u64 s.seed,.sl 1 (mI M s.extra) false,sI s.over,sI s.oC],aR 14 (kN M s2.2),vR [.sl 0 [] true,.sl 0 [] true,.sl 0 [] true,.sl 0 [] true,.sl 0 [] true,.sl 0 [] true,.sl 0 [] true,sI 0,sI 0,sI 0,.sb false,sI 0,sI 0,sI 0,sI 0,.si .u64 0,.sl 0 [] true,sI 0,sI 0]]) U ?_;intro Ik3 k3 s2 hk3 U e he;subst he;unfold CU at U;cbv;refine mP ?_ ?_
 intro U;cbv;refine Fa O ?_;cbv;refine lh O U jW rfl ?_;intro j5 _ U;cbv;refine jv O hM U rfl jW ?_;intro x6 U;cbv;refine Kq O U (cI hM) ?_;intro y7 U;cbv;refine lh O U jW rfl ?_;intro j8 _ U;cbv;refine jv O hM U rfl jW ?_;exact yX
 intro U;cbv;refine jC O U (cZ hM) (le_eq rfl) ?_;intro y10 U;cbv;refine jC O U (cZ hM) (le_eq rfl) ?_;intro y11 U;cbv;refine jC O U (cZ hM) (le_eq rfl) ?_;intro y12 U;cbv;refine jC O U (cZ hM) (le_eq rfl) ?_;intro y13 U;cbv;refine Vw O fG wf [] [1,2,46,47] (λs14=>f3 138 [(1,.lv 0 0),(2,.lv 6 0),(46,sI (S.xQ (M.n nJ y13))),(47,sI s14.1)] [vR [.os 1 0 (S.fE (kN M s2.2)),.os 2 0 (S.fE (jO M y10)),.os 3 0 (S.fE (mI M y11)),.os 4 0 (S.fE (mI M y12)),.os 5 0 (S.fE (rM M s14.2)),tC M s.waiting,Nv M s.jB,sI s.turn,sI s.kX,sI s.step,.sb s.begun,sI s.priority,sI s.passes,sI s.nextId,sI s.jI,.si .u64 s.seed,.sl 1 (mI M s.extra) false,sI s.over,sI s.oC],aR 14 (kN M s2.2),aR 19 (jO M y10),aR 1 (mI M y11),aR 1 (mI M y12),aR 94 (rM M s14.2),vR [.sl 0 [] true,.sl 0 [] true,.sl 0 [] true,.sl 0 [] true,.sl 0 [] true,.sl 0 [] true,.sl 0 [] true,sI 0,sI 0,sI 0,.sb false,sI 0,sI 0,sI 0,sI 0,.si .u64 0,.sl 0 [] true,sI 0,sI 0]]) U ?_;intro Ik15 k15 s14 hk15 U e he;subst he;unfold CQ at U;cbv;refine mP ?_ ?_
 intro U;cbv;refine Fa O ?_;cbv;refine lh O U jW rfl ?_;intro j17 _ U;cbv;refine jv O hM U rfl jW ?_;intro x18 U;cbv;refine Kq O U (cI hM) ?_;intro y19 U;cbv;refine lh O U jW rfl ?_;intro j20 _ U;cbv;refine jv O hM U rfl jW ?_;intro x21 U;cbv;refine Fa O ?_;cbv;refine lh O U jW rfl ?_;intro j22 _ U;cbv;refine jv O hM (e:=(zu M)) U jW jW ?_;intro x23 U;cbv;refine Kq O U (cI hM) ?_;intro y24 U;cbv;refine lh O U jW rfl ?_;intro j25 _ U;cbv;refine jv O hM (e:=(zu M)) U jW jW ?_;exact yX
 intro U;cbv;refine jC O U (cZ hM) (le_eq rfl) ?_;intro y27 U;cbv;refine Vw O fG wf [] [1,2,81,82] (λs28=>f3 138 [(1,.lv 0 0),(2,.lv 7 0),(81,sI (S.xQ (M.n gU y27))),(82,sI s28.1)] [vR [.os 1 0 (S.fE (kN M s2.2)),.os 2 0 (S.fE (jO M y10)),.os 3 0 (S.fE (mI M y11)),.os 4 0 (S.fE (mI M y12)),.os 5 0 (S.fE (rM M s14.2)),.os 6 0 (S.fE (iQ M s28.2)),Nv M s.jB,sI s.turn,sI s.kX,sI s.step,.sb s.begun,sI s.priority,sI s.passes,sI s.nextId,sI s.jI,.si .u64 s.seed,.sl 1 (mI M s.extra) false,sI s.over,sI s.oC],aR 14 (kN M s2.2),aR 19 (jO M y10),aR 1 (mI M y11),aR 1 (mI M y12),aR 94 (rM M s14.2),aR 89 (iQ M s28.2),vR [.sl 0 [] true,.sl 0 [] true,.sl 0 [] true,.sl 0 [] true,.sl 0 [] true,.sl 0 [] true,.sl 0 [] true,sI 0,sI 0,sI 0,.sb false,sI 0,sI 0,sI 0,sI 0,.si .u64 0,.sl 0 [] true,sI 0,sI 0]]) U ?_;intro Ik29 k29 s28 hk29 U e he;subst he;unfold CP at U;cbv;refine mP ?_ ?_
 intro U;cbv;refine Fa O ?_;cbv;refine lh O U jW rfl ?_;intro j31 _ U;cbv;refine jv O hM U rfl jW ?_;intro x32 U;cbv;refine Kq O U (cI hM) ?_;intro y33 U;cbv;refine lh O U jW rfl ?_;intro j34 _ U;cbv;refine jv O hM U rfl jW ?_;exact yX
 intro U;cbv;refine jC O U (cZ hM) (le_eq rfl) ?_;intro y36 U;cbv;refine Vw O fG wf [] [1,2,104,105] (λs37=>f3 138 [(1,.lv 0 0),(2,.lv 8 0),(104,sI (S.xQ (M.n pF y36))),(105,sI s37.1)] [vR [.os 1 0 (S.fE (kN M s2.2)),.os 2 0 (S.fE (jO M y10)),.os 3 0 (S.fE (mI M y11)),.os 4 0 (S.fE (mI M y12)),.os 5 0 (S.fE (rM M s14.2)),.os 6 0 (S.fE (iQ M s28.2)),.os 7 0 (S.fE (wY M s37.2)),sI s.turn,sI s.kX,sI s.step,.sb s.begun,sI s.priority,sI s.passes,sI s.nextId,sI s.jI,.si .u64 s.seed,.sl 1 (mI M s.extra) false,sI s.over,sI s.oC],aR 14 (kN M s2.2),aR 19 (jO M y10),aR 1 (mI M y11),aR 1 (mI M y12),aR 94 (rM M s14.2),aR 89 (iQ M s28.2),aR 6 (wY M s37.2),vR [.sl 0 [] true,.sl 0 [] true,.sl 0 [] true,.sl 0 [] true,.sl 0 [] true,.sl 0 [] true,.sl 0 [] true,sI 0,sI 0,sI 0,.sb false,sI 0,sI 0,sI 0,sI 0,.si .u64 0,.sl 0 [] true,sI 0,sI 0]]) U ?_;intro Ik38 k38 s37 hk38 U e he;subst he;unfold CO at U;cbv;refine mP ?_ ?_
 intro U;cbv;refine Fa O ?_;cbv;refine lh O U jW rfl ?_;intro j40 _ U;cbv;refine jv O hM U rfl jW ?_;intro x41 U;cbv;refine Kq O U (cI hM) ?_;intro y42 U;cbv;refine lh O U jW rfl ?_;intro j43 _ U;cbv;refine jv O hM U rfl jW ?_;intro x44 U;cbv;refine Fa O ?_;cbv;refine lh O U jW rfl ?_;intro j45 _ U;cbv;refine jv O hM (e:=(AQ M)) U jW jW ?_;intro x46 U;cbv;refine Kq O U (cI hM) ?_;intro y47 U;cbv;refine lh O U jW rfl ?_;intro j48 _ U;cbv;refine jv O hM (e:=(AQ M)) U jW jW ?_;exact yX
 intro U;cbv;refine jC O U (cZ hM) (le_eq rfl) ?_;exact adz
instance c121 {c}:CC M 121 (wu c) [.agg (zy M c)] (λr=>.agg (jd M r)):=by
 have hM:=HM.h (M:=M);refine⟨λr U=>?_⟩;refine EN fG Tryz.func121 Tryz.call121 ?_;intro S R O hR q;unfold wu at U;cbv;refine Fa O ?_;cbv;refine Kq O U (cI hM) ?_;intro y1 U;cbv;refine nM O U jW ?_;intro U;cbv;refine Vw O fG wf [.cO 2 15 72] [1,2,3,4] (λs2=>f3 50 [(1,.lv 0 0),(2,.lv 1 0),(3,.lv 2 0),(4,sI s2.1)] [vR (zy M c),vR [.str (bs []),sI 0,sI 0,sI 0,sI 0,sI 0,sI 0,sI 0,sI 0,sI 0,sI 0,.sl 0 [] true,sI 0,sI 0,sI 0,.sl 0 [] true,sI 0],vR ([.str c.name]++(rD M c.cost++[sI (S.bin .or .i64 y1 c.color),sI c.line.KO,sI c.line.types,.os 3 0 (S.fE (S.app (S.sub ([]) 0 0) (M.m ByteArray eS c.line.subs))),sI c.power,sI c.gK,sI c.keys,.os 4 0 (S.fE (qC M s2.2)),sI 0])),aR 1 (S.app (S.sub ([]) 0 0) (M.m ByteArray eS c.line.subs)),aR 72 (qC M s2.2)]) U ?_;intro Ik3 k3 s2 hk3 U e he;subst he;unfold BU at U;cbv;refine mP ?_ ?_
 intro U;cbv;refine Fa O ?_;cbv;refine Kr ?_;intro x5 U;cbv;refine Kq O U (cI hM) ?_;intro y6 U;cbv;refine nM O U jW ?_;exact tY
 exact d_R
end Go.Proofs.YtchmoabpofnbaaaGreat
namespace Go.Proofs.YtchmoabpofnbaaaGreat
open Go Go.Pv Proofs.Tryz
set_option maxRecDepth 100000
set_option maxHeartbeats 20000000
variable [GM]
attribute [local irreducible] bnd br jn pI eH iI kD gW qx sG divO jU jc jM jD jR kK kE
variable {M:gm}[HM M]
instance c450 {c}:CC M 450 (SE c) [.agg (rD M c)] (λr=>.str r):=by
 have:=lo 5 [1,3,4] (λ_ (s:ByteArray×Int)=>jf [(3,.str s.1),(4,sI s.2)]);have:=ct 21 [1,3] (λ_ s=>jf [(3,.str s)]);have:=lo 11 [1,3,5] (λ_ (s:ByteArray×Int)=>jf [(3,.str s.1),(5,sI s.2)]);have:=lo 14 [1,3,5,6] (λ_ (s:ByteArray×Int)=>jf [(3,.str s.1),(6,sI s.2)]);have:=ct 28 [1,3,5,6,35] (λ_ s=>jf [(35,.sb s)]);exact wA (fZ [21,22,28]) func450 call450
instance c403 {left}:CC M 403 (Ak left) [.sl 1 (mI M left) false] (λr=>.sl 1 (mI M r) false):=by
 have:=lo 3 [3,6,7,8] (λ_ (s:Int×(List Int))=>up [(3,.os 0 0 (M.n Int s.2)),(8,sI s.1)] [(0,(aR 1 (mI M s.2)))]) [.tO 3 1];have:=ct 15 [3,6,7,8] (λ_ s=>up [(3,.os 0 0 (M.n Int s))] [(0,(aR 1 (mI M s)))]) [.tO 3 1];have:=ct 10 [3,5,6,7,8,19] (λ_ s=>jf [(19,.sb s)]);exact wA (fZ [10,15]) func403 call403
instance c322 {mask}:CC M 322 (Ol mask) [sI mask] (λr=>.str r):=by
 have:=lo 5 [0,3,4] (λ_ (s:Int×ByteArray×Int)=>jf [(0,sI s.1),(3,.str s.2.1),(4,sI s.2.2)]);have:=ct 13 [0,3,4] (λ_ (s:Int×ByteArray)=>jf [(0,sI s.1),(3,.str s.2)]);have:=ct 23 [0,3,4] (λ_ s=>jf [(3,.str s)]);have:=ct 21 [0,3,4] (λ_ s=>jf [(3,.str s)]);exact wA (fZ [10,13,21,23]) func322 call322
instance an1 {j}{c1}{c2}{w1}{w2:List (List Bool)}:CC M 405 (yE j c1 c2 (λa0 a1=>tq a0 a1 w1 w2)) [sI j,.pp [sI c1],.pp [.sl 1 (M.m (List Bool) (eL M 1 eB) c2) false],.pp [.fn 455 [.pp [.sl 1 (mI M w1) false],.pp [.sl 1 (M.m (List Bool) (eL M 1 eB) w2) false]]]] (λr=>.sb r):=by
 exact wA fG func405 call405
instance c461 {c}{x}:CC M 461 (A7 c x) [.agg (rD M c),sI x] (λr=>sI r):=by
 have:=lo 5 [1,2,5,14,15] (λ_ (s:Int×Int)=>jf [(5,sI s.1),(15,sI s.2)]);have:=ct 12 [1,2,5,7,14,15] (λ_ s=>jf [(7,sI s)]);exact wA (fZ [10,12]) func461 call461
instance c252 {c}{a}:CC M 252 (qm c a) [.agg (jQ M c),.sl 1 (mI M a) false] (λr=>.sb r):=by
 have:=lo 2 [1,2,7,8,9] (λ_ s=>jf [(9,sI s)]);have:=ct 8 [1,2,7,8,9,29] (λ_ s=>jf [(29,.sb s)]);exact wA (fZ [8]) func252 call252
instance c188 {b}{tb}{a}{ta}:CC M 188 (PI b tb a ta) [.agg (jo M b),.agg (jd M tb),.agg (jo M a),.agg (jd M ta)] (λr=>.sb r):=by
 have:=ct 4 [5,7,9,28] (λ_ s=>jf [(28,.sb s)]);exact wA (fZ [4]) func188 call188
end Go.Proofs.YtchmoabpofnbaaaGreat
