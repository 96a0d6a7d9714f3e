import Derived.Test.YtchmoabpofnbaaaGreatD65
import Derived.Test.YtchmoabpofnbaaaGreatD66
set_option linter.all false
namespace Go.Proofs.YtchmoabpofnbaaaGreat
open Go Go.Pv
set_option maxRecDepth 100000
set_option maxHeartbeats 20000000
variable [GM]
attribute [local irreducible] bnd br jn pI eH iI kD gW qx sG divO jU jc jM jD jR kK kE
variable {M:gm}[HM M]
instance o211 {cards}{s}{all}{pe}:CZ M 211 (Uo cards s all pe) [lQ M cards,.agg (fM M s),kH M all,.agg (jT M pe)] [] 0 (λr=>.agg [.os 0 0 (M.n jl r.fV),.os 1 0 (M.n fD r.objects),.os 2 0 (M.n Int r.iF),.os 3 0 (M.n Int r.pG),.os 4 0 (M.n nJ r.stack),.os 5 0 (M.n gU r.waiting),.os 6 0 (M.n pF r.jB),sI r.turn,sI r.kX,sI r.step,.sb r.begun,sI r.priority,sI r.passes,sI r.nextId,sI r.jI,.si .u64 r.seed,.os 7 0 (M.n Int r.extra),sI r.over,sI r.oC]) (λr=>[(0,(aR 14 (kN M r.fV))),(1,(aR 19 (jO M r.objects))),(2,(aR 1 (mI M r.iF))),(3,(aR 1 (mI M r.pG))),(4,(aR 94 (rM M r.stack))),(5,(aR 89 (iQ M r.waiting))),(6,(aR 6 (wY M r.jB))),(7,(aR 1 (mI M r.extra)))]) 8:=by
 have hM:=HM.h (M:=M);refine⟨λr U=>?_⟩;refine Ad (T:=(Gh 0 [53] [[(14,true),(19,true),(1,true),(1,true),(94,true),(89,true),(6,true),(0,false),(0,false),(0,false),(0,false),(0,false),(0,false),(0,false),(0,false),(0,false),(1,true),(0,false),(0,false)]])) (gJ 0 [53] [[(14,true),(19,true),(1,true),(1,true),(94,true),(89,true),(6,true),(0,false),(0,false),(0,false),(0,false),(0,false),(0,false),(0,false),(0,false),(0,false),(1,true),(0,false),(0,false)]]) wf Tryz.func211 rfl Tryz.call211 rfl ?_;intro S R O hR;have q:=sf hM O;unfold Uo at U;cbv;refine jC O U (cZ hM) (le_eq rfl) ?_;intro y1 U;cbv;refine wo O U (cI hM) ?_;intro y2 U;cbv;refine mP ?_ ?_
 exact dR
 intro U;cbv;refine mP ?_ ?_
 exact dQ
 intro U;cbv;refine mP ?_ ?_
 exact dQ
 intro U;cbv;refine mP ?_ ?_
 exact dQ
 intro U;cbv;refine mP ?_ ?_
 exact dQ
 intro U;cbv;refine mP ?_ ?_
 exact dQ
 intro U;cbv;refine mP ?_ ?_
 exact dQ
 intro U;cbv;refine mP ?_ ?_
 exact dQ
 intro U;cbv;refine mP ?_ ?_
 exact dQ
 intro U;cbv;refine mP ?_ ?_
 exact dQ
 intro U;cbv;refine mP ?_ ?_
 exact dQ
 intro U;cbv;refine mP ?_ ?_
 exact dQ
 intro U;cbv;refine mP ?_ ?_
 exact dQ
 intro U;cbv;refine mP ?_ ?_
 exact dQ
 intro U;cbv;refine mP ?_ ?_
 intro U;cbv;refine DJ [] [7,8,9] (λs3=>f4 85 [.lv 0 0,.lv 1 0,.lv 2 0] [vR (jT M pe),vR [.sl 0 [] true,.sl 0 [] true,.sl 0 [] true,.sl 0 [] true,.sl 0 [] true,.sl 0 [] true,.sl 0 [] true,sI 0,sI 0,sI 0,.sb false,sI 0,sI 0,sI 0,sI 0,.si .u64 0,.sl 0 [] true,sI 0,sI 0],vR [.os 3 0 (S.fE (kN M y1.fV)),.os 4 0 (S.fE (jO M s3)),.os 5 0 (S.fE (mI M y1.iF)),.os 6 0 (S.fE (mI M y1.pG)),.os 7 0 (S.fE (rM M y1.stack)),.os 8 0 (S.fE (iQ M y1.waiting)),.os 9 0 (S.fE (wY M y1.jB)),sI y1.turn,sI y1.kX,sI y1.step,.sb y1.begun,sI y1.priority,sI y1.passes,sI y1.nextId,sI y1.jI,.si .u64 y1.seed,.os 10 0 (S.fE (mI M y1.extra)),sI y1.over,sI y1.oC],aR 14 (kN M y1.fV),aR 19 (jO M s3),aR 1 (mI M y1.iF),aR 1 (mI M y1.pG),aR 94 (rM M y1.stack),aR 89 (iQ M y1.waiting),aR 6 (wY M y1.jB),aR 1 (mI M y1.extra)]) U ?_ ?_
 intro Ik4 k4 hk4 U;cbv;refine jE O U (cZ hM) iU iU rfl rfl rfl rfl ?_;intro y6 U;rcases y6 with _|j7
 cbv;exact uj
 cbv;refine Fa O ?_;cbv;refine Kq O U (cI hM) ?_;intro y8 U;cbv;refine ab4 O U (cZ hM) iU iU rfl rfl ?_;intro y9 he U;have q:=And.intro q (nT am7 he).symm;cbv;exact uj
 intro s3 U;cbv;refine jE O U (cZ hM) iU iU rfl rfl rfl rfl ?_;intro y10 U;rcases y10 with _|j11
 cbv;refine mP ?_ ?_
 exact dR
 intro U;cbv;cases U;exact hR _ _ _ iU iU rfl
 cbv;refine mP ?_ ?_
 intro U;cbv;refine LV O (e:=eB) U ah ?_;intro x12 U;cbv;refine jv O hM U rfl rfl ?_;intro x13 U;cbv;cases U;exact hR _ _ _ iU iU rfl
 intro U;cbv;cases U;exact hR _ _ _ iU iU rfl
 intro U;cbv;cases U;exact hR _ _ _ iU iU rfl
instance aoj {w}{i}{stage}:CZ M 338 (pW w i stage) [.lv 0 0,sI i,sI stage] [(0,(vR (gG M w.s++[fU M w.forces,.os 1 0 (M.n eF w.eG),.os 2 0 (M.n Bool w.dropped),.os 3 0 (M.n Bool w.done),.os 4 0 (M.n (List Int) w.hits)]))),(1,(aR 17 (fQ M w.eG))),(2,(aR 1 (M.m Bool eB w.dropped))),(3,(aR 1 (M.m Bool eB w.done))),(4,(aR 1 (M.m (List Int) (eL M 1 (eI .i64)) w.hits)))] 5 (λr=>.os 5 0 (M.n Int r)) (λr=>[(0,(vR (gG M w.s++[fU M w.forces,.os 1 0 (M.n eF w.eG),.os 2 0 (M.n Bool w.dropped),.os 3 0 (M.n Bool w.done),.os 4 0 (M.n (List Int) w.hits)]))),(1,(aR 17 (fQ M w.eG))),(2,(aR 1 (M.m Bool eB w.dropped))),(3,(aR 1 (M.m Bool eB w.done))),(4,(aR 1 (M.m (List Int) (eL M 1 (eI .i64)) w.hits))),(5,(aR 1 (mI M r)))]) 6:=by
 have:=lo 4 [0,1,2,7,8,23,24,25] (λ_ (s:Int×(List Int))=>up [(8,.os 6 0 (M.n Int s.2)),(25,sI s.1)] [(6,(aR 1 (mI M s.2)))]);have:=ct 17 [0,1,2,7,8,23,24,25] (λ_ s=>up [(8,.os 6 0 (M.n Int s))] [(6,(aR 1 (mI M s)))]);have:=ct 12 [0,1,2,7,8,9,10,23,24,25,39] (λ_ s=>jf [(39,.sb s)]);exact wC (gJ 5 [12,17] [[(1,true)]]) Tryz.func338 Tryz.call338 []
end Go.Proofs.YtchmoabpofnbaaaGreat
namespace Go.Proofs.YtchmoabpofnbaaaGreat
open Go Go.Pv Proofs.Tryz
set_option maxRecDepth 100000
set_option maxHeartbeats 20000000
variable [GM]
attribute [local irreducible] bnd br jn pI eH iI kD gW qx sG divO jU jc jM jD jR kK kE
variable {M:gm}[HM M]
instance c273 {w}{i}{stage}:CC M 273 (uw w i stage) [.agg (jG M w),sI i,sI stage] (λr=>.sl 1 (mI M r) false):=by
 have:=lo 4 [1,2,3,7,8,9] (λ_ (s:Int×(List Int))=>up [(7,.os 1 0 (M.n Int s.2)),(9,sI s.1)] [(1,(aR 1 (mI M s.2)))]);have:=ct 11 [1,2,3,7,8,9] (λ_ s=>up [(7,.os 1 0 (M.n Int s))] [(1,(aR 1 (mI M s)))]);have:=ct 21 [1,2,3,7,8,9,10] (λ_ s=>jf [(10,sI s)]);exact wA (fZ [11,21]) func273 call273
instance c247 {left}{stamps}{needs}:CC M 247 (JD left stamps needs) [.sl 1 (mI M left) false,.sl 1 (mI M stamps) false,.sl 1 (M.m (List Bool) (eL M 1 eB) needs) false] (λr=>sI r):=by
 have:=lo 3 [1,7,14,15,16] (λ_ (s:Int×Int)=>jf [(7,sI s.1),(16,sI s.2)]);have:=ct 21 [1,7,14,15,16] (λ_ s=>jf [(7,sI s)]);have:=ct 16 [1,7,9,14,15,16,41] (λ_ s=>jf [(41,.sb s)]);exact wA (fZ [16,21]) func247 call247
instance c167 {l}:CC M 167 (uy l) [OH M l] (λr=>.str r):=by
 have:=ct 2 [0,12] (λ_ s=>jf [(12,.sb s)]);have:=lo 5 [0,3,4] (λ_ (s:ByteArray×Int)=>jf [(3,.str s.1),(4,sI s.2)]);have:=ct 13 [0,3,4] (λ_ s=>jf [(3,.str s)]);have:=ct 23 [0,3,4] (λ_ s=>jf [(3,.str s)]);exact wA (fZ [2,13,23]) func167 call167
instance c443 {kind}{id}{s}{all}{c4}{c5}:CC M 443 (mF kind id s all c4 c5) [sI kind,sI id,.agg (gG M s),kH M all,.pp (nY M c4),.pp (jK M c5)] (λr=>.sl 1 (mI M r) false):=by
 exact wA fG func443 call443
instance c238 {pr}:CC M 238 (aav pr) [.agg (qR M pr)] (λr=>.sb r):=by
 have:=ct 12 [1,3,4] (λ_ (s:Bool×Bool)=>jf [(3,.sb s.1),(4,.sb s.2)]);have:=ct 18 [1,3,51] (λ_ s=>jf [(51,.sb s)]);exact wA (fZ [12,18]) func238 call238
instance c19 {a}{b}:CC M 19 (RS a b) [.agg (fM M a),.agg (fM M b)] (λr=>.sb r):=by
 have:=ct 2 [2,3,79] (λ_ s=>jf [(79,.sb s)]);exact wA (fZ [2]) func19 call19
end Go.Proofs.YtchmoabpofnbaaaGreat
