import Derived.Test.YtchmoabpofnbaaaGreatW6a
import Derived.Test.YtchmoabpofnbaaaGreatW6d
set_option linter.all false
namespace Go.Proofs.YtchmoabpofnbaaaGreat
open Go Go.Pv Proofs.Tryz
set_option maxRecDepth 100000
set_option maxHeartbeats 20000000
variable [GM]
attribute [local irreducible] bnd br jn qR ig jK lK jS rQ uY divO lu jR kY lD lU mg l9
variable {M:iO}[HM M]
instance aiQ {w}{i}:CZ M 337 (nO w i) [.lv 0 0,sI i] [(0,(vR (iL M w.s++[iJ M w.forces,.os 1 0 (M.n gX w.iH),.os 2 0 (M.n Bool w.dropped),.os 3 0 (M.n Bool w.done),.os 4 0 (M.n (List Int) w.hits)]))),(1,(aR 17 (iK M w.iH))),(2,(aR 1 (M.m Bool eB w.dropped))),(3,(aR 1 (M.m Bool eB w.done))),(4,(aR 1 (M.m (List Int) (eL M 1 (eI .i64)) w.hits)))] 5 (λr=>.sl 1 (mI M r) false) (λ_=>[(0,(vR (iL M w.s++[iJ M w.forces,.os 1 0 (M.n gX w.iH),.os 2 0 (M.n Bool w.dropped),.os 3 0 (M.n Bool w.done),.os 4 0 (M.n (List Int) w.hits)]))),(1,(aR 17 (iK M w.iH))),(2,(aR 1 (M.m Bool eB w.dropped))),(3,(aR 1 (M.m Bool eB w.done))),(4,(aR 1 (M.m (List Int) (eL M 1 (eI .i64)) w.hits)))]) 5:=by
 have hM:=HM.h (M:=M);refine⟨λr O=>?_⟩;refine xe (T:=(FY 5 [20,25] [[(0,true)]])) (iZ 5 [20,25] [[(0,true)]]) wf func337 rfl call337 rfl [] ?_;intro S R hS hR;have q:=sf hM hS;unfold nO at O;cbv;refine nZ hS O mi rfl ?_;intro j1 _ O;cbv;refine kR hS hM O rfl mi ?_;intro x2 O;cbv;refine vH ?_ ?_
 intro O;cbv;refine nZ hS O mi rfl ?_;intro j3 _ O;cbv;refine kR hS hM O rfl mi ?_;intro x4 O;cbv;cases O;exact hR _ _ _ ak ak rfl
 intro O;cbv;refine jT hS O (cZ hM) jC jC rfl rfl rfl rfl ?_;intro y5 O;cbv;refine pW ?_ ?_
 intro O;cbv;cases O;exact hR _ _ _ ak ak rfl
 intro O;cbv;refine Ii hS ?_;cbv;refine d_I ?_;intro x6 O;cbv;refine abd hS O (cI hM) LU (λ_=>rfl) ?_;intro y7 O;cbv;refine d_L (iZ 5 [20,25] [[(0,true)]]) [.tO 7 1] [0,5,6,7,42,43,44] (λs8=>f4 90 [.lv 0 0,.lv 5 0,sI y7,.os 6 0 (S.iD (mI M s8.2)),pR M w.s.objects,sI (S.len (mO M w.s.objects)),sI s8.1] [vR (iL M w.s++[iJ M w.forces,.os 1 0 (S.iD (iK M w.iH)),.os 2 0 (S.iD (M.m Bool eB w.dropped)),.os 3 0 (S.iD (M.m Bool eB w.done)),.os 4 0 (S.iD (M.m (List Int) (eL M 1 (eI .i64)) w.hits))]),aR 17 (iK M w.iH),aR 1 (M.m Bool eB w.dropped),aR 1 (M.m Bool eB w.done),aR 1 (M.m (List Int) (eL M 1 (eI .i64)) w.hits),vR (pJ M x6),aR 1 (mI M s8.2)]) O ?_;intro Ik9 k9 s8 hk9 O e he;subst he;unfold pM at O;cbv;refine pW ?_ ?_
 ·intro O;cbv;refine Bd [.tO 7 1] [0,5,6,7,42,43,44] (λs11=>f4 90 [.lv 0 0,.lv 5 0,sI y7,.os 6 0 (S.iD (mI M s11)),pR M w.s.objects,sI (S.len (mO M w.s.objects)),sI s8.1] [vR (iL M w.s++[iJ M w.forces,.os 1 0 (S.iD (iK M w.iH)),.os 2 0 (S.iD (M.m Bool eB w.dropped)),.os 3 0 (S.iD (M.m Bool eB w.done)),.os 4 0 (S.iD (M.m (List Int) (eL M 1 (eI .i64)) w.hits))]),aR 17 (iK M w.iH),aR 1 (M.m Bool eB w.dropped),aR 1 (M.m Bool eB w.done),aR 1 (M.m (List Int) (eL M 1 (eI .i64)) w.hits),vR (pJ M x6),aR 1 (mI M s11)]) O ?_ ?_
  ·intro Ik12 k12 hk12 O;cbv;refine d_I ?_;intro x14 O;cbv;refine Bd [] [0,5,6,7,8,42,43,44,83] (λs15=>f4 90 [.lv 0 0,.lv 5 0,sI y7,.os 6 0 (S.iD (mI M s8.2)),sI s8.1,pR M w.s.objects,sI (S.len (mO M w.s.objects)),sI s8.1,.sb s15] [vR (iL M w.s++[iJ M w.forces,.os 1 0 (S.iD (iK M w.iH)),.os 2 0 (S.iD (M.m Bool eB w.dropped)),.os 3 0 (S.iD (M.m Bool eB w.done)),.os 4 0 (S.iD (M.m (List Int) (eL M 1 (eI .i64)) w.hits))]),aR 17 (iK M w.iH),aR 1 (M.m Bool eB w.dropped),aR 1 (M.m Bool eB w.done),aR 1 (M.m (List Int) (eL M 1 (eI .i64)) w.hits),vR (pJ M x6),aR 1 (mI M s8.2)]) O ?_ ?_
   intro Ik16 k16 hk16 O;cbv;refine Ii hS ?_;cbv;refine pW ?_ ?_
   intro O;cbv;refine vH ?_ ?_
   intro O;cbv;refine d_c hS O (cI hM) ?_;intro y18 O;cbv;refine vH ?_ ?_
   exact sV
   intro O;cbv;refine pW ?_ ?_
   intro O;cbv;refine nZ hS O mi rfl ?_;intro j19 _ O;cbv;refine kR hS hM O rfl mi ?_;intro x20 O;cbv;refine d_c hS O (cI hM) ?_;exact zK
   exact sV
   intro O;cbv;refine pW ?_ ?_
   intro O;cbv;refine nZ hS O mi rfl ?_;intro j22 _ O;cbv;refine kR hS hM O rfl mi ?_;intro x23 O;cbv;refine d_c hS O (cI hM) ?_;exact zK
   exact sV
   exact sV
   intro s15 O;cbv;refine vH ?_ ?_
   intro O;cbv;refine rU hS O mi ?_;exact sV
   exact sV
  intro s11 O;cbv;exact uB
 intro O;cbv;cases O;exact hR _ _ _ ak ak rfl
instance aiR {w}{i}{stage}:CZ M 338 (pO w i stage) [.lv 0 0,sI i,sI stage] [(0,(vR (iL M w.s++[iJ M w.forces,.os 1 0 (M.n gX w.iH),.os 2 0 (M.n Bool w.dropped),.os 3 0 (M.n Bool w.done),.os 4 0 (M.n (List Int) w.hits)]))),(1,(aR 17 (iK M w.iH))),(2,(aR 1 (M.m Bool eB w.dropped))),(3,(aR 1 (M.m Bool eB w.done))),(4,(aR 1 (M.m (List Int) (eL M 1 (eI .i64)) w.hits)))] 5 (λr=>.os 5 0 (M.n Int r)) (λr=>[(0,(vR (iL M w.s++[iJ M w.forces,.os 1 0 (M.n gX w.iH),.os 2 0 (M.n Bool w.dropped),.os 3 0 (M.n Bool w.done),.os 4 0 (M.n (List Int) w.hits)]))),(1,(aR 17 (iK M w.iH))),(2,(aR 1 (M.m Bool eB w.dropped))),(3,(aR 1 (M.m Bool eB w.done))),(4,(aR 1 (M.m (List Int) (eL M 1 (eI .i64)) w.hits))),(5,(aR 1 (mI M r)))]) 6:=by
 have:=lo 4 [0,1,2,7,8,23,24,25] (λ_ (s:Int×(List Int))=>up [(8,.os 6 0 (M.n Int s.2)),(25,sI s.1)] [(6,(aR 1 (mI M s.2)))]);have:=ct 17 [0,1,2,7,8,23,24,25] (λ_ s=>up [(8,.os 6 0 (M.n Int s))] [(6,(aR 1 (mI M s)))]);have:=ct 12 [0,1,2,7,8,9,10,23,24,25,39] (λ_ s=>kG [(39,.sb s)]);exact wC (iZ 5 [12,17] [[(1,true)]]) func338 call338 []
instance c338 {w}{i}{stage}:CC M 338 (uq w i stage) [.pp (yB M w),sI i,sI stage] (λr=>.sl 1 (mI M r) false):=by
 have:=lo 4 [0,1,2,7,8,23,24,25] (λ_ (s:Int×(List Int))=>up [(8,.os 1 0 (M.n Int s.2)),(25,sI s.1)] [(1,(aR 1 (mI M s.2)))]);have:=ct 17 [0,1,2,7,8,23,24,25] (λ_ s=>up [(8,.os 1 0 (M.n Int s))] [(1,(aR 1 (mI M s)))]);have:=ct 12 [0,1,2,7,8,9,10,23,24,25,39] (λ_ s=>kG [(39,.sb s)]);exact wA (ja [12,17]) func338 call338
end Go.Proofs.YtchmoabpofnbaaaGreat
