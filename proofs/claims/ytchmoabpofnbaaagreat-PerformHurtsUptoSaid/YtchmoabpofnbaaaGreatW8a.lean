import Derived.Test.YtchmoabpofnbaaaGreatW7a
import Derived.Test.YtchmoabpofnbaaaGreatW7c
import Derived.Test.YtchmoabpofnbaaaGreatW7d
set_option linter.all false
namespace Go.Proofs.YtchmoabpofnbaaaGreat
open Go Go.Pv Proofs.Tryz
set_option maxRecDepth 100000
set_option maxHeartbeats 20000000
variable [GM]
attribute [local irreducible] bnd br jn qR ig jK lK jS rQ uY divO lu jR kY lD lU mg l9
variable {M:iO}[HM M]
instance aiS {w}{i}{stage}:CZ M 249 (oZ w i stage) [.lv 0 0,sI i,sI stage] [(0,(vR (iL M w.s++[iJ M w.forces,.os 1 0 (M.n gX w.iH),.os 2 0 (M.n Bool w.dropped),.os 3 0 (M.n Bool w.done),.os 4 0 (M.n (List Int) w.hits)]))),(1,(aR 17 (iK M w.iH))),(2,(aR 1 (M.m Bool eB w.dropped))),(3,(aR 1 (M.m Bool eB w.done))),(4,(aR 1 (M.m (List Int) (eL M 1 (eI .i64)) w.hits)))] 5 (λ_=>.EJ []) (λr=>[(0,(vR (iL M r.s++[iJ M r.forces,.os 1 0 (M.n gX r.iH),.os 2 0 (M.n Bool r.dropped),.os 3 0 (M.n Bool r.done),.os 4 0 (M.n (List Int) r.hits)]))),(1,(aR 17 (iK M r.iH))),(2,(aR 1 (M.m Bool eB r.dropped))),(3,(aR 1 (M.m Bool eB r.done))),(4,(aR 1 (M.m (List Int) (eL M 1 (eI .i64)) r.hits)))]) 5:=by
 have hM:=HM.h (M:=M);refine⟨λr O=>?_⟩;refine xe (T:=(FY 5 [23] [])) (iZ 5 [23] []) wf func249 rfl call249 rfl [] ?_;intro S R hS hR;have q:=sf hM hS;unfold oZ at O;cbv;refine jT hS O (cZ hM) jC jC rfl rfl rfl rfl ?_;intro y1 O;cbv;refine jT hS O (cZ hM) jC jC rfl rfl rfl rfl ?_;intro y2 O;cbv;refine jT hS O (cZ hM) jC jC rfl rfl rfl rfl ?_;intro y3 O;cbv;refine d_L (iZ 5 [23] []) [] [0,1,2,6,7,8,23,24,25] (λs4=>f4 92 [.lv 0 0,sI i,sI stage,.sl 1 (mI M y1) false,.os 5 0 (S.iD (mI M y2)),sI y3,.sl 1 (mI M y1) false,sI (S.len (mI M y1)),sI s4.1] [vR (iL M w.s++[iJ M w.forces,.os 1 0 (S.iD (iK M s4.2.1)),.os 2 0 (S.iD (M.m Bool eB s4.2.2)),.os 3 0 (S.iD (M.m Bool eB w.done)),.os 4 0 (S.iD (M.m (List Int) (eL M 1 (eI .i64)) w.hits))]),aR 17 (iK M s4.2.1),aR 1 (M.m Bool eB s4.2.2),aR 1 (M.m Bool eB w.done),aR 1 (M.m (List Int) (eL M 1 (eI .i64)) w.hits),aR 1 (mI M y2)]) O ?_;intro Ik5 k5 s4 hk5 O e he;subst he;unfold qI at O;cbv;refine pW ?_ ?_
 ·intro O;cbv;refine d_I ?_;intro x7 O;cbv;refine d_I ?_;intro x8 O;cbv;refine d_L (iZ 5 [23] []) [] [0,1,2,6,7,8,10,23,24,25,36,37,38] (λs9=>f4 92 [.lv 0 0,sI i,sI stage,.sl 1 (mI M y1) false,.os 5 0 (S.iD (mI M y2)),sI y3,sI x7,.sl 1 (mI M y1) false,sI (S.len (mI M y1)),sI s4.1,RF M x8.mQ,sI (S.len (UN M x8.mQ)),sI s9.1] [vR (iL M w.s++[iJ M w.forces,.os 1 0 (S.iD (iK M s9.2.1)),.os 2 0 (S.iD (M.m Bool eB s9.2.2)),.os 3 0 (S.iD (M.m Bool eB w.done)),.os 4 0 (S.iD (M.m (List Int) (eL M 1 (eI .i64)) w.hits))]),aR 17 (iK M s9.2.1),aR 1 (M.m Bool eB s9.2.2),aR 1 (M.m Bool eB w.done),aR 1 (M.m (List Int) (eL M 1 (eI .i64)) w.hits),aR 1 (mI M y2)]) O ?_;intro Ik10 k10 s9 hk10 O e he;subst he;unfold qH at O;cbv;refine pW ?_ ?_
  ·intro O;cbv;refine Bd [] [0,1,2,6,7,8,10,23,24,25,36,37,38] (λs12=>f4 92 [.lv 0 0,sI i,sI stage,.sl 1 (mI M y1) false,.os 5 0 (S.iD (mI M y2)),sI y3,sI x7,.sl 1 (mI M y1) false,sI (S.len (mI M y1)),sI s4.1,RF M x8.mQ,sI (S.len (UN M x8.mQ)),sI s9.1] [vR (iL M w.s++[iJ M w.forces,.os 1 0 (S.iD (iK M s12.1)),.os 2 0 (S.iD (M.m Bool eB s12.2)),.os 3 0 (S.iD (M.m Bool eB w.done)),.os 4 0 (S.iD (M.m (List Int) (eL M 1 (eI .i64)) w.hits))]),aR 17 (iK M s12.1),aR 1 (M.m Bool eB s12.2),aR 1 (M.m Bool eB w.done),aR 1 (M.m (List Int) (eL M 1 (eI .i64)) w.hits),aR 1 (mI M y2)]) O ?_ ?_
   intro Ik13 k13 hk13 O;cbv;refine d_I ?_;intro x15 O;cbv;refine FX hS O (cI hM) ?_;intro y16 O;cbv;refine pW ?_ ?_
   exact sV
   intro O;cbv;refine Ii hS ?_;cbv;refine nZ hS O mi rfl ?_;intro j17 _ O;cbv;refine kR hS hM O rfl mi ?_;intro x18 O;cbv;refine nZ hS O mi rfl ?_;intro j19 _ O;cbv;refine kR hS hM O rfl mi ?_;intro x20 O;cbv;refine d_c hS O (cI hM) ?_;intro y21 O;cbv;refine nZ hS O mi rfl ?_;intro j22 _ O;cbv;refine kR hS hM O rfl mi ?_;intro x23 O;cbv;refine pW ?_ ?_
   intro O;cbv;refine nZ hS O mi rfl ?_;intro j24 _ O;cbv;refine Nr hS (e:=eB) O ak ?_;intro x25 O;cbv;refine kR hS hM O rfl mi ?_;exact zK
   exact sV
   intro s12 O;cbv;exact uB
  exact sV
 intro O;cbv;refine Ii hS ?_;cbv;refine nZ hS O mi rfl ?_;intro j27 _ O;cbv;refine Nr hS (e:=eB) O ak ?_;intro x28 O;cbv;refine kR hS hM O rfl mi ?_;intro x29 O;cbv;refine nZ hS O mi rfl ?_;intro j30 _ O;cbv;refine kR hS hM O rfl mi ?_;intro x31 O;cbv;cases O;exact hR _ _ _ jC jC rfl
instance aiT {w}{i}{stage}:CZ M 333 (rf w i stage) [.lv 0 0,sI i,sI stage] [(0,(vR (iL M w.s++[iJ M w.forces,.os 1 0 (M.n gX w.iH),.os 2 0 (M.n Bool w.dropped),.os 3 0 (M.n Bool w.done),.os 4 0 (M.n (List Int) w.hits)]))),(1,(aR 17 (iK M w.iH))),(2,(aR 1 (M.m Bool eB w.dropped))),(3,(aR 1 (M.m Bool eB w.done))),(4,(aR 1 (M.m (List Int) (eL M 1 (eI .i64)) w.hits)))] 5 (λr=>.agg [.sb r.qy,.sl 1 (mI M r.hits) false,.os 5 0 (M.n Int r.numbers)]) (λr=>[(0,(vR (iL M w.s++[iJ M w.forces,.os 1 0 (M.n gX w.iH),.os 2 0 (M.n Bool w.dropped),.os 3 0 (M.n Bool w.done),.os 4 0 (M.n (List Int) w.hits)]))),(1,(aR 17 (iK M w.iH))),(2,(aR 1 (M.m Bool eB w.dropped))),(3,(aR 1 (M.m Bool eB w.done))),(4,(aR 1 (M.m (List Int) (eL M 1 (eI .i64)) w.hits))),(5,(aR 1 (mI M r.numbers)))]) 6:=by
 have hM:=HM.h (M:=M);refine⟨λr O=>?_⟩;refine xe (T:=(FY 5 [] [[(0,false),(0,false),(1,true)]])) (iZ 5 [] [[(0,false),(0,false),(1,true)]]) wf func333 rfl call333 rfl [] ?_;intro S R hS hR;have q:=sf hM hS;unfold rf at O;cbv;refine jT hS O (cZ hM) jC jC rfl rfl rfl rfl ?_;intro y1 O;cbv;refine jT hS O (cZ hM) jC jC rfl rfl rfl rfl ?_;intro y2 O;cbv;refine jT hS O (cZ hM) jC jC rfl rfl rfl rfl ?_;intro y3 O;cbv;cases O;exact hR _ _ _ jC jC rfl
instance c374 {c}{w}:CC M 374 (AO c w) [.agg (oK M c),.agg (jZ M w)] (λr=>.sl 1 (mI M r) false):=by
 have:=ct 8 [2,3,22] (λ_ s=>kG [(22,.sb s)]);have:=ct 22 [2,5,52] (λ_ s=>kG [(52,.sb s)]);exact wA (ja [8,22]) func374 call374
instance c333 {w}{i}{stage}:CC M 333 (xQ w i stage) [.pp (yB M w),sI i,sI stage] (λr=>.agg (oD M r)):=by
 exact wA iE func333 call333
instance c382 {l}:CC M 382 (O1 l) [RF M l] (λr=>.sb r):=by
 exact wA iE func382 call382
end Go.Proofs.YtchmoabpofnbaaaGreat
