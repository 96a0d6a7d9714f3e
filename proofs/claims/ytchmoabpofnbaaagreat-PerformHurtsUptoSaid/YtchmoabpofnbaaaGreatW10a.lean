import Derived.Test.YtchmoabpofnbaaaGreatW9a
import Derived.Test.YtchmoabpofnbaaaGreatW9b
set_option linter.all false
namespace Go.Proofs.YtchmoabpofnbaaaGreat
open Go Go.Pv Proofs.Tryz
set_option maxRecDepth 100000
set_option maxHeartbeats 20000000
variable [GM]
attribute [local irreducible] bnd br jn qR ig jK lK jS rQ uY divO lu jR kY lD lU mg l9
variable {M:iO}[HM M]
instance aiV {w}{stage}:CZ M 169 (jV w stage) [.lv 0 0,sI stage] [(0,(vR (iL M w.s++[iJ M w.forces,.os 1 0 (M.n gX w.iH),.os 2 0 (M.n Bool w.dropped),.os 3 0 (M.n Bool w.done),.os 4 0 (M.n (List Int) w.hits)]))),(1,(aR 17 (iK M w.iH))),(2,(aR 1 (M.m Bool eB w.dropped))),(3,(aR 1 (M.m Bool eB w.done))),(4,(aR 1 (M.m (List Int) (eL M 1 (eI .i64)) w.hits)))] 5 (λr=>.os 5 0 (M.n Int r.1)) (λr=>[(0,(vR (iL M r.2.s++[iJ M r.2.forces,.os 1 0 (M.n gX r.2.iH),.os 2 0 (M.n Bool r.2.dropped),.os 3 0 (M.n Bool r.2.done),.os 4 0 (M.n (List Int) r.2.hits)]))),(1,(aR 17 (iK M r.2.iH))),(2,(aR 1 (M.m Bool eB r.2.dropped))),(3,(aR 1 (M.m Bool eB r.2.done))),(4,(aR 1 (M.m (List Int) (eL M 1 (eI .i64)) r.2.hits))),(5,(aR 1 (mI M r.1)))]) 6:=by
 have hM:=HM.h (M:=M);refine⟨λr O=>?_⟩;refine xe (T:=(FY 5 [7,21] [[(1,true)]])) (iZ 5 [7,21] [[(1,true)]]) wf func169 rfl call169 rfl [] ?_;intro S R hS hR;have q:=sf hM hS;unfold jV at O;cbv;refine Bd [] [0,1] (λs1=>f4 63 [.lv 0 0,sI stage] [vR (iL M s1.s++[iJ M s1.forces,.os 1 0 (S.iD (iK M s1.iH)),.os 2 0 (S.iD (M.m Bool eB s1.dropped)),.os 3 0 (S.iD (M.m Bool eB s1.done)),.os 4 0 (S.iD (M.m (List Int) (eL M 1 (eI .i64)) s1.hits))]),aR 17 (iK M s1.iH),aR 1 (M.m Bool eB s1.dropped),aR 1 (M.m Bool eB s1.done),aR 1 (M.m (List Int) (eL M 1 (eI .i64)) s1.hits)]) O ?_ ?_
 intro Ik2 k2 hk2 O;cbv;refine pW ?_ ?_
 intro O;cbv;refine jT hS O (cZ hM) jC jC rfl rfl rfl rfl ?_;exact zK
 exact sV
 intro s1 O;cbv;refine d_L (iZ 5 [7,21] [[(1,true)]]) [.tO 5 1,.tO 7 1] [0,1,5,6,7,18,19,20] (λs5=>f4 63 [.lv 0 0,sI stage,.os 5 0 (S.iD (mI M s5.2.1)),.sl 0 [] true,.os 6 0 (S.iD (mI M s5.2.2)),iJ M s1.forces,sI (S.len (xE M s1.forces)),sI s5.1] [vR (iL M s1.s++[iJ M s1.forces,.os 1 0 (S.iD (iK M s1.iH)),.os 2 0 (S.iD (M.m Bool eB s1.dropped)),.os 3 0 (S.iD (M.m Bool eB s1.done)),.os 4 0 (S.iD (M.m (List Int) (eL M 1 (eI .i64)) s1.hits))]),aR 17 (iK M s1.iH),aR 1 (M.m Bool eB s1.dropped),aR 1 (M.m Bool eB s1.done),aR 1 (M.m (List Int) (eL M 1 (eI .i64)) s1.hits),aR 1 (mI M s5.2.1),aR 1 (mI M s5.2.2)]) O ?_;intro Ik6 k6 s5 hk6 O e he;subst he;unfold qN at O;cbv;refine pW ?_ ?_
 ·intro O;cbv;refine Bd [.tO 5 1,.tR 7] [0,1,5,6,7,18,19,20] (λs8=>f4 63 [.lv 0 0,sI stage,.os 5 0 (S.iD (mI M s8.1)),.sl 0 [] true,.os 6 0 (S.iD (mI M s8.2)),iJ M s1.forces,sI (S.len (xE M s1.forces)),sI s5.1] [vR (iL M s1.s++[iJ M s1.forces,.os 1 0 (S.iD (iK M s1.iH)),.os 2 0 (S.iD (M.m Bool eB s1.dropped)),.os 3 0 (S.iD (M.m Bool eB s1.done)),.os 4 0 (S.iD (M.m (List Int) (eL M 1 (eI .i64)) s1.hits))]),aR 17 (iK M s1.iH),aR 1 (M.m Bool eB s1.dropped),aR 1 (M.m Bool eB s1.done),aR 1 (M.m (List Int) (eL M 1 (eI .i64)) s1.hits),aR 1 (mI M s8.1),aR 1 (mI M s8.2)]) O ?_ ?_
  intro Ik9 k9 hk9 O;cbv;refine d_I ?_;intro x11 O;cbv;refine rU hS O mi ?_;intro O;cbv;refine FX hS O (cI hM) ?_;intro y12 O;cbv;refine vH ?_ ?_
  intro O;cbv;refine rU hS O mi ?_;exact sV
  exact sV
  intro s8 O;cbv;exact uB
 intro O;cbv;refine d_L (iZ 5 [7,21] [[(1,true)]]) [.tR 7,.tO 6 1] [0,1,5,6,7] (λs13=>f4 63 [.lv 0 0,sI stage,.os 5 0 (S.iD (mI M s13.2.1)),.os 6 0 (S.iD (mI M s13.2.2.1)),.os 7 0 (S.iD (mI M s13.2.2.2))] [vR (iL M s13.1.s++[iJ M s13.1.forces,.os 1 0 (S.iD (iK M s13.1.iH)),.os 2 0 (S.iD (M.m Bool eB s13.1.dropped)),.os 3 0 (S.iD (M.m Bool eB s13.1.done)),.os 4 0 (S.iD (M.m (List Int) (eL M 1 (eI .i64)) s13.1.hits))]),aR 17 (iK M s13.1.iH),aR 1 (M.m Bool eB s13.1.dropped),aR 1 (M.m Bool eB s13.1.done),aR 1 (M.m (List Int) (eL M 1 (eI .i64)) s13.1.hits),aR 1 (mI M s13.2.1),aR 1 (mI M s13.2.2.1),aR 1 (mI M s13.2.2.2)]) O ?_;intro Ik14 k14 s13 hk14 O e he;subst he;unfold uP at O;cbv;refine pW ?_ ?_
 intro O;cbv;refine jT hS O (cZ hM) jC jC rfl rfl rfl rfl ?_;intro y16 O;cbv;refine D6 hS O (cI hM) LU (λ_=>rfl) ?_;intro y17 O;cbv;refine pW ?_ ?_
 exact fQ
 intro O;cbv;refine jT hS O (cZ hM) jC jC rfl rfl rfl rfl ?_;intro y18 O;cbv;refine rU hS O mi ?_;intro O;cbv;refine adA hS [(1,false),(0,true)] rfl ?_;cbv;refine jT hS O (cZ hM) ak ak rfl rfl rfl rfl ?_;exact zK
 intro O;cbv;cases O;exact hR _ _ _ jC jC rfl
end Go.Proofs.YtchmoabpofnbaaaGreat
