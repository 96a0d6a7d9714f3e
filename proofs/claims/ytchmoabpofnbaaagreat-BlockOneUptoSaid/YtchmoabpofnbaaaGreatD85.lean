import Derived.Test.YtchmoabpofnbaaaGreatD82
import Derived.Test.YtchmoabpofnbaaaGreatD83
set_option linter.all false
namespace Go.Proofs.YtchmoabpofnbaaaGreat
open Go Go.Pv
set_option maxRecDepth 100000
set_option maxHeartbeats 20000000
variable [GM]
attribute [local irreducible] bnd br jn pI eH iI kD gW qx sG divO jU jc jM jD jR kK kE
variable {M:gm}[HM M]
instance aoo {w}{stage}:CZ M 169 (jy w stage) [.lv 0 0,sI stage] [(0,(vR (gG M w.s++[fU M w.forces,.os 1 0 (M.n eF w.eG),.os 2 0 (M.n Bool w.dropped),.os 3 0 (M.n Bool w.done),.os 4 0 (M.n (List Int) w.hits)]))),(1,(aR 17 (fQ M w.eG))),(2,(aR 1 (M.m Bool eB w.dropped))),(3,(aR 1 (M.m Bool eB w.done))),(4,(aR 1 (M.m (List Int) (eL M 1 (eI .i64)) w.hits)))] 5 (λr=>.os 5 0 (M.n Int r.1)) (λr=>[(0,(vR (gG M r.2.s++[fU M r.2.forces,.os 1 0 (M.n eF r.2.eG),.os 2 0 (M.n Bool r.2.dropped),.os 3 0 (M.n Bool r.2.done),.os 4 0 (M.n (List Int) r.2.hits)]))),(1,(aR 17 (fQ M r.2.eG))),(2,(aR 1 (M.m Bool eB r.2.dropped))),(3,(aR 1 (M.m Bool eB r.2.done))),(4,(aR 1 (M.m (List Int) (eL M 1 (eI .i64)) r.2.hits))),(5,(aR 1 (mI M r.1)))]) 6:=by
 have hM:=HM.h (M:=M);refine⟨λr U=>?_⟩;refine xY (T:=(Gh 5 [7,21] [[(1,true)]])) (gJ 5 [7,21] [[(1,true)]]) wf Tryz.func169 rfl Tryz.call169 rfl [] ?_;intro S R O hR;have q:=sf hM O;unfold jy at U;cbv;refine DJ [] [0,1] (λs1=>f4 63 [.lv 0 0,sI stage] [vR (gG M s1.s++[fU M s1.forces,.os 1 0 (S.fE (fQ M s1.eG)),.os 2 0 (S.fE (M.m Bool eB s1.dropped)),.os 3 0 (S.fE (M.m Bool eB s1.done)),.os 4 0 (S.fE (M.m (List Int) (eL M 1 (eI .i64)) s1.hits))]),aR 17 (fQ M s1.eG),aR 1 (M.m Bool eB s1.dropped),aR 1 (M.m Bool eB s1.done),aR 1 (M.m (List Int) (eL M 1 (eI .i64)) s1.hits)]) U ?_ ?_
 intro Ik2 k2 hk2 U;cbv;refine mP ?_ ?_
 intro U;cbv;refine jE O U (cZ hM) iU iU rfl rfl rfl rfl ?_;exact yX
 exact tY
 intro s1 U;cbv;refine Ji (gJ 5 [7,21] [[(1,true)]]) [.tO 5 1,.tO 7 1] [0,1,5,6,7,18,19,20] (λs5=>f4 63 [.lv 0 0,sI stage,.os 5 0 (S.fE (mI M s5.2.1)),.sl 0 [] true,.os 6 0 (S.fE (mI M s5.2.2)),fU M s1.forces,sI (S.len (sF M s1.forces)),sI s5.1] [vR (gG M s1.s++[fU M s1.forces,.os 1 0 (S.fE (fQ M s1.eG)),.os 2 0 (S.fE (M.m Bool eB s1.dropped)),.os 3 0 (S.fE (M.m Bool eB s1.done)),.os 4 0 (S.fE (M.m (List Int) (eL M 1 (eI .i64)) s1.hits))]),aR 17 (fQ M s1.eG),aR 1 (M.m Bool eB s1.dropped),aR 1 (M.m Bool eB s1.done),aR 1 (M.m (List Int) (eL M 1 (eI .i64)) s1.hits),aR 1 (mI M s5.2.1),aR 1 (mI M s5.2.2)]) U ?_;intro Ik6 k6 s5 hk6 U e he;subst he;unfold lK at U;cbv;refine mP ?_ ?_
 ·intro U;cbv;refine DJ [.tO 5 1,.tR 7] [0,1,5,6,7,18,19,20] (λs8=>f4 63 [.lv 0 0,sI stage,.os 5 0 (S.fE (mI M s8.1)),.sl 0 [] true,.os 6 0 (S.fE (mI M s8.2)),fU M s1.forces,sI (S.len (sF M s1.forces)),sI s5.1] [vR (gG M s1.s++[fU M s1.forces,.os 1 0 (S.fE (fQ M s1.eG)),.os 2 0 (S.fE (M.m Bool eB s1.dropped)),.os 3 0 (S.fE (M.m Bool eB s1.done)),.os 4 0 (S.fE (M.m (List Int) (eL M 1 (eI .i64)) s1.hits))]),aR 17 (fQ M s1.eG),aR 1 (M.m Bool eB s1.dropped),aR 1 (M.m Bool eB s1.done),aR 1 (M.m (List Int) (eL M 1 (eI .i64)) s1.hits),aR 1 (mI M s8.1),aR 1 (mI M s8.2)]) U ?_ ?_
  intro Ik9 k9 hk9 U;cbv;refine Kr ?_;intro x11 U;cbv;refine nM O U jW ?_;intro U;cbv;refine wo O U (cI hM) ?_;intro y12 U;cbv;refine xH ?_ ?_
  intro U;cbv;refine nM O U jW ?_;exact tY
  exact tY
  intro s8 U;cbv;exact uj
 intro U;cbv;refine Ji (gJ 5 [7,21] [[(1,true)]]) [.tR 7,.tO 6 1] [0,1,5,6,7] (λs13=>f4 63 [.lv 0 0,sI stage,.os 5 0 (S.fE (mI M s13.2.1)),.os 6 0 (S.fE (mI M s13.2.2.1)),.os 7 0 (S.fE (mI M s13.2.2.2))] [vR (gG M s13.1.s++[fU M s13.1.forces,.os 1 0 (S.fE (fQ M s13.1.eG)),.os 2 0 (S.fE (M.m Bool eB s13.1.dropped)),.os 3 0 (S.fE (M.m Bool eB s13.1.done)),.os 4 0 (S.fE (M.m (List Int) (eL M 1 (eI .i64)) s13.1.hits))]),aR 17 (fQ M s13.1.eG),aR 1 (M.m Bool eB s13.1.dropped),aR 1 (M.m Bool eB s13.1.done),aR 1 (M.m (List Int) (eL M 1 (eI .i64)) s13.1.hits),aR 1 (mI M s13.2.1),aR 1 (mI M s13.2.2.1),aR 1 (mI M s13.2.2.2)]) U ?_;intro Ik14 k14 s13 hk14 U e he;subst he;unfold vS at U;cbv;refine mP ?_ ?_
 intro U;cbv;refine jE O U (cZ hM) iU iU rfl rfl rfl rfl ?_;intro y16 U;cbv;refine Em O U (cI hM) NC (λ_=>rfl) ?_;intro y17 U;cbv;refine mP ?_ ?_
 exact dR
 intro U;cbv;refine jE O U (cZ hM) iU iU rfl rfl rfl rfl ?_;intro y18 U;cbv;refine nM O U jW ?_;intro U;cbv;refine akC O [(1,false),(0,true)] rfl ?_;cbv;refine jE O U (cZ hM) ah ah rfl rfl rfl rfl ?_;exact yX
 intro U;cbv;cases U;exact hR _ _ _ iU iU rfl
instance c240 {l}{n}:CC M 240 (Jw l n) [JH M l,sI n] (λr=>.sb r):=by
 have:=lo 2 [0,1,5] (λ_ s=>jf [(5,sI s)]);exact wA fG Tryz.func240 Tryz.call240
end Go.Proofs.YtchmoabpofnbaaaGreat
