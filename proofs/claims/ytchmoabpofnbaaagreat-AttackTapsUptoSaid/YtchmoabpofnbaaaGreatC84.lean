import Derived.Test.YtchmoabpofnbaaaGreatC81
import Derived.Test.YtchmoabpofnbaaaGreatC82
set_option linter.all false
namespace Go.Proofs.YtchmoabpofnbaaaGreat
open Go Go.Pv
set_option maxRecDepth 100000
set_option maxHeartbeats 20000000
variable [GM]
attribute [local irreducible] bnd br jn oL loopF iq jS gu pO rG divO jF iO jA jm jE jY jU
variable {M:fP}[HM M]
instance am4 {w}{stage}:CZ M 169 (ji w stage) [.lv 0 0,sI stage] [(0,(vR (fV M w.s++[fK M w.forces,.os 1 0 (M.n eQ w.traits),.os 2 0 (M.n Bool w.dropped),.os 3 0 (M.n Bool w.done),.os 4 0 (M.n (List Int) w.hits)]))),(1,(aR 17 (fJ M w.traits))),(2,(aR 1 (M.m Bool eB w.dropped))),(3,(aR 1 (M.m Bool eB w.done))),(4,(aR 1 (M.m (List Int) (eL M 1 (eI .i64)) w.hits)))] 5 (λr=>.os 5 0 (M.n Int r.1)) (λr=>[(0,(vR (fV M r.2.s++[fK M r.2.forces,.os 1 0 (M.n eQ r.2.traits),.os 2 0 (M.n Bool r.2.dropped),.os 3 0 (M.n Bool r.2.done),.os 4 0 (M.n (List Int) r.2.hits)]))),(1,(aR 17 (fJ M r.2.traits))),(2,(aR 1 (M.m Bool eB r.2.dropped))),(3,(aR 1 (M.m Bool eB r.2.done))),(4,(aR 1 (M.m (List Int) (eL M 1 (eI .i64)) r.2.hits))),(5,(aR 1 (mI M r.1)))]) 6:=by
 have hM:=HM.h (M:=M);refine⟨λr U=>?_⟩;refine xw (T:=(Fg 5 [7,21] [[(1,true)]])) (gp 5 [7,21] [[(1,true)]]) wf Tryz.func169 rfl Tryz.call169 rfl [] ?_;intro S R hS hR;have q:=sf hM hS;unfold ji at U;cbv;refine yE [] [0,1] (λs1=>f4 63 [.lv 0 0,sI stage] [vR (fV M s1.s++[fK M s1.forces,.os 1 0 (S.fE (fJ M s1.traits)),.os 2 0 (S.fE (M.m Bool eB s1.dropped)),.os 3 0 (S.fE (M.m Bool eB s1.done)),.os 4 0 (S.fE (M.m (List Int) (eL M 1 (eI .i64)) s1.hits))]),aR 17 (fJ M s1.traits),aR 1 (M.m Bool eB s1.dropped),aR 1 (M.m Bool eB s1.done),aR 1 (M.m (List Int) (eL M 1 (eI .i64)) s1.hits)]) U ?_ ?_
 intro Ik2 k2 hk2 U;cbv;refine kQ ?_ ?_
 intro U;cbv;refine iR hS U (cZ hM) gX gX rfl rfl rfl rfl ?_;exact sK
 exact pW
 intro s1 U;cbv;refine Gg (gp 5 [7,21] [[(1,true)]]) [.tO 5 1,.tO 7 1] [0,1,5,6,7,18,19,20] (λs5=>f4 63 [.lv 0 0,sI stage,.os 5 0 (S.fE (mI M s5.2.1)),.sl 0 [] true,.os 6 0 (S.fE (mI M s5.2.2)),fK M s1.forces,sI (S.len (rF M s1.forces)),sI s5.1] [vR (fV M s1.s++[fK M s1.forces,.os 1 0 (S.fE (fJ M s1.traits)),.os 2 0 (S.fE (M.m Bool eB s1.dropped)),.os 3 0 (S.fE (M.m Bool eB s1.done)),.os 4 0 (S.fE (M.m (List Int) (eL M 1 (eI .i64)) s1.hits))]),aR 17 (fJ M s1.traits),aR 1 (M.m Bool eB s1.dropped),aR 1 (M.m Bool eB s1.done),aR 1 (M.m (List Int) (eL M 1 (eI .i64)) s1.hits),aR 1 (mI M s5.2.1),aR 1 (mI M s5.2.2)]) U ?_;intro Ik6 k6 s5 hk6 U e he;subst he;unfold kW at U;cbv;refine kQ ?_ ?_
 ·intro U;cbv;refine yE [.tO 5 1,.tR 7] [0,1,5,6,7,18,19,20] (λs8=>f4 63 [.lv 0 0,sI stage,.os 5 0 (S.fE (mI M s8.1)),.sl 0 [] true,.os 6 0 (S.fE (mI M s8.2)),fK M s1.forces,sI (S.len (rF M s1.forces)),sI s5.1] [vR (fV M s1.s++[fK M s1.forces,.os 1 0 (S.fE (fJ M s1.traits)),.os 2 0 (S.fE (M.m Bool eB s1.dropped)),.os 3 0 (S.fE (M.m Bool eB s1.done)),.os 4 0 (S.fE (M.m (List Int) (eL M 1 (eI .i64)) s1.hits))]),aR 17 (fJ M s1.traits),aR 1 (M.m Bool eB s1.dropped),aR 1 (M.m Bool eB s1.done),aR 1 (M.m (List Int) (eL M 1 (eI .i64)) s1.hits),aR 1 (mI M s8.1),aR 1 (mI M s8.2)]) U ?_ ?_
  intro Ik9 k9 hk9 U;cbv;refine zT ?_;intro x11 U;cbv;refine nG hS U jJ ?_;intro U;cbv;refine qZ hS U (cI hM) ?_;intro y12 U;cbv;refine rf ?_ ?_
  intro U;cbv;refine nG hS U jJ ?_;exact pW
  exact pW
  intro s8 U;cbv;exact sN
 intro U;cbv;refine Gg (gp 5 [7,21] [[(1,true)]]) [.tR 7,.tO 6 1] [0,1,5,6,7] (λs13=>f4 63 [.lv 0 0,sI stage,.os 5 0 (S.fE (mI M s13.2.1)),.os 6 0 (S.fE (mI M s13.2.2.1)),.os 7 0 (S.fE (mI M s13.2.2.2))] [vR (fV M s13.1.s++[fK M s13.1.forces,.os 1 0 (S.fE (fJ M s13.1.traits)),.os 2 0 (S.fE (M.m Bool eB s13.1.dropped)),.os 3 0 (S.fE (M.m Bool eB s13.1.done)),.os 4 0 (S.fE (M.m (List Int) (eL M 1 (eI .i64)) s13.1.hits))]),aR 17 (fJ M s13.1.traits),aR 1 (M.m Bool eB s13.1.dropped),aR 1 (M.m Bool eB s13.1.done),aR 1 (M.m (List Int) (eL M 1 (eI .i64)) s13.1.hits),aR 1 (mI M s13.2.1),aR 1 (mI M s13.2.2.1),aR 1 (mI M s13.2.2.2)]) U ?_;intro Ik14 k14 s13 hk14 U e he;subst he;unfold uY at U;cbv;refine kQ ?_ ?_
 intro U;cbv;refine iR hS U (cZ hM) gX gX rfl rfl rfl rfl ?_;intro y16 U;cbv;refine AV hS U (cI hM) JB (λ_=>rfl) ?_;intro y17 U;cbv;refine kQ ?_ ?_
 exact eF
 intro U;cbv;refine iR hS U (cZ hM) gX gX rfl rfl rfl rfl ?_;intro y18 U;cbv;refine nG hS U jJ ?_;intro U;cbv;refine ai7 hS [(1,false),(0,true)] rfl ?_;cbv;refine iR hS U (cZ hM) ah ah rfl rfl rfl rfl ?_;exact sK
 intro U;cbv;cases U;exact hR _ _ _ gX gX rfl
instance c240 {l}{n}:CC M 240 (IX l n) [Jj M l,sI n] (λr=>.sb r):=by
 have:=lo 2 [0,1,5] (λ_ s=>je [(5,sI s)]);exact wA fG Tryz.func240 Tryz.call240
end Go.Proofs.YtchmoabpofnbaaaGreat
