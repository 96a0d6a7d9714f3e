import Derived.Test.YtchmoabpofnbaaaGreatC69
import Derived.Test.YtchmoabpofnbaaaGreatC70
set_option linter.all false
namespace Go.Proofs.YtchmoabpofnbaaaGreat
open Go Go.Pv
set_option maxRecDepth 100000
set_option maxHeartbeats 20000000
variable [GM]
attribute [local irreducible] bnd br jn qE gK jv lJ jl rD uo divO kT jL kN kP lI lS lM
variable {M:iG}[HM M]
instance akc {w}{i}{stage}:CZ M 249 (oZ w i stage) [.lv 0 0,sI i,sI stage] [(0,(vR (iI M w.s++[iy M w.forces,.os 1 0 (M.n gG w.iE),.os 2 0 (M.n Bool w.dropped),.os 3 0 (M.n Bool w.done),.os 4 0 (M.n (List Int) w.hits)]))),(1,(aR 17 (iD M w.iE))),(2,(aR 1 (M.m Bool eB w.dropped))),(3,(aR 1 (M.m Bool eB w.done))),(4,(aR 1 (M.m (List Int) (eL M 1 (eI .i64)) w.hits)))] 5 (λ_=>.DJ []) (λr=>[(0,(vR (iI M r.s++[iy M r.forces,.os 1 0 (M.n gG r.iE),.os 2 0 (M.n Bool r.dropped),.os 3 0 (M.n Bool r.done),.os 4 0 (M.n (List Int) r.hits)]))),(1,(aR 17 (iD M r.iE))),(2,(aR 1 (M.m Bool eB r.dropped))),(3,(aR 1 (M.m Bool eB r.done))),(4,(aR 1 (M.m (List Int) (eL M 1 (eI .i64)) r.hits)))]) 5:=by
 have hM:=HM.h (M:=M);refine⟨λr O=>?_⟩;refine yS (T:=(GY 5 [23] [])) (iV 5 [23] []) wf Tryz.func249 rfl Tryz.call249 rfl [] ?_;intro S R hS hR;have q:=sf hM hS;unfold oZ at O;cbv;refine jT hS O (cZ hM) ji ji rfl rfl rfl rfl ?_;intro y1 O;cbv;refine jT hS O (cZ hM) ji ji rfl rfl rfl rfl ?_;intro y2 O;cbv;refine jT hS O (cZ hM) ji ji rfl rfl rfl rfl ?_;intro y3 O;cbv;refine d_L (iV 5 [23] []) [] [0,1,2,6,7,8,23,24,25] (λs4=>f4 92 [.lv 0 0,sI i,sI stage,.sl 1 (mI M y1) false,.os 5 0 (S.gZ (mI M y2)),sI y3,.sl 1 (mI M y1) false,sI (S.len (mI M y1)),sI s4.1] [vR (iI M w.s++[iy M w.forces,.os 1 0 (S.gZ (iD M s4.2.1)),.os 2 0 (S.gZ (M.m Bool eB s4.2.2)),.os 3 0 (S.gZ (M.m Bool eB w.done)),.os 4 0 (S.gZ (M.m (List Int) (eL M 1 (eI .i64)) w.hits))]),aR 17 (iD M s4.2.1),aR 1 (M.m Bool eB s4.2.2),aR 1 (M.m Bool eB w.done),aR 1 (M.m (List Int) (eL M 1 (eI .i64)) w.hits),aR 1 (mI M y2)]) O ?_;intro Ik5 k5 s4 hk5 O e he;subst he;unfold qR at O;cbv;refine nZ ?_ ?_
 ·intro O;cbv;refine d_I ?_;intro x7 O;cbv;refine d_I ?_;intro x8 O;cbv;refine d_L (iV 5 [23] []) [] [0,1,2,6,7,8,10,23,24,25,36,37,38] (λs9=>f4 92 [.lv 0 0,sI i,sI stage,.sl 1 (mI M y1) false,.os 5 0 (S.gZ (mI M y2)),sI y3,sI x7,.sl 1 (mI M y1) false,sI (S.len (mI M y1)),sI s4.1,MC M x8.mr,sI (S.len (TJ M x8.mr)),sI s9.1] [vR (iI M w.s++[iy M w.forces,.os 1 0 (S.gZ (iD M s9.2.1)),.os 2 0 (S.gZ (M.m Bool eB s9.2.2)),.os 3 0 (S.gZ (M.m Bool eB w.done)),.os 4 0 (S.gZ (M.m (List Int) (eL M 1 (eI .i64)) w.hits))]),aR 17 (iD M s9.2.1),aR 1 (M.m Bool eB s9.2.2),aR 1 (M.m Bool eB w.done),aR 1 (M.m (List Int) (eL M 1 (eI .i64)) w.hits),aR 1 (mI M y2)]) O ?_;intro Ik10 k10 s9 hk10 O e he;subst he;unfold qQ at O;cbv;refine nZ ?_ ?_
  ·intro O;cbv;refine DR [] [0,1,2,6,7,8,10,23,24,25,36,37,38] (λs12=>f4 92 [.lv 0 0,sI i,sI stage,.sl 1 (mI M y1) false,.os 5 0 (S.gZ (mI M y2)),sI y3,sI x7,.sl 1 (mI M y1) false,sI (S.len (mI M y1)),sI s4.1,MC M x8.mr,sI (S.len (TJ M x8.mr)),sI s9.1] [vR (iI M w.s++[iy M w.forces,.os 1 0 (S.gZ (iD M s12.1)),.os 2 0 (S.gZ (M.m Bool eB s12.2)),.os 3 0 (S.gZ (M.m Bool eB w.done)),.os 4 0 (S.gZ (M.m (List Int) (eL M 1 (eI .i64)) w.hits))]),aR 17 (iD M s12.1),aR 1 (M.m Bool eB s12.2),aR 1 (M.m Bool eB w.done),aR 1 (M.m (List Int) (eL M 1 (eI .i64)) w.hits),aR 1 (mI M y2)]) O ?_ ?_
   intro Ik13 k13 hk13 O;cbv;refine d_I ?_;intro x15 O;cbv;refine zn hS O (cI hM) ?_;intro y16 O;cbv;refine nZ ?_ ?_
   exact vF
   intro O;cbv;refine EF hS ?_;cbv;refine mG hS O lC rfl ?_;intro j17 _ O;cbv;refine jW hS hM O rfl lC ?_;intro x18 O;cbv;refine mG hS O lC rfl ?_;intro j19 _ O;cbv;refine jW hS hM O rfl lC ?_;intro x20 O;cbv;refine Je hS O (cI hM) ?_;intro y21 O;cbv;refine mG hS O lC rfl ?_;intro j22 _ O;cbv;refine jW hS hM O rfl lC ?_;intro x23 O;cbv;refine nZ ?_ ?_
   intro O;cbv;refine mG hS O lC rfl ?_;intro j24 _ O;cbv;refine KN hS (e:=eB) O aj ?_;intro x25 O;cbv;refine jW hS hM O rfl lC ?_;exact xZ
   exact vF
   intro s12 O;cbv;exact vw
  exact vF
 intro O;cbv;refine EF hS ?_;cbv;refine mG hS O lC rfl ?_;intro j27 _ O;cbv;refine KN hS (e:=eB) O aj ?_;intro x28 O;cbv;refine jW hS hM O rfl lC ?_;intro x29 O;cbv;refine mG hS O lC rfl ?_;intro j30 _ O;cbv;refine jW hS hM O rfl lC ?_;intro x31 O;cbv;cases O;exact hR _ _ _ ji ji rfl
end Go.Proofs.YtchmoabpofnbaaaGreat
