import Derived.Test.YtchmoabpofnbaaaGreatC77
import Derived.Test.YtchmoabpofnbaaaGreatC78
set_option linter.all false
namespace Go.Proofs.YtchmoabpofnbaaaGreat
open Go Go.Pv
set_option maxRecDepth 100000
set_option maxHeartbeats 20000000
variable [GM]
attribute [local irreducible] bnd br jn qE gK jv lJ jl rD uo divO kT jL kN kP lI lS lM
variable {M:iG}[HM M]
instance akg {w}{stage}:CZ M 169 (jV w stage) [.lv 0 0,sI stage] [(0,(vR (iI M w.s++[iy M w.forces,.os 1 0 (M.n gG w.iE),.os 2 0 (M.n Bool w.dropped),.os 3 0 (M.n Bool w.done),.os 4 0 (M.n (List Int) w.hits)]))),(1,(aR 17 (iD M w.iE))),(2,(aR 1 (M.m Bool eB w.dropped))),(3,(aR 1 (M.m Bool eB w.done))),(4,(aR 1 (M.m (List Int) (eL M 1 (eI .i64)) w.hits)))] 5 (λr=>.os 5 0 (M.n Int r.1)) (λr=>[(0,(vR (iI M r.2.s++[iy M r.2.forces,.os 1 0 (M.n gG r.2.iE),.os 2 0 (M.n Bool r.2.dropped),.os 3 0 (M.n Bool r.2.done),.os 4 0 (M.n (List Int) r.2.hits)]))),(1,(aR 17 (iD M r.2.iE))),(2,(aR 1 (M.m Bool eB r.2.dropped))),(3,(aR 1 (M.m Bool eB r.2.done))),(4,(aR 1 (M.m (List Int) (eL M 1 (eI .i64)) r.2.hits))),(5,(aR 1 (mI M r.1)))]) 6:=by
 have hM:=HM.h (M:=M);refine⟨λr O=>?_⟩;refine yS (T:=(GY 5 [7,21] [[(1,true)]])) (iV 5 [7,21] [[(1,true)]]) wf Tryz.func169 rfl Tryz.call169 rfl [] ?_;intro S R hS hR;have q:=sf hM hS;unfold jV at O;cbv;refine DR [] [0,1] (λs1=>f4 63 [.lv 0 0,sI stage] [vR (iI M s1.s++[iy M s1.forces,.os 1 0 (S.gZ (iD M s1.iE)),.os 2 0 (S.gZ (M.m Bool eB s1.dropped)),.os 3 0 (S.gZ (M.m Bool eB s1.done)),.os 4 0 (S.gZ (M.m (List Int) (eL M 1 (eI .i64)) s1.hits))]),aR 17 (iD M s1.iE),aR 1 (M.m Bool eB s1.dropped),aR 1 (M.m Bool eB s1.done),aR 1 (M.m (List Int) (eL M 1 (eI .i64)) s1.hits)]) O ?_ ?_
 intro Ik2 k2 hk2 O;cbv;refine nZ ?_ ?_
 intro O;cbv;refine jT hS O (cZ hM) ji ji rfl rfl rfl rfl ?_;exact xZ
 exact vF
 intro s1 O;cbv;refine d_L (iV 5 [7,21] [[(1,true)]]) [.tO 5 1,.tO 7 1] [0,1,5,6,7,18,19,20] (λs5=>f4 63 [.lv 0 0,sI stage,.os 5 0 (S.gZ (mI M s5.2.1)),.sl 0 [] true,.os 6 0 (S.gZ (mI M s5.2.2)),iy M s1.forces,sI (S.len (rW M s1.forces)),sI s5.1] [vR (iI M s1.s++[iy M s1.forces,.os 1 0 (S.gZ (iD M s1.iE)),.os 2 0 (S.gZ (M.m Bool eB s1.dropped)),.os 3 0 (S.gZ (M.m Bool eB s1.done)),.os 4 0 (S.gZ (M.m (List Int) (eL M 1 (eI .i64)) s1.hits))]),aR 17 (iD M s1.iE),aR 1 (M.m Bool eB s1.dropped),aR 1 (M.m Bool eB s1.done),aR 1 (M.m (List Int) (eL M 1 (eI .i64)) s1.hits),aR 1 (mI M s5.2.1),aR 1 (mI M s5.2.2)]) O ?_;intro Ik6 k6 s5 hk6 O e he;subst he;unfold qY at O;cbv;refine nZ ?_ ?_
 ·intro O;cbv;refine DR [.tO 5 1,.tR 7] [0,1,5,6,7,18,19,20] (λs8=>f4 63 [.lv 0 0,sI stage,.os 5 0 (S.gZ (mI M s8.1)),.sl 0 [] true,.os 6 0 (S.gZ (mI M s8.2)),iy M s1.forces,sI (S.len (rW M s1.forces)),sI s5.1] [vR (iI M s1.s++[iy M s1.forces,.os 1 0 (S.gZ (iD M s1.iE)),.os 2 0 (S.gZ (M.m Bool eB s1.dropped)),.os 3 0 (S.gZ (M.m Bool eB s1.done)),.os 4 0 (S.gZ (M.m (List Int) (eL M 1 (eI .i64)) s1.hits))]),aR 17 (iD M s1.iE),aR 1 (M.m Bool eB s1.dropped),aR 1 (M.m Bool eB s1.done),aR 1 (M.m (List Int) (eL M 1 (eI .i64)) s1.hits),aR 1 (mI M s8.1),aR 1 (mI M s8.2)]) O ?_ ?_
  intro Ik9 k9 hk9 O;cbv;refine d_I ?_;intro x11 O;cbv;refine tH hS O lC ?_;intro O;cbv;refine zn hS O (cI hM) ?_;intro y12 O;cbv;refine vP ?_ ?_
  intro O;cbv;refine tH hS O lC ?_;exact vF
  exact vF
  intro s8 O;cbv;exact vw
 intro O;cbv;refine d_L (iV 5 [7,21] [[(1,true)]]) [.tR 7,.tO 6 1] [0,1,5,6,7] (λs13=>f4 63 [.lv 0 0,sI stage,.os 5 0 (S.gZ (mI M s13.2.1)),.os 6 0 (S.gZ (mI M s13.2.2.1)),.os 7 0 (S.gZ (mI M s13.2.2.2))] [vR (iI M s13.1.s++[iy M s13.1.forces,.os 1 0 (S.gZ (iD M s13.1.iE)),.os 2 0 (S.gZ (M.m Bool eB s13.1.dropped)),.os 3 0 (S.gZ (M.m Bool eB s13.1.done)),.os 4 0 (S.gZ (M.m (List Int) (eL M 1 (eI .i64)) s13.1.hits))]),aR 17 (iD M s13.1.iE),aR 1 (M.m Bool eB s13.1.dropped),aR 1 (M.m Bool eB s13.1.done),aR 1 (M.m (List Int) (eL M 1 (eI .i64)) s13.1.hits),aR 1 (mI M s13.2.1),aR 1 (mI M s13.2.2.1),aR 1 (mI M s13.2.2.2)]) O ?_;intro Ik14 k14 s13 hk14 O e he;subst he;unfold uY at O;cbv;refine nZ ?_ ?_
 intro O;cbv;refine jT hS O (cZ hM) ji ji rfl rfl rfl rfl ?_;intro y16 O;cbv;refine JK hS O (cI hM) Lr (λ_=>rfl) ?_;intro y17 O;cbv;refine nZ ?_ ?_
 exact fO
 intro O;cbv;refine jT hS O (cZ hM) ji ji rfl rfl rfl rfl ?_;intro y18 O;cbv;refine tH hS O lC ?_;intro O;cbv;refine ag4 hS [(1,false),(0,true)] rfl ?_;cbv;refine jT hS O (cZ hM) aj aj rfl rfl rfl rfl ?_;exact xZ
 intro O;cbv;cases O;exact hR _ _ _ ji ji rfl
theorem c212 {M:iG}(hM:M=kX){before:gB}{nK:List gG}{after:gB}{oV:List gG}{pe:kz}{r:List iL}(O:xJ before nK after oV pe=some r):fZ 212 [.agg (iI M before),lq M nK,.agg (iI M after),lq M oV,.agg (jZ M pe)] (λu=>u=sU M r):=by
 haveI:HM M:=⟨hM⟩
 refine agH (T:=tab) ig rfl wf Tryz.func212 rfl Tryz.call212 rfl ?_;intro S R hS hR;have q:=sf hM hS;unfold xJ at O;cbv;refine zn hS O (cI hM) ?_;intro y1 O;cbv;refine ag9 hS [.cO 3 0 76] 11 rfl ?_;cbv;refine ae5 hS O (λ_=>afx hM) ji ji rfl rfl rfl rfl rfl rfl (λ_=>rfl) ?_ ?_
 intro l rc pv h1 h2 h3 h4 h5 h6 h7 a0 a1 r' hr';refine ae4 (T:=GY 2 [] []) (iV 2 [] []) wf rfl [.cR 0 0] h1 h2 h3 h4 h5 h6 bJ h7 ?_;intro S R hS hR;have q:=sf hM hS;unfold ve at hr';cbv;refine tH hS hr' dR ?_;intro hr';cbv;cases hr';exact hR _ _ _ ji ji rfl
 intro y2 O;cbv;refine zn hS O (cI hM) ?_;intro y3 O;cbv;refine ag9 hS [] 11 rfl ?_;cbv;refine ae5 hS O (λ_=>afx hM) ji ji rfl rfl rfl rfl rfl rfl (λ_=>rfl) ?_ ?_
 intro l rc pv h1 h2 h3 h4 h5 h6 h7 a0 a1 r' hr';refine ae4 (T:=GY 2 [] []) (iV 2 [] []) wf rfl [.cR 0 0] h1 h2 h3 h4 h5 h6 bJ h7 ?_;intro S R hS hR;have q:=sf hM hS;unfold ve at hr';cbv;refine tH hS hr' dR ?_;intro hr';cbv;cases hr';exact hR _ _ _ ji ji rfl
 intro y4 O;cbv;refine wG hS O (λ_=>aim hM) aj aj rfl rfl rfl rfl ?_;intro y5 he O;have q:=And.intro q (pY aij he).symm;cbv;refine TF hS ig wf [.tR 42,.tO 15 89] [14,15,42,43,44] (λs6=>f3 55 [(14,.lv 0 0),(15,.os 1 0 (S.gZ (jB M s6.2.1))),(42,.os 2 0 (S.gZ (gQ M s6.2.2))),(43,sI (S.yO (M.n gq y4))),(44,sI s6.1)] [vR (iI M before++(iI M after++([lq M nK,lq M oV]++(jZ M pe)))),aR 89 (jB M s6.2.1),aR 76 (gQ M s6.2.2)]) O ?_;intro Ik7 k7 s6 hk7 O e he;subst he;unfold BD at O;cbv;refine nZ ?_ ?_
 intro O;cbv;refine mG hS O lC rfl ?_;intro j9 _ O;cbv;refine jW hS hM O rfl lC ?_;intro x10 O;cbv;refine zn hS O (cI hM) ?_;intro y11 O;cbv;refine tH hS O lC ?_;exact vF
 exact d_R
instance ic212 {before}{nK}{after}{oV}{pe}:CC M 212 (xJ before nK after oV pe) [.agg (iI M before),lq M nK,.agg (iI M after),lq M oV,.agg (jZ M pe)] (λr=>sU M r):=⟨λ_ h=>c212 HM.h h⟩
instance c240 {l}{n}:CC M 240 (H9 l n) [Io M l,sI n] (λr=>.sb r):=by
 have:=lo 2 [0,1,5] (λ_ s=>jO [(5,sI s)]);exact wA ig Tryz.func240 Tryz.call240
end Go.Proofs.YtchmoabpofnbaaaGreat
