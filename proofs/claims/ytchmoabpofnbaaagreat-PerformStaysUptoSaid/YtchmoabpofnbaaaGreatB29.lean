import Derived.Test.YtchmoabpofnbaaaGreatB28
set_option linter.all false
namespace Go.Proofs.YtchmoabpofnbaaaGreat
open Go Go.Pv Proofs.Tryz
set_option maxRecDepth 100000
set_option maxHeartbeats 2000000
variable [GM]
section
variable {M:EncM}(hM:M=mapE)
include hM
theorem Kr {w:gI}{stage:Int}{r:(List Int)×gI}(O:jl w stage=some r):Pv.FnS Tryz.prog glF 169 [.lv 0 0,sI stage] [(0,(vR (eGState M w.s++[gV M w.forces,.os 1 0 (M.n GTraits w.gX),.os 2 0 (M.n Bool w.dropped),.os 3 0 (M.n Bool w.done),.os 4 0 (M.n (List Int) w.hits)]))),(1,(aR 17 (ig M w.gX))),(2,(aR 1 (M.m Bool eB w.dropped))),(3,(aR 1 (M.m Bool eB w.done))),(4,(aR 1 (M.m (List Int) (eL M 1 (eI .i64)) w.hits)))] 5 (λuu ss nn=>uu=.os 5 0 (M.n Int r.1)/\ss=[(0,(vR (eGState M r.2.s++[gV M r.2.forces,.os 1 0 (M.n GTraits r.2.gX),.os 2 0 (M.n Bool r.2.dropped),.os 3 0 (M.n Bool r.2.done),.os 4 0 (M.n (List Int) r.2.hits)]))),(1,(aR 17 (ig M r.2.gX))),(2,(aR 1 (M.m Bool eB r.2.dropped))),(3,(aR 1 (M.m Bool eB r.2.done))),(4,(aR 1 (M.m (List Int) (eL M 1 (eI .i64)) r.2.hits))),(5,(aR 1 (mI M r.1)))]/\nn=6):=by
 refine mr (T:=(tabx 5 [7,21] [[(1,true)]])) (tabxOK 5 [7,21] [[(1,true)]]) wf func169 rfl call169 rfl [] ?_;intro S R hS hR;have q:=sf hM hS;unfold jl at O;cbv;refine jJ [] [0,1] (λU=>f4 63 [.lv 0 0,sI stage] [vR (eGState M U.s++[gV M U.forces,.os 1 0 (S.lenN (ig M U.gX)),.os 2 0 (S.lenN (M.m Bool eB U.dropped)),.os 3 0 (S.lenN (M.m Bool eB U.done)),.os 4 0 (S.lenN (M.m (List Int) (eL M 1 (eI .i64)) U.hits))]),aR 17 (ig M U.gX),aR 1 (M.m Bool eB U.dropped),aR 1 (M.m Bool eB U.done),aR 1 (M.m (List Int) (eL M 1 (eI .i64)) U.hits)]) O ?_ ?_
 intro Ik2 k2 hk2 O;cbv;refine gu ?_ ?_
 intro O;cbv;refine jO hS O (λ_=>aiH hM) d_st d_st rfl rfl rfl rfl ?_;exact jP
 exact iC
 intro U O;cbv;refine wB (tabxOK 5 [7,21] [[(1,true)]]) [.tO 5 1,.tO 7 1] [0,1,5,6,7,18,19,20] (λI=>f4 63 [.lv 0 0,sI stage,.os 5 0 (S.lenN (mI M I.2.1)),.sl 0 [] true,.os 6 0 (S.lenN (mI M I.2.2)),gV M U.forces,sI (S.len (nK M U.forces)),sI I.1] [vR (eGState M U.s++[gV M U.forces,.os 1 0 (S.lenN (ig M U.gX)),.os 2 0 (S.lenN (M.m Bool eB U.dropped)),.os 3 0 (S.lenN (M.m Bool eB U.done)),.os 4 0 (S.lenN (M.m (List Int) (eL M 1 (eI .i64)) U.hits))]),aR 17 (ig M U.gX),aR 1 (M.m Bool eB U.dropped),aR 1 (M.m Bool eB U.done),aR 1 (M.m (List Int) (eL M 1 (eI .i64)) U.hits),aR 1 (mI M I.2.1),aR 1 (mI M I.2.2)]) O ?_;intro Ik6 k6 I hk6 O e he;subst he;unfold pM at O;cbv;refine gu ?_ ?_
 ·intro O;cbv;refine jJ [.tO 5 1,.tR 7] [0,1,5,6,7,18,19,20] (λC=>f4 63 [.lv 0 0,sI stage,.os 5 0 (S.lenN (mI M C.1)),.sl 0 [] true,.os 6 0 (S.lenN (mI M C.2)),gV M U.forces,sI (S.len (nK M U.forces)),sI I.1] [vR (eGState M U.s++[gV M U.forces,.os 1 0 (S.lenN (ig M U.gX)),.os 2 0 (S.lenN (M.m Bool eB U.dropped)),.os 3 0 (S.lenN (M.m Bool eB U.done)),.os 4 0 (S.lenN (M.m (List Int) (eL M 1 (eI .i64)) U.hits))]),aR 17 (ig M U.gX),aR 1 (M.m Bool eB U.dropped),aR 1 (M.m Bool eB U.done),aR 1 (M.m (List Int) (eL M 1 (eI .i64)) U.hits),aR 1 (mI M C.1),aR 1 (mI M C.2)]) O ?_ ?_
  intro Ik9 k9 hk9 O;cbv;refine lH ?_;intro x11 O;cbv;refine d_room hS O d_e ?_;intro O;cbv;refine iH (c246 hM) ?_;intro y12 O;cbv;refine iq ?_ ?_
  intro O;cbv;refine d_room hS O d_e ?_;exact iC
  exact iC
  intro C O;cbv;exact nM
 intro O;cbv;refine wB (tabxOK 5 [7,21] [[(1,true)]]) [.tO 6 1,.tR 7] [0,1,5,6,7] (λJ=>f4 63 [.lv 0 0,sI stage,.os 5 0 (S.lenN (mI M J.2.1)),.os 6 0 (S.lenN (mI M J.2.2.1)),.os 7 0 (S.lenN (mI M J.2.2.2))] [vR (eGState M J.1.s++[gV M J.1.forces,.os 1 0 (S.lenN (ig M J.1.gX)),.os 2 0 (S.lenN (M.m Bool eB J.1.dropped)),.os 3 0 (S.lenN (M.m Bool eB J.1.done)),.os 4 0 (S.lenN (M.m (List Int) (eL M 1 (eI .i64)) J.1.hits))]),aR 17 (ig M J.1.gX),aR 1 (M.m Bool eB J.1.dropped),aR 1 (M.m Bool eB J.1.done),aR 1 (M.m (List Int) (eL M 1 (eI .i64)) J.1.hits),aR 1 (mI M J.2.1),aR 1 (mI M J.2.2.1),aR 1 (mI M J.2.2.2)]) O ?_;intro g k14 J hk14 O e he;subst he;unfold sQ at O;cbv;refine gu ?_ ?_
 intro O;cbv;refine jO hS O (λ_=>aiV hM) d_st d_st rfl rfl rfl rfl ?_;intro y16 O;cbv;refine oO hS O (λ_=>c247 hM) AQ (λ_=>rfl) ?_;intro y17 O;cbv;refine gu ?_ ?_
 intro O;cbv;cases O;exact hR _ _ _ d_st d_st rfl
 intro O;cbv;refine jO hS O (λ_=>aeL hM) d_st d_st rfl rfl rfl rfl ?_;intro y18 O;cbv;refine d_room hS O d_e ?_;intro O;cbv;refine ag3 hS [(1,false),(0,true)] rfl ?_;cbv;refine jO hS O (λ_=>aiC hM) ai ai rfl rfl rfl rfl ?_;exact jP
 intro O;cbv;cases O;exact hR _ _ _ d_st d_st rfl
theorem aiW {c0:List GCard}{c1:GState}{c2:List GTraits}{c3:GEvent}{c4:List GOption}{c5:Bool}{r:List GOption}(O:nT c0 c1 c2 c3 c4 c5=some r):Pv.FnS Tryz.prog glF 197 [.lv 0 0,.lv 1 0,.lv 2 0,.lv 3 0,.lv 4 0,.lv 6 0] [(0,(vR [jR M c0])),(1,(vR (eGState M c1))),(2,(vR [oH M c2])),(3,(vR (eGEvent M c3))),(4,(vR [.os 5 0 (M.n GOption c4)])),(5,(aR 3 (kU M c4))),(6,(vR [.sb c5]))] 7 (λU ss nn=>U=mQ M r/\ss=[(0,(vR [jR M c0])),(1,(vR (eGState M c1))),(2,(vR [oH M c2])),(3,(vR (eGEvent M c3))),(4,(vR [.os 5 0 (M.n GOption c4)])),(5,some (.arr true 3 (kU M c4))),(6,(vR [.sb c5]))]/\nn=7):=by
 refine mr (T:=(tabx 7 [] [])) (tabxOK 7 [] []) wf func197 rfl call197 rfl [] ?_;intro S R hS hR;have q:=sf hM hS;unfold nT at O;cbv;refine abn hS O (λ_=>c198 hM) AQ ?_;intro J O;cbv;refine iq ?_ ?_
 exact fE
 intro O;cbv;cases O
theorem c240 {l:List iT}{n:Int}{r:Bool}(O:BH l n=some r):fV 240 [Fp M l,sI n] (λu=>u=.sb r):=by
 refine iw gW func240 call240 ?_;intro S R hS hR q;unfold BH at O;cbv;refine d_lp hS gW wf [] [0,1,5] (λs1=>f3 27 [(0,Fp M l),(1,sI n),(5,sI s1)] []) O ?_;intro Ik2 k2 s1 hk2 O e he;subst he;unfold Eh at O;cbv;refine gu ?_ ?_
 intro O;cbv;refine lH ?_;intro x4 O;cbv;refine iH (c317 hM) ?_;intro y5 O;cbv;refine gu ?_ ?_
 exact gQ
 exact iC
 intro O;cbv;refine gu ?_ ?_<;>exact gQ
end
variable [GM]
section
variable {M:EncM}(hM:M=mapE)
include hM
theorem agI {a:GAbility}{r:Bool}(O:JW a=some r):fV 165 [.agg (eGAbility M a)] (λu=>u=.sb r):=by
 refine iw (gY [2,6,10,14,19,24,29,34,39,49,50]) func165 call165 ?_;intro S R hS hR q;unfold JW at O;cbv;refine jJ [] [1,11] (λs1=>f4 117 [.lv 0 0,.sb s1] [vR (eGAbility M a)]) O ?_ ?_
 intro Ik2 k2 hk2 O;cbv;refine gu ?_ ?_<;>exact iC
 intro s1 O;cbv;refine iq ?_ ?_
 exact gQ
 intro O;cbv;refine jJ [] [1,3] (λU=>f4 117 [.lv 0 0,.sb U] [vR (eGAbility M a)]) O ?_ ?_
 intro Ik5 k5 hk5 O;cbv;refine gu ?_ ?_
 exact iC
 intro O;cbv;refine gu ?_ ?_<;>exact iC
 intro U O;cbv;refine jJ [] [1,3] (λs7=>f4 117 [.lv 0 0,.sb U] [vR (eGAbility M a)]) O ?_ ?_
 intro Ik8 k8 hk8 O;cbv;refine gu ?_ ?_
 intro O;cbv;refine jJ [] [1,3,43] (λJ=>f4 117 [.lv 0 0,.sb U,.sb J] [vR (eGAbility M a)]) O ?_ ?_
 intro Ik11 k11 hk11 O;cbv;refine iH (WT hM) ?_;intro y13 O;cbv;refine gu ?_ ?_
 exact iC
 intro O;cbv;refine gu ?_ ?_
 exact iC
 intro O;cbv;refine iH (c167 hM) ?_;exact jP
 intro J O;cbv;refine iq ?_ ?_
 exact gQ
 exact iC
 intro O;cbv;refine jJ [] [1,3,53] (λg=>f4 117 [.lv 0 0,.sb U,.sb g] [vR (eGAbility M a)]) O ?_ ?_
 intro Ik16 k16 hk16 O;cbv;replace O:=uZ O;refine gu ?_ ?_<;>exact iC
 intro g O;cbv;refine iq ?_ ?_
 exact gQ
 exact iC
 intro s7 O;cbv;refine jJ [] [1,3] (λs19=>f4 117 [.lv 0 0,.sb U] [vR (eGAbility M a)]) O ?_ ?_
 intro Ik20 k20 hk20 O;cbv;refine gu ?_ ?_
 intro O;cbv;refine iH (c236 hM) ?_;intro y22 O;cbv;refine gu ?_ ?_
 exact gQ
 exact iC
 intro O;cbv;refine jJ [] [1,3,68] (λC=>f4 117 [.lv 0 0,.sb U,.sb C] [vR (eGAbility M a)]) O ?_ ?_
 intro Ik24 k24 hk24 O;cbv;replace O:=uZ O;refine gu ?_ ?_<;>exact iC
 intro C O;cbv;refine iq ?_ ?_
 exact gQ
 exact iC
 intro s19 O;cbv;refine jJ [] [1,3] (λs27=>f4 117 [.lv 0 0,.sb U] [vR (eGAbility M a)]) O ?_ ?_
 intro Ik28 k28 hk28 O;cbv;refine gu ?_ ?_
 intro O;cbv;refine iH (c237 hM) ?_;intro y30 O;cbv;refine gu ?_ ?_
 exact gQ
 exact iC
 intro O;cbv;refine jJ [] [1,3,83] (λT=>f4 117 [.lv 0 0,.sb U,.sb T] [vR (eGAbility M a)]) O ?_ ?_
 intro Ik32 k32 hk32 O;cbv;replace O:=uZ O;refine gu ?_ ?_<;>exact iC
 intro T O;cbv;refine iq ?_ ?_
 exact gQ
 exact iC
 intro s27 O;cbv;refine jJ [] [1,3] (λs35=>f4 117 [.lv 0 0,.sb U] [vR (eGAbility M a)]) O ?_ ?_
 intro Ik36 k36 hk36 O;cbv;refine gu ?_ ?_
 intro O;cbv;refine iH (c238 hM) ?_;intro y38 O;cbv;refine gu ?_ ?_
 exact gQ
 exact iC
 intro O;cbv;replace O:=uZ O;refine gu ?_ ?_
 exact gQ
 exact iC
 intro s35 O;cbv;refine iq ?_ ?_
 intro O;cbv;refine jJ [] [2] (λI=>f4 117 [.sb I] []) O ?_ ?_
 intro Ik41 k41 hk41 O;cbv;refine iH (c239 hM) ?_;intro y43 O;cbv;refine iq ?_ ?_
 intro O;cbv;refine tC hS O (λ_=>c240 hM) AQ ?_;exact jP
 exact iC
 intro I O;cbv;exact qO
 intro O;cbv;refine gu ?_ ?_<;>exact gQ
theorem c93 {cards:List GCard}{s:GState}{r:List GTraits}(O:G6 cards s=some r):fV 93 [jR M cards,.agg (eGState M s)] (λu=>u=oH M r):=by
 refine iw (gY [6]) func93 call93 ?_;intro S R hS hR q;unfold G6 at O;cbv;refine CZ hS O (λ_=>o168 hM) (le_eq rfl) ?_;intro y1 O;cbv;refine Vk hS (gY [6]) wf 10 ?_;intro g2 hg2;refine hg2 _ _ ?_;cbv;refine qN hS ?_;cbv;refine jO hS O (λ_=>Kr hM) d_st d_st rfl rfl rfl rfl ?_;intro y3 O;cbv;refine hg2 _ _ ?_;cbv;refine qN hS ?_;cbv;refine jO hS O (λ_=>Kr hM) d_st d_st rfl rfl rfl rfl ?_;intro y4 O;cbv;refine hg2 _ _ ?_;cbv;refine qN hS ?_;cbv;refine jO hS O (λ_=>Kr hM) d_st d_st rfl rfl rfl rfl ?_;intro y5 O;cbv;refine hg2 _ _ ?_;cbv;refine qN hS ?_;cbv;refine jO hS O (λ_=>Kr hM) d_st d_st rfl rfl rfl rfl ?_;intro y6 O;cbv;refine hg2 _ _ ?_;cbv;refine qN hS ?_;cbv;refine jO hS O (λ_=>Kr hM) d_st d_st rfl rfl rfl rfl ?_;intro y7 O;cbv;refine hg2 _ _ ?_;cbv;refine qN hS ?_;cbv;refine jO hS O (λ_=>Kr hM) d_st d_st rfl rfl rfl rfl ?_;intro y8 O;cbv;refine hg2 _ _ ?_;cbv;refine qN hS ?_;cbv;refine jO hS O (λ_=>Kr hM) d_st d_st rfl rfl rfl rfl ?_;intro y9 O;cbv;refine hg2 _ _ ?_;cbv;refine qN hS ?_;cbv;refine jO hS O (λ_=>Kr hM) d_st d_st rfl rfl rfl rfl ?_;intro y10 O;cbv;refine hg2 _ _ ?_;cbv;refine qN hS ?_;cbv;exact qO
end
end Go.Proofs.YtchmoabpofnbaaaGreat
