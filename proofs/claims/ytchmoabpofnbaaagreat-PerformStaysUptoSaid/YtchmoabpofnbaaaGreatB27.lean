import Derived.Test.YtchmoabpofnbaaaGreatB26
set_option linter.all false
namespace Go.Proofs.YtchmoabpofnbaaaGreat
open Go Go.Pv Proofs.Tryz
set_option maxRecDepth 100000
set_option maxHeartbeats 2000000
variable [GM]
section
variable {M:EncM}(hM:M=mapE)
include hM
theorem o283 {cards:List GCard}{s:GState}{all:List GTraits}{pe:GEvent}{r:List GOption}(O:replace_options cards s all pe=some r):Pv.FnS Tryz.prog glF 283 [jR M cards,.agg (eGState M s),oH M all,.agg (eGEvent M pe)] [] 0 (λuu ss nn=>uu=.os 0 0 (M.n GOption r)/\ss=[(0,(aR 3 (kU M r)))]/\nn=1):=by
 refine fnS_dec (T:=(tabx 0 [10,15,28,33,36,50,55] [[(3,true)]])) (tabxOK 0 [10,15,28,33,36,50,55] [[(3,true)]]) wf func283 rfl call283 rfl ?_;intro S R hS hR;have q:=sf hM hS;unfold replace_options at O;cbv;refine iH (c115 hM) ?_;intro y1 O;cbv;refine gu ?_ ?_
 exact fE
 intro O;cbv;refine jJ [.tO 9 3] [0,2,5,7,9] (λs2=>f4 183 [jR M cards,oH M all,.lv 0 0,.lv 1 0,.os 2 0 (S.lenN (kU M s2))] [vR (eGState M s),vR (eGEvent M pe),aR 3 (kU M s2)]) O ?_ ?_
 intro Ik3 k3 hk3 O;cbv;refine iH (c359 hM) ?_;intro y5 O;cbv;refine jJ [] [0,2,5,7,9,10,55] (λs6=>f4 183 [jR M cards,oH M all,.lv 0 0,.lv 1 0,.sl 0 [] true,.lv 2 0,.sb s6] [vR (eGState M s),vR (eGEvent M pe),vR (eGObject M y5.1)]) O ?_ ?_
 intro Ik7 k7 hk7 O;cbv;refine iq ?_ ?_
 intro O;cbv;refine gu ?_ ?_
 intro O;cbv;refine gu ?_ ?_<;>exact iC
 exact iC
 exact iC
 intro s6 O;cbv;refine iq ?_ ?_
 intro O;cbv;refine d_wk hS (e:=(eGOption M)) O d_st ?_;intro x9 O;cbv;refine d_room hS O d_e ?_;exact iC
 exact iC
 intro s2 O;cbv;refine wB (tabxOK 0 [10,15,28,33,36,50,55] [[(3,true)]]) [] [0,2,5,7,9,63,64,65] (λs10=>f4 183 [jR M cards,oH M all,.lv 0 0,.lv 1 0,.os 2 0 (S.lenN (kU M s10.2)),kP M s.objects,sI (S.len (lK M s.objects)),sI s10.1] [vR (eGState M s),vR (eGEvent M pe),aR 3 (kU M s10.2)]) O ?_;intro Ik11 k11 s10 hk11 O e he;subst he;unfold replace_options_l3 at O;cbv;refine gu ?_ ?_
 intro O;cbv;refine lH ?_;intro x13 O;cbv;refine iH (c359 hM) ?_;intro y14 O;cbv;refine wB (tabxOK 0 [10,15,28,33,36,50,55] [[(3,true)]]) [] [0,2,5,7,9,14,16,63,64,65,79,80,81] (λs15=>f4 183 [jR M cards,oH M all,.lv 0 0,.lv 1 0,.os 2 0 (S.lenN (kU M s15.2)),.lv 3 0,.lv 4 0,kP M s.objects,sI (S.len (lK M s.objects)),sI s10.1,xq M y14.2.1.abilities,sI (S.len (pX M y14.2.1.abilities)),sI s15.1] [vR (eGState M s),vR (eGEvent M pe),aR 3 (kU M s15.2),vR (eGObject M x13),vR (eGTraits M y14.2.1)]) O ?_;intro Ik16 k16 s15 hk16 O e he;subst he;unfold replace_options_l1 at O;cbv;refine gu ?_ ?_
 intro O;cbv;refine jJ [] [0,2,5,7,9,14,16,63,64,65,79,80,81] (λs18=>f4 183 [jR M cards,oH M all,.lv 0 0,.lv 1 0,.os 2 0 (S.lenN (kU M s18)),.lv 3 0,.lv 4 0,kP M s.objects,sI (S.len (lK M s.objects)),sI s10.1,xq M y14.2.1.abilities,sI (S.len (pX M y14.2.1.abilities)),sI s15.1] [vR (eGState M s),vR (eGEvent M pe),aR 3 (kU M s18),vR (eGObject M x13),vR (eGTraits M y14.2.1)]) O ?_ ?_
 intro Ik19 k19 hk19 O;cbv;refine lH ?_;intro x21 O;cbv;refine jJ [] [0,2,5,7,9,14,16,18,63,64,65,79,80,81,106] (λs22=>f4 183 [jR M cards,oH M all,.lv 0 0,.lv 1 0,.os 2 0 (S.lenN (kU M s15.2)),.lv 3 0,.lv 4 0,sI s15.1,kP M s.objects,sI (S.len (lK M s.objects)),sI s10.1,xq M y14.2.1.abilities,sI (S.len (pX M y14.2.1.abilities)),sI s15.1,.sb s22] [vR (eGState M s),vR (eGEvent M pe),aR 3 (kU M s15.2),vR (eGObject M x13),vR (eGTraits M y14.2.1)]) O ?_ ?_
 intro Ik23 k23 hk23 O;cbv;refine gu ?_ ?_
 intro O;cbv;refine gu ?_ ?_
 intro O;cbv;refine iH (c360 hM) ?_;exact jP
 exact iC
 exact iC
 intro s22 O;cbv;refine iq ?_ ?_
 intro O;cbv;refine d_wk hS (e:=(eGOption M)) O d_st ?_;intro x26 O;cbv;refine d_room hS O d_e ?_;exact iC
 exact iC
 intro s18 O;cbv;exact nM
 exact iC
 intro O;cbv;refine jJ [] [0,2,5,7,9,123] (λs27=>f4 183 [jR M cards,oH M all,.lv 0 0,.lv 1 0,.os 2 0 (S.lenN (kU M s10.2)),.sb s27] [vR (eGState M s),vR (eGEvent M pe),aR 3 (kU M s10.2)]) O ?_ ?_
 intro Ik28 k28 hk28 O;cbv;refine gu ?_ ?_<;>exact iC
 intro s27 O;cbv;refine iq ?_ ?_
 exact fE
 intro O;cbv;refine iH (c361 hM) ?_;intro y30 O;cbv;refine wB (tabxOK 0 [10,15,28,33,36,50,55] [[(3,true)]]) [] [0,2,5,7,9,20,134,135,136] (λs31=>f4 183 [jR M cards,oH M all,.lv 0 0,.lv 1 0,.os 2 0 (S.lenN (kU M s31.2)),.lv 3 0,xq M y30.2.1.abilities,sI (S.len (pX M y30.2.1.abilities)),sI s31.1] [vR (eGState M s),vR (eGEvent M pe),aR 3 (kU M s31.2),vR (eGObject M y30.1)]) O ?_;intro Ik32 k32 s31 hk32 O e he;subst he;unfold replace_options_l2 at O;cbv;refine gu ?_ ?_
 ·intro O;cbv;refine jJ [] [0,2,5,7,9,20,134,135,136] (λs34=>f4 183 [jR M cards,oH M all,.lv 0 0,.lv 1 0,.os 2 0 (S.lenN (kU M s34)),.lv 3 0,xq M y30.2.1.abilities,sI (S.len (pX M y30.2.1.abilities)),sI s31.1] [vR (eGState M s),vR (eGEvent M pe),aR 3 (kU M s34),vR (eGObject M y30.1)]) O ?_ ?_
  ·intro Ik35 k35 hk35 O;cbv;refine lH ?_;intro x37 O;cbv;refine jJ [] [0,2,5,7,9,20,23,134,135,136,173] (λs38=>f4 183 [jR M cards,oH M all,.lv 0 0,.lv 1 0,.os 2 0 (S.lenN (kU M s31.2)),.lv 3 0,sI s31.1,xq M y30.2.1.abilities,sI (S.len (pX M y30.2.1.abilities)),sI s31.1,.sb s38] [vR (eGState M s),vR (eGEvent M pe),aR 3 (kU M s31.2),vR (eGObject M y30.1)]) O ?_ ?_
   ·intro Ik39 k39 hk39 O;cbv;refine gu ?_ ?_
    ·intro O;cbv;refine gu ?_ ?_
     ·intro O;cbv;refine gu ?_ ?_
      ·intro O
       iterate 9 (generalize hq : @opsE=qq;cbv;subst hq;unfold opsE)
       cbv;refine iH (c360 hM) ?_;exact jP
      exact iC
     intro O;cbv;refine gu ?_ ?_
     ·intro O;cbv;refine gu ?_ ?_
      ·intro O
       iterate 9 (generalize hq : @opsE=qq;cbv;subst hq;unfold opsE)
       cbv;refine iH (c360 hM) ?_;exact jP
      exact iC
     exact iC
    exact iC
   intro s38 O;cbv;refine iq ?_ ?_
   intro O;cbv;refine d_wk hS (e:=(eGOption M)) O d_st ?_;intro x43 O;cbv;refine d_room hS O d_e ?_;exact iC
   exact iC
  intro s34 O;cbv;exact nM
 intro O;cbv;cases O;exact hR _ _ _ ai ai rfl
end
variable [GM]
section
variable {M:EncM}(hM:M=mapE)
include hM
theorem aeL {w:gI}{i:Int}{stage:Int}{r:gI}(O:mO w i stage=some r):Pv.FnS Tryz.prog glF 249 [.lv 0 0,sI i,sI stage] [(0,(vR (eGState M w.s++[gV M w.forces,.os 1 0 (M.n GTraits w.gX),.os 2 0 (M.n Bool w.dropped),.os 3 0 (M.n Bool w.done),.os 4 0 (M.n (List Int) w.hits)]))),(1,(aR 17 (ig M w.gX))),(2,(aR 1 (M.m Bool eB w.dropped))),(3,(aR 1 (M.m Bool eB w.done))),(4,(aR 1 (M.m (List Int) (eL M 1 (eI .i64)) w.hits)))] 5 (λuu ss nn=>uu=.FH []/\ss=[(0,(vR (eGState M r.s++[gV M r.forces,.os 1 0 (M.n GTraits r.gX),.os 2 0 (M.n Bool r.dropped),.os 3 0 (M.n Bool r.done),.os 4 0 (M.n (List Int) r.hits)]))),(1,(aR 17 (ig M r.gX))),(2,(aR 1 (M.m Bool eB r.dropped))),(3,(aR 1 (M.m Bool eB r.done))),(4,(aR 1 (M.m (List Int) (eL M 1 (eI .i64)) r.hits)))]/\nn=5):=by
 refine mr (T:=(tabx 5 [23] [])) (tabxOK 5 [23] []) wf func249 rfl call249 rfl [] ?_;intro S R hS hR;have q:=sf hM hS;unfold mO at O;cbv;refine jO hS O (λ_=>aeJ hM) d_st d_st rfl rfl rfl rfl ?_;intro J O;cbv;refine jO hS O (λ_=>aeK hM) d_st d_st rfl rfl rfl rfl ?_;intro g O;cbv;refine jO hS O (λ_=>aiR hM) d_st d_st rfl rfl rfl rfl ?_;intro y3 O;cbv;refine wB (tabxOK 5 [23] []) [] [0,1,2,6,7,8,23,24,25] (λI=>f4 92 [.lv 0 0,sI i,sI stage,.sl 1 (mI M J) false,.os 5 0 (S.lenN (mI M g)),sI y3,.sl 1 (mI M J) false,sI (S.len (mI M J)),sI I.1] [vR (eGState M w.s++[gV M w.forces,.os 1 0 (S.lenN (ig M I.2.1)),.os 2 0 (S.lenN (M.m Bool eB I.2.2)),.os 3 0 (S.lenN (M.m Bool eB w.done)),.os 4 0 (S.lenN (M.m (List Int) (eL M 1 (eI .i64)) w.hits))]),aR 17 (ig M I.2.1),aR 1 (M.m Bool eB I.2.2),aR 1 (M.m Bool eB w.done),aR 1 (M.m (List Int) (eL M 1 (eI .i64)) w.hits),aR 1 (mI M g)]) O ?_;intro Ik5 k5 I hk5 O e he;subst he;unfold pz at O;cbv;refine gu ?_ ?_
 ·intro O;cbv;refine lH ?_;intro x7 O;cbv;refine lH ?_;intro x8 O;cbv;refine wB (tabxOK 5 [23] []) [] [0,1,2,6,7,8,10,23,24,25,36,37,38] (λC=>f4 92 [.lv 0 0,sI i,sI stage,.sl 1 (mI M J) false,.os 5 0 (S.lenN (mI M g)),sI y3,sI x7,.sl 1 (mI M J) false,sI (S.len (mI M J)),sI I.1,xX M x8.jY,sI (S.len (Oj M x8.jY)),sI C.1] [vR (eGState M w.s++[gV M w.forces,.os 1 0 (S.lenN (ig M C.2.1)),.os 2 0 (S.lenN (M.m Bool eB C.2.2)),.os 3 0 (S.lenN (M.m Bool eB w.done)),.os 4 0 (S.lenN (M.m (List Int) (eL M 1 (eI .i64)) w.hits))]),aR 17 (ig M C.2.1),aR 1 (M.m Bool eB C.2.2),aR 1 (M.m Bool eB w.done),aR 1 (M.m (List Int) (eL M 1 (eI .i64)) w.hits),aR 1 (mI M g)]) O ?_;intro Ik10 k10 C hk10 O e he;subst he;unfold pq at O;cbv;refine gu ?_ ?_
  ·intro O;cbv;refine jJ [] [0,1,2,6,7,8,10,23,24,25,36,37,38] (λU=>f4 92 [.lv 0 0,sI i,sI stage,.sl 1 (mI M J) false,.os 5 0 (S.lenN (mI M g)),sI y3,sI x7,.sl 1 (mI M J) false,sI (S.len (mI M J)),sI I.1,xX M x8.jY,sI (S.len (Oj M x8.jY)),sI C.1] [vR (eGState M w.s++[gV M w.forces,.os 1 0 (S.lenN (ig M U.1)),.os 2 0 (S.lenN (M.m Bool eB U.2)),.os 3 0 (S.lenN (M.m Bool eB w.done)),.os 4 0 (S.lenN (M.m (List Int) (eL M 1 (eI .i64)) w.hits))]),aR 17 (ig M U.1),aR 1 (M.m Bool eB U.2),aR 1 (M.m Bool eB w.done),aR 1 (M.m (List Int) (eL M 1 (eI .i64)) w.hits),aR 1 (mI M g)]) O ?_ ?_
   intro Ik13 k13 hk13 O;cbv;refine lH ?_;intro x15 O;cbv;refine iH (ad6 hM) ?_;intro y16 O;cbv;refine gu ?_ ?_
   exact iC
   intro O;cbv;refine zU hS ?_;cbv;refine rD hS O d_e rfl ?_;intro j17 _ O;cbv;refine mW hS hM O rfl d_e ?_;intro x18 O;cbv;refine rD hS O d_e rfl ?_;intro j19 _ O;cbv;refine mW hS hM O rfl d_e ?_;intro x20 O;cbv;refine Ac hS O (λ_=>c340 hM) ?_;intro y21 O;cbv;refine rD hS O d_e rfl ?_;intro j22 _ O;cbv;refine mW hS hM O rfl d_e ?_;intro x23 O;cbv;refine gu ?_ ?_
   intro O;cbv;refine rD hS O d_e rfl ?_;intro j24 _ O;cbv;refine d_wk hS (e:=eB) O ai ?_;intro x25 O;cbv;refine mW hS hM O rfl d_e ?_;exact jP
   exact iC
   intro U O;cbv;exact nM
  exact iC
 intro O;cbv;refine zU hS ?_;cbv;refine rD hS O d_e rfl ?_;intro j27 _ O;cbv;refine d_wk hS (e:=eB) O ai ?_;intro x28 O;cbv;refine mW hS hM O rfl d_e ?_;intro x29 O;cbv;refine rD hS O d_e rfl ?_;intro j30 _ O;cbv;refine mW hS hM O rfl d_e ?_;intro x31 O;cbv;cases O;exact hR _ _ _ d_st d_st rfl
theorem aiU {w:gI}{i:Int}{stage:Int}{r:jm}(O:pU w i stage=some r):Pv.FnS Tryz.prog glF 333 [.lv 0 0,sI i,sI stage] [(0,(vR (eGState M w.s++[gV M w.forces,.os 1 0 (M.n GTraits w.gX),.os 2 0 (M.n Bool w.dropped),.os 3 0 (M.n Bool w.done),.os 4 0 (M.n (List Int) w.hits)]))),(1,(aR 17 (ig M w.gX))),(2,(aR 1 (M.m Bool eB w.dropped))),(3,(aR 1 (M.m Bool eB w.done))),(4,(aR 1 (M.m (List Int) (eL M 1 (eI .i64)) w.hits)))] 5 (λU ss nn=>U=.agg [.sb r.Cf,.sl 1 (mI M r.hits) false,.os 5 0 (M.n Int r.numbers)]/\ss=[(0,(vR (eGState M w.s++[gV M w.forces,.os 1 0 (M.n GTraits w.gX),.os 2 0 (M.n Bool w.dropped),.os 3 0 (M.n Bool w.done),.os 4 0 (M.n (List Int) w.hits)]))),(1,(aR 17 (ig M w.gX))),(2,(aR 1 (M.m Bool eB w.dropped))),(3,(aR 1 (M.m Bool eB w.done))),(4,(aR 1 (M.m (List Int) (eL M 1 (eI .i64)) w.hits))),(5,(aR 1 (mI M r.numbers)))]/\nn=6):=by
 refine mr (T:=(tabx 5 [] [[(0,false),(0,false),(1,true)]])) (tabxOK 5 [] [[(0,false),(0,false),(1,true)]]) wf func333 rfl call333 rfl [] ?_;intro S R hS hR;have q:=sf hM hS;unfold pU at O;cbv;refine jO hS O (λ_=>aeI hM) d_st d_st rfl rfl rfl rfl ?_;intro I O;cbv;refine jO hS O (λ_=>aeJ hM) d_st d_st rfl rfl rfl rfl ?_;intro J O;cbv;refine jO hS O (λ_=>aeK hM) d_st d_st rfl rfl rfl rfl ?_;intro y3 O;cbv;cases O;exact hR _ _ _ d_st d_st rfl
theorem c333 {w:gI}{i:Int}{stage:Int}{r:jm}(O:sO w i stage=some r):fV 333 [.pp (kG M w),sI i,sI stage] (λu=>u=.agg (mF M r)):=by
 refine iw gW func333 call333 ?_;intro S R hS hR q;unfold sO at O;cbv;refine iH (akz hM) ?_;intro y1 O;cbv;refine iH (c337 hM) ?_;intro y2 O;cbv;refine iH (c338 hM) ?_;exact ja
theorem c382 {l:List jv}{r:Bool}(O:JR l=some r):fV 382 [xX M l] (λu=>u=.sb r):=by
 refine iw gW func382 call382 ?_;intro S R hS hR q;unfold JR at O;cbv;refine iH (c167 hM) ?_;exact ja
end
end Go.Proofs.YtchmoabpofnbaaaGreat
