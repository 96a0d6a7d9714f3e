import Derived.Test.YtchmoabpofnbaaaGreatB25
set_option linter.all false
namespace Go.Proofs.YtchmoabpofnbaaaGreat
open Go Go.Pv Proofs.Tryz
set_option maxRecDepth 100000
set_option maxHeartbeats 2000000
variable [GM]
section
variable {M:EncM}(hM:M=mapE)
include hM
theorem aeJ {w:gI}{i:Int}{r:List Int}(O:kW w i=some r):Pv.FnS Tryz.prog glF 337 [.lv 0 0,sI i] [(0,(vR (eGState M w.s++[gV M w.forces,.os 1 0 (M.n GTraits w.gX),.os 2 0 (M.n Bool w.dropped),.os 3 0 (M.n Bool w.done),.os 4 0 (M.n (List Int) w.hits)]))),(1,(aR 17 (ig M w.gX))),(2,(aR 1 (M.m Bool eB w.dropped))),(3,(aR 1 (M.m Bool eB w.done))),(4,(aR 1 (M.m (List Int) (eL M 1 (eI .i64)) w.hits)))] 5 (λuu ss nn=>uu=.sl 1 (mI M r) false/\ss=[(0,(vR (eGState M w.s++[gV M w.forces,.os 1 0 (M.n GTraits w.gX),.os 2 0 (M.n Bool w.dropped),.os 3 0 (M.n Bool w.done),.os 4 0 (M.n (List Int) w.hits)]))),(1,(aR 17 (ig M w.gX))),(2,(aR 1 (M.m Bool eB w.dropped))),(3,(aR 1 (M.m Bool eB w.done))),(4,(aR 1 (M.m (List Int) (eL M 1 (eI .i64)) w.hits)))]/\nn=5):=by
 refine mr (T:=(tabx 5 [20,25] [[(0,true)]])) (tabxOK 5 [20,25] [[(0,true)]]) wf func337 rfl call337 rfl [] ?_;intro S R hS hR;have q:=sf hM hS;unfold kW at O;cbv;refine rD hS O d_e rfl ?_;intro j1 _ O;cbv;refine mW hS hM O rfl d_e ?_;intro x2 O;cbv;refine iq ?_ ?_
 intro O;cbv;refine rD hS O d_e rfl ?_;intro j3 _ O;cbv;refine mW hS hM O rfl d_e ?_;intro x4 O;cbv;cases O;exact hR _ _ _ ai ai rfl
 intro O;cbv;refine jO hS O (λ_=>aeI hM) d_st d_st rfl rfl rfl rfl ?_;intro y5 O;cbv;refine gu ?_ ?_
 exact fE
 intro O;cbv;refine zU hS ?_;cbv;refine lH ?_;intro g O;cbv;refine Q5 hS O (λ_=>agG hM) AQ (λ_=>rfl) ?_;intro C O;cbv;refine wB (tabxOK 5 [20,25] [[(0,true)]]) [.tO 7 1] [0,5,6,7,42,43,44] (λU=>f4 90 [.lv 0 0,.lv 5 0,sI C,.os 6 0 (S.lenN (mI M U.2)),kP M w.s.objects,sI (S.len (lK M w.s.objects)),sI U.1] [vR (eGState M w.s++[gV M w.forces,.os 1 0 (S.lenN (ig M w.gX)),.os 2 0 (S.lenN (M.m Bool eB w.dropped)),.os 3 0 (S.lenN (M.m Bool eB w.done)),.os 4 0 (S.lenN (M.m (List Int) (eL M 1 (eI .i64)) w.hits))]),aR 17 (ig M w.gX),aR 1 (M.m Bool eB w.dropped),aR 1 (M.m Bool eB w.done),aR 1 (M.m (List Int) (eL M 1 (eI .i64)) w.hits),vR (jb M g),aR 1 (mI M U.2)]) O ?_;intro Ik9 k9 U hk9 O e he;subst he;unfold nz at O;cbv;refine gu ?_ ?_
 ·intro O;cbv;refine jJ [.tO 7 1] [0,5,6,7,42,43,44] (λJ=>f4 90 [.lv 0 0,.lv 5 0,sI C,.os 6 0 (S.lenN (mI M J)),kP M w.s.objects,sI (S.len (lK M w.s.objects)),sI U.1] [vR (eGState M w.s++[gV M w.forces,.os 1 0 (S.lenN (ig M w.gX)),.os 2 0 (S.lenN (M.m Bool eB w.dropped)),.os 3 0 (S.lenN (M.m Bool eB w.done)),.os 4 0 (S.lenN (M.m (List Int) (eL M 1 (eI .i64)) w.hits))]),aR 17 (ig M w.gX),aR 1 (M.m Bool eB w.dropped),aR 1 (M.m Bool eB w.done),aR 1 (M.m (List Int) (eL M 1 (eI .i64)) w.hits),vR (jb M g),aR 1 (mI M J)]) O ?_ ?_
  ·intro Ik12 k12 hk12 O;cbv;refine lH ?_;intro x14 O;cbv;refine jJ [] [0,5,6,7,8,42,43,44,83] (λI=>f4 90 [.lv 0 0,.lv 5 0,sI C,.os 6 0 (S.lenN (mI M U.2)),sI U.1,kP M w.s.objects,sI (S.len (lK M w.s.objects)),sI U.1,.sb I] [vR (eGState M w.s++[gV M w.forces,.os 1 0 (S.lenN (ig M w.gX)),.os 2 0 (S.lenN (M.m Bool eB w.dropped)),.os 3 0 (S.lenN (M.m Bool eB w.done)),.os 4 0 (S.lenN (M.m (List Int) (eL M 1 (eI .i64)) w.hits))]),aR 17 (ig M w.gX),aR 1 (M.m Bool eB w.dropped),aR 1 (M.m Bool eB w.done),aR 1 (M.m (List Int) (eL M 1 (eI .i64)) w.hits),vR (jb M g),aR 1 (mI M U.2)]) O ?_ ?_
   intro Ik16 k16 hk16 O;cbv;refine zU hS ?_;cbv;refine gu ?_ ?_
   intro O;cbv;refine iq ?_ ?_
   intro O;cbv;refine Ac hS O (λ_=>c78 hM) ?_;intro y18 O;cbv;refine iq ?_ ?_
   exact iC
   intro O;cbv;refine gu ?_ ?_
   intro O;cbv;refine rD hS O d_e rfl ?_;intro j19 _ O;cbv;refine mW hS hM O rfl d_e ?_;intro x20 O;cbv;refine Ac hS O (λ_=>aaj hM) ?_;exact jP
   exact iC
   intro O;cbv;refine gu ?_ ?_
   intro O;cbv;refine rD hS O d_e rfl ?_;intro j22 _ O;cbv;refine mW hS hM O rfl d_e ?_;intro x23 O;cbv;refine Ac hS O (λ_=>aaj hM) ?_;exact jP
   exact iC
   exact iC
   intro I O;cbv;refine iq ?_ ?_
   intro O;cbv;refine d_room hS O d_e ?_;exact iC
   exact iC
  intro J O;cbv;exact nM
 intro O;cbv;cases O;exact hR _ _ _ ai ai rfl
theorem aeK {w:gI}{i:Int}{stage:Int}{r:List Int}(O:lJ w i stage=some r):Pv.FnS Tryz.prog glF 338 [.lv 0 0,sI i,sI stage] [(0,(vR (eGState M w.s++[gV M w.forces,.os 1 0 (M.n GTraits w.gX),.os 2 0 (M.n Bool w.dropped),.os 3 0 (M.n Bool w.done),.os 4 0 (M.n (List Int) w.hits)]))),(1,(aR 17 (ig M w.gX))),(2,(aR 1 (M.m Bool eB w.dropped))),(3,(aR 1 (M.m Bool eB w.done))),(4,(aR 1 (M.m (List Int) (eL M 1 (eI .i64)) w.hits)))] 5 (λuu ss nn=>uu=.os 5 0 (M.n Int r)/\ss=[(0,(vR (eGState M w.s++[gV M w.forces,.os 1 0 (M.n GTraits w.gX),.os 2 0 (M.n Bool w.dropped),.os 3 0 (M.n Bool w.done),.os 4 0 (M.n (List Int) w.hits)]))),(1,(aR 17 (ig M w.gX))),(2,(aR 1 (M.m Bool eB w.dropped))),(3,(aR 1 (M.m Bool eB w.done))),(4,(aR 1 (M.m (List Int) (eL M 1 (eI .i64)) w.hits))),(5,(aR 1 (mI M r)))]/\nn=6):=by
 refine mr (T:=(tabx 5 [12,17] [[(1,true)]])) (tabxOK 5 [12,17] [[(1,true)]]) wf func338 rfl call338 rfl [] ?_;intro S R hS hR;have q:=sf hM hS;unfold lJ at O;cbv;refine lH ?_;intro U O;cbv;refine N7 hS O d_e d_e ?_;intro j2 O;cbv;refine d_wk hS (e:=(eI .i64)) O ai ?_;intro x3 O;cbv;refine wB (tabxOK 5 [12,17] [[(1,true)]]) [] [0,1,2,7,8,23,24,25] (λJ=>f4 62 [.lv 0 0,sI i,sI stage,.lv 5 0,.os 6 0 (S.lenN (mI M J.2)),xX M U.jY,sI (S.len (Oj M U.jY)),sI J.1] [vR (eGState M w.s++[gV M w.forces,.os 1 0 (S.lenN (ig M w.gX)),.os 2 0 (S.lenN (M.m Bool eB w.dropped)),.os 3 0 (S.lenN (M.m Bool eB w.done)),.os 4 0 (S.lenN (M.m (List Int) (eL M 1 (eI .i64)) w.hits))]),aR 17 (ig M w.gX),aR 1 (M.m Bool eB w.dropped),aR 1 (M.m Bool eB w.done),aR 1 (M.m (List Int) (eL M 1 (eI .i64)) w.hits),vR (jb M U),aR 1 (mI M J.2)]) O ?_;intro Ik5 k5 J hk5 O e he;subst he;unfold nO at O;cbv;refine gu ?_ ?_
 ·intro O;cbv;refine jJ [] [0,1,2,7,8,23,24,25] (λC=>f4 62 [.lv 0 0,sI i,sI stage,.lv 5 0,.os 6 0 (S.lenN (mI M C)),xX M U.jY,sI (S.len (Oj M U.jY)),sI J.1] [vR (eGState M w.s++[gV M w.forces,.os 1 0 (S.lenN (ig M w.gX)),.os 2 0 (S.lenN (M.m Bool eB w.dropped)),.os 3 0 (S.lenN (M.m Bool eB w.done)),.os 4 0 (S.lenN (M.m (List Int) (eL M 1 (eI .i64)) w.hits))]),aR 17 (ig M w.gX),aR 1 (M.m Bool eB w.dropped),aR 1 (M.m Bool eB w.done),aR 1 (M.m (List Int) (eL M 1 (eI .i64)) w.hits),vR (jb M U),aR 1 (mI M C)]) O ?_ ?_
  ·intro Ik8 k8 hk8 O;cbv;refine lH ?_;intro x10 O;cbv;refine jJ [] [0,1,2,7,8,9,10,23,24,25,39] (λI=>f4 62 [.lv 0 0,sI i,sI stage,.lv 5 0,.os 6 0 (S.lenN (mI M J.2)),sI J.1,.lv 7 0,xX M U.jY,sI (S.len (Oj M U.jY)),sI J.1,.sb I] [vR (eGState M w.s++[gV M w.forces,.os 1 0 (S.lenN (ig M w.gX)),.os 2 0 (S.lenN (M.m Bool eB w.dropped)),.os 3 0 (S.lenN (M.m Bool eB w.done)),.os 4 0 (S.lenN (M.m (List Int) (eL M 1 (eI .i64)) w.hits))]),aR 17 (ig M w.gX),aR 1 (M.m Bool eB w.dropped),aR 1 (M.m Bool eB w.done),aR 1 (M.m (List Int) (eL M 1 (eI .i64)) w.hits),vR (jb M U),aR 1 (mI M J.2),vR (uz M x10)]) O ?_ ?_
   intro Ik12 k12 g O;cbv;refine gu ?_ ?_
   intro O;cbv;refine iH (ad6 hM) ?_;exact jP
   exact iC
   intro I O;cbv;refine iq ?_ ?_
   intro O;cbv;refine zU hS ?_;cbv;refine Q5 hS O (λ_=>agG hM) AQ (λ_=>rfl) ?_;intro y15 O;cbv;refine Ij hS O (λ_=>aiS hM) d_st d_st rfl rfl ?_;intro y16 O;cbv;refine rD hS O d_e rfl ?_;intro j17 _ O;cbv;refine mW hS hM O rfl d_e ?_;exact jP
   exact iC
  intro C O;cbv;exact nM
 intro O;cbv;cases O;exact hR _ _ _ ai ai rfl
end
variable [GM]
section
variable {M:EncM}(hM:M=mapE)
include hM
theorem c238 {pr:lu}{r:Bool}(O:Tt pr=some r):fV 238 [.agg (oU M pr)] (λu=>u=.sb r):=by
 refine iw (gY [12,18]) func238 call238 ?_;intro S R hS hR q;unfold Tt at O;cbv;refine gu ?_ ?_
 intro O;cbv;refine iH (c313 hM) ?_;exact ja
 intro O;cbv;refine iH (c314 hM) ?_;intro y2 O;cbv;refine gu ?_ ?_
 exact gQ
 intro O;cbv;replace O:=uZ O;refine jJ [] [1,3,4] (λs4=>f4 127 [.lv 0 0,.sb s4.1,.sb s4.2] [vR (oU M pr)]) O ?_ ?_
 intro Ik5 k5 hk5 O;cbv;refine gu ?_ ?_
 exact iC
 intro O;cbv;refine gu ?_ ?_<;>exact iC
 intro s4 O;cbv;refine gu ?_ ?_
 intro O;cbv;refine jJ [] [1,3,51] (λs7=>f4 127 [.lv 0 0,.sb s4.1,.sb s7] [vR (oU M pr)]) O ?_ ?_
 intro Ik8 k8 hk8 O;cbv;refine gu ?_ ?_
 intro O;cbv;refine gu ?_ ?_
 intro O;cbv;refine gu ?_ ?_<;>exact iC
 exact iC
 exact iC
 intro s7 O;cbv;refine iq ?_ ?_
 exact gQ
 intro O;cbv;refine gu ?_ ?_
 intro O;cbv;refine iH (aiQ hM) ?_;intro y10 O;cbv;refine iq ?_ ?_
 exact gQ
 intro O;cbv;refine gu ?_ ?_
 exact gQ
 intro O;cbv;refine gu ?_ ?_<;>exact gQ
 intro O;cbv;refine gu ?_ ?_
 exact gQ
 intro O;cbv;refine gu ?_ ?_<;>exact gQ
 intro O;cbv;refine gu ?_ ?_
 intro O;cbv;refine iq ?_ ?_
 intro O;cbv;refine gu ?_ ?_
 intro O;cbv;refine iH (aiQ hM) ?_;exact ja
 exact gQ
 exact gQ
 intro O;cbv;refine gu ?_ ?_
 intro O;cbv;refine gu ?_ ?_
 intro O;cbv;refine gu ?_ ?_
 intro O;cbv;refine gu ?_ ?_<;>exact gQ
 exact gQ
 intro O;cbv;refine gu ?_ ?_
 intro O;cbv;refine gu ?_ ?_
 intro O;cbv;refine gu ?_ ?_<;>exact gQ
 exact gQ
 exact gQ
 intro O;cbv;refine gu ?_ ?_
 intro O;cbv;refine iq ?_ ?_
 intro O;cbv;refine gu ?_ ?_
 intro O;cbv;refine gu ?_ ?_<;>exact gQ
 exact gQ
 exact gQ
 intro O;cbv;refine gu ?_ ?_
 intro O;cbv;refine iq ?_ ?_
 intro O;cbv;refine gu ?_ ?_
 intro O;cbv;refine gu ?_ ?_<;>exact gQ
 exact gQ
 exact gQ
 intro O;cbv;refine gu ?_ ?_
 intro O;cbv;refine iq ?_ ?_
 intro O;cbv;refine gu ?_ ?_
 intro O;cbv;refine gu ?_ ?_<;>exact gQ
 exact gQ
 exact gQ
 exact gQ
theorem c115 {cards:List GCard}{s:GState}{pe:GEvent}{r:Bool}(O:zn cards s pe=some r):fV 115 [jR M cards,.agg (eGState M s),.agg (eGEvent M pe)] (λu=>u=.sb r):=by
 refine iw gW func115 call115 ?_;intro S R hS hR q;unfold zn at O;cbv;refine iH (agE hM) ?_;intro y1 O;cbv;refine gu ?_ ?_
 intro O;cbv;refine iH (c205 hM) ?_;exact ja
 intro O;cbv;refine gu ?_ ?_
 intro O;cbv;refine iH (c206 hM) ?_;exact ja
 intro O;cbv;refine gu ?_ ?_
 intro O;cbv;refine iH (TD hM) ?_;exact ja
 intro O;cbv;refine gu ?_ ?_
 intro O;cbv;refine iH (TD hM) ?_;exact ja
 intro O;cbv;refine gu ?_ ?_
 intro O;cbv;refine iH (TD hM) ?_;exact ja
 intro O;cbv;refine gu ?_ ?_
 intro O;cbv;refine iH (TD hM) ?_;exact ja
 intro O;cbv;refine gu ?_ ?_
 intro O;cbv;refine iH (TD hM) ?_;intro y8 O;cbv;refine iq ?_ ?_
 intro O;cbv;refine iH (c208 hM) ?_;exact ja
 exact gQ
 intro O;cbv;refine gu ?_ ?_
 intro O;cbv;refine iH (TD hM) ?_;intro y10 O;cbv;refine iq ?_ ?_
 intro O;cbv;refine iH (c208 hM) ?_;exact ja
 exact gQ
 intro O;cbv;refine gu ?_ ?_
 intro O;cbv;refine iH (TD hM) ?_;intro y12 O;cbv;refine iq ?_ ?_
 intro O;cbv;refine iH (c208 hM) ?_;exact ja
 exact gQ
 intro O;cbv;refine gu ?_ ?_
 intro O;cbv;refine iq ?_ ?_<;>exact gQ
 intro O;cbv;refine gu ?_ ?_
 intro O;cbv;refine iq ?_ ?_<;>exact gQ
 intro O;cbv;refine gu ?_ ?_
 intro O;cbv;refine iH (akA hM) ?_;exact ja
 intro O;cbv;refine gu ?_ ?_
 intro O;cbv;refine iH (akA hM) ?_;exact ja
 intro O;cbv;refine gu ?_ ?_
 intro O;cbv;refine iH (c210 hM) ?_;exact ja
 intro O;cbv;refine gu ?_ ?_
 intro O;cbv;refine iH (c62 hM) ?_;intro y17 O;cbv;refine iq ?_ ?_
 intro O;cbv;refine gu ?_ ?_
 intro O;cbv;refine iH (TD hM) ?_;exact ja
 exact gQ
 exact gQ
 intro O;cbv;refine gu ?_ ?_
 intro O;cbv;refine iq ?_ ?_
 intro O;cbv;refine iH (TD hM) ?_;exact ja
 exact gQ
 intro O;cbv;refine gu ?_ ?_
 intro O;cbv;refine iH (agE hM) ?_;intro y20 O;cbv;refine iq ?_ ?_<;>exact gQ
 exact gQ
theorem c337 {w:gI}{i:Int}{r:List Int}(O:oM w i=some r):fV 337 [.pp (kG M w),sI i] (λu=>u=.sl 1 (mI M r) false):=by
 refine iw (gY [20,25]) func337 call337 ?_;intro S R hS hR q;unfold oM at O;cbv;refine lH ?_;intro x1 O;cbv;refine iq ?_ ?_
 intro O;cbv;refine lH ?_;exact ja
 intro O;cbv;refine iH (akz hM) ?_;intro y3 O;cbv;refine gu ?_ ?_
 intro O;cbv;cases O;exact hR _ bK
 intro O;cbv;refine zU hS ?_;cbv;refine lH ?_;intro x4 O;cbv;refine Ac hS O (λ_=>agG hM) ?_;intro y5 O;cbv;refine wB (gY [20,25]) [.tO 7 1] [0,5,6,7,42,43,44] (λs6=>f4 90 [.pp (kG M w),.lv 0 0,sI y5,.os 1 0 (S.lenN (mI M s6.2)),kP M w.s.objects,sI (S.len (lK M w.s.objects)),sI s6.1] [vR (jb M x4),aR 1 (mI M s6.2)]) O ?_;intro Ik7 k7 s6 hk7 O e he;subst he;unfold pF at O;cbv;refine gu ?_ ?_
 intro O;cbv;refine jJ [.tO 7 1] [0,5,6,7,42,43,44] (λs9=>f4 90 [.pp (kG M w),.lv 0 0,sI y5,.os 1 0 (S.lenN (mI M s9)),kP M w.s.objects,sI (S.len (lK M w.s.objects)),sI s6.1] [vR (jb M x4),aR 1 (mI M s9)]) O ?_ ?_
 intro Ik10 k10 hk10 O;cbv;refine lH ?_;intro x12 O;cbv;refine jJ [] [0,5,6,7,8,42,43,44,83] (λs13=>f4 90 [.pp (kG M w),.lv 0 0,sI y5,.os 1 0 (S.lenN (mI M s6.2)),sI s6.1,kP M w.s.objects,sI (S.len (lK M w.s.objects)),sI s6.1,.sb s13] [vR (jb M x4),aR 1 (mI M s6.2)]) O ?_ ?_
 intro Ik14 k14 hk14 O;cbv;refine zU hS ?_;cbv;refine gu ?_ ?_
 intro O;cbv;refine iq ?_ ?_
 intro O;cbv;refine Ac hS O (λ_=>c78 hM) ?_;intro y16 O;cbv;refine iq ?_ ?_
 exact iC
 intro O;cbv;refine gu ?_ ?_
 intro O;cbv;refine lH ?_;intro x17 O;cbv;refine Ac hS O (λ_=>aaj hM) ?_;exact jP
 exact iC
 intro O;cbv;refine gu ?_ ?_
 intro O;cbv;refine lH ?_;intro x19 O;cbv;refine Ac hS O (λ_=>aaj hM) ?_;exact jP
 exact iC
 exact iC
 intro s13 O;cbv;refine iq ?_ ?_
 intro O;cbv;refine d_room hS O d_e ?_;exact iC
 exact iC
 intro s9 O;cbv;exact nM
 exact gQ
theorem c360 {cards:List GCard}{s:GState}{all:List GTraits}{pe:GEvent}{pr:lu}{you:Int}{source:Int}{r:Bool}(O:uH cards s all pe pr you source=some r):fV 360 [jR M cards,.agg (eGState M s),oH M all,.agg (eGEvent M pe),.agg (oU M pr),sI you,sI source] (λu=>u=.sb r):=by
 refine iw (gY [16,24]) func360 call360 ?_;intro S R hS hR q;unfold uH at O;cbv;refine gu ?_ ?_
 exact gQ
 intro O;cbv;refine gu ?_ ?_
 intro O;cbv;refine gu ?_ ?_
 intro O;cbv;refine jJ [] [14] (λs1=>f4 111 [.sb s1] []) O ?_ ?_
 intro Ik2 k2 hk2 O;cbv;refine gu ?_ ?_
 intro O;cbv;refine iH (c359 hM) ?_;intro y4 O;cbv;refine oO hS O (λ_=>agH hM) (le_eq rfl) (λ_=>rfl) ?_;exact jP
 exact iC
 intro s1 O;cbv;exact qO
 intro O;cbv;refine gu ?_ ?_
 intro O;cbv;refine oO hS O (λ_=>aeF hM) (le_eq rfl) (λ_=>rfl) ?_;exact ja
 exact gQ
 intro O;cbv;refine gu ?_ ?_
 intro O;cbv;refine gu ?_ ?_
 intro O;cbv;refine jJ [] [14] (λs7=>f4 111 [.sb s7] []) O ?_ ?_
 intro Ik8 k8 hk8 O;cbv;refine gu ?_ ?_
 intro O;cbv;refine gu ?_ ?_
 intro O;cbv;refine iH (c359 hM) ?_;intro y10 O;cbv;refine oO hS O (λ_=>agH hM) (le_eq rfl) (λ_=>rfl) ?_;exact jP
 exact iC
 exact iC
 intro s7 O;cbv;exact qO
 intro O;cbv;refine gu ?_ ?_
 intro O;cbv;refine iH (c361 hM) ?_;intro y12 O;cbv;refine oO hS O (λ_=>agH hM) (le_eq rfl) (λ_=>rfl) ?_;exact ja
 exact gQ
 intro O;cbv;refine gu ?_ ?_
 intro O;cbv;refine iH (c359 hM) ?_;intro y14 O;cbv;refine oO hS O (λ_=>agH hM) (le_eq rfl) (λ_=>rfl) ?_;exact ja
 intro O;cbv;refine gu ?_ ?_
 intro O;cbv;refine oO hS O (λ_=>aeF hM) (le_eq rfl) (λ_=>rfl) ?_;exact ja
 intro O;cbv;refine gu ?_ ?_
 intro O;cbv;refine oO hS O (λ_=>aeF hM) (le_eq rfl) (λ_=>rfl) ?_;exact ja
 intro O;cbv;refine gu ?_ ?_
 intro O;cbv;refine oO hS O (λ_=>aeF hM) (le_eq rfl) (λ_=>rfl) ?_;exact ja
 intro O;cbv;refine gu ?_ ?_
 intro O;cbv;refine oO hS O (λ_=>aeF hM) (le_eq rfl) (λ_=>rfl) ?_;exact ja
 exact gQ
end
variable [GM]
section
variable {M:EncM}(hM:M=mapE)
include hM
theorem c338 {w:gI}{i:Int}{stage:Int}{r:List Int}(O:pV w i stage=some r):fV 338 [.pp (kG M w),sI i,sI stage] (λu=>u=.sl 1 (mI M r) false):=by
 refine iw (gY [12,17]) func338 call338 ?_;intro S R hS hR q;unfold pV at O;cbv;refine lH ?_;intro x1 O;cbv;refine N7 hS O d_e d_e ?_;intro j2 O;cbv;refine d_wk hS (e:=(eI .i64)) O ai ?_;intro x3 O;cbv;refine wB (gY [12,17]) [] [0,1,2,7,8,23,24,25] (λs4=>f4 62 [.pp (kG M w),sI i,sI stage,.lv 0 0,.os 1 0 (S.lenN (mI M s4.2)),xX M x1.jY,sI (S.len (Oj M x1.jY)),sI s4.1] [vR (jb M x1),aR 1 (mI M s4.2)]) O ?_;intro Ik5 k5 s4 hk5 O e he;subst he;unfold qg at O;cbv;refine gu ?_ ?_
 intro O;cbv;refine jJ [] [0,1,2,7,8,23,24,25] (λs7=>f4 62 [.pp (kG M w),sI i,sI stage,.lv 0 0,.os 1 0 (S.lenN (mI M s7)),xX M x1.jY,sI (S.len (Oj M x1.jY)),sI s4.1] [vR (jb M x1),aR 1 (mI M s7)]) O ?_ ?_
 intro Ik8 k8 hk8 O;cbv;refine lH ?_;intro x10 O;cbv;refine jJ [] [0,1,2,7,8,9,10,23,24,25,39] (λs11=>f4 62 [.pp (kG M w),sI i,sI stage,.lv 0 0,.os 1 0 (S.lenN (mI M s4.2)),sI s4.1,.lv 2 0,xX M x1.jY,sI (S.len (Oj M x1.jY)),sI s4.1,.sb s11] [vR (jb M x1),aR 1 (mI M s4.2),vR (uz M x10)]) O ?_ ?_
 intro Ik12 k12 hk12 O;cbv;refine gu ?_ ?_
 intro O;cbv;refine iH (ad6 hM) ?_;exact jP
 exact iC
 intro s11 O;cbv;refine iq ?_ ?_
 intro O;cbv;refine zU hS ?_;cbv;refine Ac hS O (λ_=>agG hM) ?_;intro y15 O;cbv;refine Ij hS O (λ_=>aiT hM) d_st d_st rfl rfl ?_;intro y16 O;cbv;refine rD hS O d_e rfl ?_;intro j17 _ O;cbv;refine mW hS hM O rfl d_e ?_;exact jP
 exact iC
 intro s7 O;cbv;exact nM
 exact gQ
theorem c247 {left:List Int}{stamps:List Int}{needs:List (List Bool)}{r:Int}(O:BN left stamps needs=some r):fV 247 [.sl 1 (mI M left) false,.sl 1 (mI M stamps) false,.sl 1 (M.m (List Bool) (eL M 1 eB) needs) false] (λu=>u=sI r):=by
 refine iw (gY [16,21]) func247 call247 ?_;intro S R hS hR q;unfold BN at O;cbv;refine iH (c330 hM) ?_;intro y1 O;cbv;refine wB (gY [16,21]) [] [1,7,14,15,16] (λs2=>f4 45 [.sl 1 (mI M stamps) false,sI s2.1,.sl 1 (mI M y1) false,sI (S.len (mI M y1)),sI s2.2] []) O ?_;intro Ik3 k3 s2 hk3 O e he;subst he;unfold zB at O;cbv;refine gu ?_ ?_
 intro O;cbv;refine jJ [] [1,7,14,15,16] (λs5=>f4 45 [.sl 1 (mI M stamps) false,sI s5,.sl 1 (mI M y1) false,sI (S.len (mI M y1)),sI s2.2] []) O ?_ ?_
 intro Ik6 k6 hk6 O;cbv;refine lH ?_;intro x8 O;cbv;refine gu ?_ ?_
 exact iC
 intro O;cbv;refine iH (akc hM) ?_;intro y9 O;cbv;refine iH (akc hM) ?_;intro y10 O;cbv;refine jJ [] [1,7,9,14,15,16,41] (λs11=>f4 45 [.sl 1 (mI M stamps) false,sI s2.1,sI x8,.sl 1 (mI M y1) false,sI (S.len (mI M y1)),sI s2.2,.sb s11] []) O ?_ ?_
 intro Ik12 k12 hk12 O;cbv;refine gu ?_ ?_
 exact iC
 intro O;cbv;refine gu ?_ ?_<;>exact iC
 intro s11 O;cbv;refine iq ?_ ?_<;>exact iC
 intro s5 O;cbv;exact nM
 exact gQ
theorem c19 {a:GState}{b:GState}{r:Bool}(O:J7 a b=some r):fV 19 [.agg (eGState M a),.agg (eGState M b)] (λu=>u=.sb r):=by
 refine iw (gY [2]) func19 call19 ?_;intro S R hS hR q;unfold J7 at O;cbv;refine jJ [] [2,3,79] (λs1=>f4 104 [.lv 0 0,.lv 1 0,.sb s1] [vR (eGState M a),vR (eGState M b)]) O ?_ ?_
 intro Ik2 k2 hk2 O;cbv;refine gu ?_ ?_
 exact iC
 intro O;cbv;refine gu ?_ ?_
 exact iC
 intro O;cbv;refine gu ?_ ?_
 exact iC
 intro O;cbv;refine gu ?_ ?_
 exact iC
 intro O;cbv;refine gu ?_ ?_
 exact iC
 intro O;cbv;refine gu ?_ ?_
 exact iC
 intro O;cbv;refine gu ?_ ?_
 exact iC
 intro O;cbv;refine gu ?_ ?_
 exact iC
 intro O;cbv;refine gu ?_ ?_
 exact iC
 intro O;cbv;refine gu ?_ ?_<;>exact iC
 intro s1 O;cbv;refine iq ?_ ?_
 exact gQ
 intro O;cbv;refine iH (c51 hM) ?_;intro y4 O;cbv;refine iq ?_ ?_
 intro O;cbv;refine iH (c52 hM) ?_;intro y5 O;cbv;refine iq ?_ ?_
 intro O;cbv;refine iH (c52 hM) ?_;intro y6 O;cbv;refine iq ?_ ?_
 intro O;cbv;refine iH (c52 hM) ?_;exact ja
 exact gQ
 exact gQ
 exact gQ
theorem c167 {l:List jv}{r:ByteArray}(O:tJ l=some r):fV 167 [xX M l] (λu=>u=.str r):=by
 refine iw (gY [2,13,23]) func167 call167 ?_;intro S R hS hR q;unfold tJ at O;cbv;refine jJ [] [0,12] (λs1=>f4 37 [xX M l,.sb s1] []) O ?_ ?_
 intro Ik2 k2 hk2 O;cbv;refine gu ?_ ?_<;>exact iC
 intro s1 O;cbv;refine iq ?_ ?_
 exact gQ
 intro O;cbv;refine wB (gY [2,13,23]) [] [0,3,4] (λs4=>f4 37 [xX M l,.str s4.1,sI s4.2] []) O ?_;intro Ik5 k5 s4 hk5 O e he;subst he;unfold xy at O;cbv;refine gu ?_ ?_
 intro O;cbv;refine jJ [] [0,3,4] (λs7=>f4 37 [xX M l,.str s7,sI s4.2] []) O ?_ ?_
 intro Ik8 k8 hk8 O;cbv;refine lH ?_;intro x10 O;cbv;refine iH (aky hM) ?_;intro y11 O;cbv;refine gu ?_ ?_
 exact gQ
 intro O;cbv;refine jJ [] [0,3,4] (λs12=>f4 37 [xX M l,.str s12,sI s4.2] []) O ?_ ?_
 intro Ik13 k13 hk13 O;cbv;refine gu ?_ ?_
 intro O;cbv;refine nS hS O rfl rfl ?_;exact jP
 exact iC
 intro s12 O;cbv;refine lH ?_;intro x16 O;cbv;refine iH (c242 hM) ?_;intro y17 O;cbv;refine nS hS O rfl rfl ?_;exact jP
 intro s7 O;cbv;exact nM
 exact gQ
end
end Go.Proofs.YtchmoabpofnbaaaGreat
