import Derived.Test.YtchmoabpofnbaaaGreatB23
import Derived.Test.YtchmoabpofnbaaaGreatB24
set_option linter.all false
namespace Go.Proofs.YtchmoabpofnbaaaGreat
open Go Go.Pv Proofs.Tryz
set_option maxRecDepth 100000
set_option maxHeartbeats 2000000
variable [GM]
section
variable {M:EncM}(hM:M=mapE)
include hM
theorem aeI {w:gI}{i:Int}{r:Bool}(O:lW w i=some r):Pv.FnS Tryz.prog glF 408 [.lv 0 0,sI i] [(0,(vR (eGState M w.s++[gV M w.forces,.os 1 0 (M.n GTraits w.gX),.os 2 0 (M.n Bool w.dropped),.os 3 0 (M.n Bool w.done),.os 4 0 (M.n (List Int) w.hits)]))),(1,(aR 17 (ig M w.gX))),(2,(aR 1 (M.m Bool eB w.dropped))),(3,(aR 1 (M.m Bool eB w.done))),(4,(aR 1 (M.m (List Int) (eL M 1 (eI .i64)) w.hits)))] 5 (λI ss nn=>I=.sb r/\ss=[(0,(vR (eGState M w.s++[gV M w.forces,.os 1 0 (M.n GTraits w.gX),.os 2 0 (M.n Bool w.dropped),.os 3 0 (M.n Bool w.done),.os 4 0 (M.n (List Int) w.hits)]))),(1,(aR 17 (ig M w.gX))),(2,(aR 1 (M.m Bool eB w.dropped))),(3,(aR 1 (M.m Bool eB w.done))),(4,(aR 1 (M.m (List Int) (eL M 1 (eI .i64)) w.hits)))]/\nn=5):=by
 refine mr (T:=(tabx 5 [4] [])) (tabxOK 5 [4] []) wf func408 rfl call408 rfl [] ?_;intro S R hS hR;have q:=sf hM hS;unfold lW at O;cbv;refine lH ?_;intro J O;cbv;refine jJ [] [0,5,24] (λU=>f4 44 [.lv 0 0,.lv 5 0,.sb U] [vR (eGState M w.s++[gV M w.forces,.os 1 0 (S.lenN (ig M w.gX)),.os 2 0 (S.lenN (M.m Bool eB w.dropped)),.os 3 0 (S.lenN (M.m Bool eB w.done)),.os 4 0 (S.lenN (M.m (List Int) (eL M 1 (eI .i64)) w.hits))]),aR 17 (ig M w.gX),aR 1 (M.m Bool eB w.dropped),aR 1 (M.m Bool eB w.done),aR 1 (M.m (List Int) (eL M 1 (eI .i64)) w.hits),vR (jb M J)]) O ?_ ?_
 intro C k3 g O;cbv;refine iq ?_ ?_
 exact iC
 intro O;cbv;refine rD hS O d_e rfl ?_;intro j5 _ O;cbv;refine mW hS hM O rfl d_e ?_;exact jP
 intro U O;cbv;refine iq ?_ ?_
 exact fE
 intro O;cbv;refine zU hS ?_;cbv;refine Ac hS O (λ_=>agF hM) ?_;intro y7 O;cbv;refine gu ?_ ?_
 exact fE
 intro O;cbv;refine rD hS O d_e rfl ?_;intro j8 _ O;cbv;refine mW hS hM O rfl d_e ?_;intro x9 O;cbv;cases O;exact hR _ _ _ ai ai rfl
theorem aiR {w:gI}{i:Int}{r:Int}(O:qG w i=some r):Pv.FnS Tryz.prog glF 339 [.lv 0 0,sI i] [(0,(vR (eGState M w.s++[gV M w.forces,.os 1 0 (M.n GTraits w.gX),.os 2 0 (M.n Bool w.dropped),.os 3 0 (M.n Bool w.done),.os 4 0 (M.n (List Int) w.hits)]))),(1,(aR 17 (ig M w.gX))),(2,(aR 1 (M.m Bool eB w.dropped))),(3,(aR 1 (M.m Bool eB w.done))),(4,(aR 1 (M.m (List Int) (eL M 1 (eI .i64)) w.hits)))] 5 (λC ss nn=>C=sI r/\ss=[(0,(vR (eGState M w.s++[gV M w.forces,.os 1 0 (M.n GTraits w.gX),.os 2 0 (M.n Bool w.dropped),.os 3 0 (M.n Bool w.done),.os 4 0 (M.n (List Int) w.hits)]))),(1,(aR 17 (ig M w.gX))),(2,(aR 1 (M.m Bool eB w.dropped))),(3,(aR 1 (M.m Bool eB w.done))),(4,(aR 1 (M.m (List Int) (eL M 1 (eI .i64)) w.hits)))]/\nn=5):=by
 refine mr (T:=(tabx 5 [6] [])) (tabxOK 5 [6] []) wf func339 rfl call339 rfl [] ?_;intro S R hS hR;have q:=sf hM hS;unfold qG at O;cbv;refine lH ?_;intro J O;cbv;refine zU hS ?_;cbv;refine Ac hS O (λ_=>agF hM) ?_;intro I O;cbv;refine jJ [] [0,5,6,27] (λU=>f4 38 [.lv 0 0,.lv 5 0,sI I,.sb U] [vR (eGState M w.s++[gV M w.forces,.os 1 0 (S.lenN (ig M w.gX)),.os 2 0 (S.lenN (M.m Bool eB w.dropped)),.os 3 0 (S.lenN (M.m Bool eB w.done)),.os 4 0 (S.lenN (M.m (List Int) (eL M 1 (eI .i64)) w.hits))]),aR 17 (ig M w.gX),aR 1 (M.m Bool eB w.dropped),aR 1 (M.m Bool eB w.done),aR 1 (M.m (List Int) (eL M 1 (eI .i64)) w.hits),vR (jb M J)]) O ?_ ?_
 intro g k4 hk4 O;cbv;refine gu ?_ ?_<;>exact iC
 intro U O;cbv;refine iq ?_ ?_
 intro O;cbv;refine rD hS O d_e rfl ?_;intro j6 _ O;cbv;refine mW hS hM O rfl d_e ?_;intro x7 O;cbv;cases O;exact hR _ _ _ ai ai rfl
 intro O;cbv;cases O;exact hR _ _ _ ai ai rfl
theorem c51 {a:GState}{b:GState}{r:Bool}(O:G7 a b=some r):fV 51 [.agg (eGState M a),.agg (eGState M b)] (λu=>u=.sb r):=by
 refine iw (gY [2]) func51 call51 ?_;intro S R hS hR q;unfold G7 at O;cbv;refine jJ [] [2,3,52] (λs1=>f4 147 [.lv 0 0,.lv 1 0,.sb s1] [vR (eGState M a),vR (eGState M b)]) O ?_ ?_
 intro Ik2 k2 hk2 O;cbv;refine gu ?_ ?_
 exact iC
 intro O;cbv;refine gu ?_ ?_
 exact iC
 intro O;cbv;refine gu ?_ ?_
 exact iC
 intro O;cbv;refine gu ?_ ?_<;>exact iC
 intro s1 O;cbv;refine iq ?_ ?_
 exact gQ
 intro O;cbv;refine wB (gY [2]) [] [2,3,5] (λs4=>f4 147 [.lv 0 0,.lv 1 0,sI s4] [vR (eGState M a),vR (eGState M b)]) O ?_;intro Ik5 k5 s4 hk5 O e he;subst he;unfold Dt at O;cbv;refine gu ?_ ?_
 intro O;cbv;refine zU hS ?_;cbv;refine lH ?_;intro x7 O;cbv;refine lH ?_;intro x8 O;cbv;refine Ac hS O (λ_=>c117 hM) ?_;intro y9 O;cbv;refine gu ?_ ?_
 exact gQ
 exact iC
 intro O;cbv;refine wB (gY [2]) [] [2,3,6] (λs10=>f4 147 [.lv 0 0,.lv 1 0,sI s10] [vR (eGState M a),vR (eGState M b)]) O ?_;intro Ik11 k11 s10 hk11 O e he;subst he;unfold Dq at O;cbv;refine gu ?_ ?_
 intro O;cbv;refine zU hS ?_;cbv;refine lH ?_;intro x13 O;cbv;refine lH ?_;intro x14 O;cbv;replace O:=uZ O;refine gu ?_ ?_
 exact gQ
 exact iC
 intro O;cbv;refine wB (gY [2]) [] [2,3,7] (λs16=>f4 147 [.lv 0 0,.lv 1 0,sI s16] [vR (eGState M a),vR (eGState M b)]) O ?_;intro Ik17 k17 s16 hk17 O e he;subst he;unfold Dp at O;cbv;refine gu ?_ ?_
 intro O;cbv;refine zU hS ?_;cbv;refine lH ?_;intro x19 O;cbv;refine lH ?_;intro x20 O;cbv;refine Ac hS O (λ_=>c118 hM) ?_;intro y21 O;cbv;refine gu ?_ ?_
 exact gQ
 exact iC
 intro O;cbv;refine wB (gY [2]) [] [2,3,8] (λs22=>f4 147 [.lv 0 0,.lv 1 0,sI s22] [vR (eGState M a),vR (eGState M b)]) O ?_;intro Ik23 k23 s22 hk23 O e he;subst he;unfold Dn at O;cbv;refine gu ?_ ?_
 intro O;cbv;refine zU hS ?_;cbv;refine lH ?_;intro x25 O;cbv;refine lH ?_;intro x26 O;cbv;refine Ac hS O (λ_=>c119 hM) ?_;intro y27 O;cbv;refine gu ?_ ?_
 exact gQ
 exact iC
 intro O;cbv;refine wB (gY [2]) [] [2,3,9] (λs28=>f4 147 [.lv 0 0,.lv 1 0,sI s28] [vR (eGState M a),vR (eGState M b)]) O ?_;intro Ik29 k29 s28 hk29 O e he;subst he;unfold Dk at O;cbv;refine gu ?_ ?_
 intro O;cbv;refine zU hS ?_;cbv;refine lH ?_;intro x31 O;cbv;refine lH ?_;intro x32 O;cbv;refine Ac hS O (λ_=>c120 hM) ?_;intro y33 O;cbv;refine gu ?_ ?_
 exact gQ
 exact iC
 exact gQ
theorem o168 {cards:List GCard}{s:GState}{r:gI}(O:BM cards s=some r):Pv.FnS Tryz.prog glF 168 [jR M cards,.agg (eGState M s)] [] 0 (λuu ss nn=>uu=.lv 0 0/\ss=[(0,(vR (eGState M r.s++[gV M r.forces,.os 1 0 (M.n GTraits r.gX),.os 2 0 (M.n Bool r.dropped),.os 3 0 (M.n Bool r.done),.os 4 0 (M.n (List Int) r.hits)]))),(1,(aR 17 (ig M r.gX))),(2,(aR 1 (M.m Bool eB r.dropped))),(3,(aR 1 (M.m Bool eB r.done))),(4,(aR 1 (M.m (List Int) (eL M 1 (eI .i64)) r.hits)))]/\nn=5):=by
 refine fnS_dec (T:=(tabx 0 [1007] [])) (tabxOK 0 [1007] []) wf func168 rfl call168 rfl ?_;intro S R hS hR;have q:=sf hM hS;unfold BM at O;cbv;refine zU hS ?_;cbv;refine Ac hS O (λ_=>c243 hM) ?_;intro y1 O;cbv;refine N7 hS O d_e d_e ?_;intro j2 O;cbv;refine d_wk hS (e:=eB) O ai ?_;intro x3 O;cbv;refine abt hS (tabxOK 0 [1007] []) wf [.cO 33 20 17,.cR 33 21] [.cO 0 20 17,.cR 0 21] [0,5,19,20,21] (λs4=>f3 57 [(0,jR M cards),(5,.lv 0 0),(19,kP M s.objects),(20,sI (S.len (lK M s.objects))),(21,sI s4.1)] [vR (eGState M s++[gV M y1,.os 1 0 (S.lenN (ig M s4.2.1)),.os 2 0 (S.lenN (M.m Bool eB s4.2.2)),.sl 0 [] true,.sl 0 [] true]),aR 17 (ig M s4.2.1),aR 1 (M.m Bool eB s4.2.2)]) O dV ?_;intro Ik5 k5 s4 hk5 O e he;subst he;unfold zu at O;cbv;refine gu ?_ ?_
 intro O;cbv;refine lH ?_;intro x7 O;cbv;refine zU hS ?_;cbv;refine Ac hS O (λ_=>aiI hM) ?_;intro y8 O;cbv;refine d_room hS O d_e ?_;exact iC
 intro O;cbv;refine N7 hS O d_e d_e ?_;intro j9 O;cbv;refine d_wk hS (e:=eB) O ai ?_;intro x10 O;cbv;refine N7 hS O d_e d_e ?_;intro j11 O;cbv;refine d_wk hS (e:=(eL M 1 (eI .i64))) O bK ?_;intro x12 O;cbv;refine Ih hS aP ?_;cbv;cases O;exact hR _ _ _ d_st d_st rfl
end
variable [GM]
section
variable {M:EncM}(hM:M=mapE)
include hM
theorem aiS {s:GState}{all:List GTraits}{U:Int}{source:Int}{f:jf}{r:List Int}(O:xm s all U source f=some r):Pv.FnS Tryz.prog glF 413 [.agg (eGState M s),.os 0 0 (M.n GTraits all),sI U,sI source,.agg (iR M f)] [(0,(aR 17 (ig M all)))] 1 (λg ss nn=>g=.os 1 0 (M.n Int r)/\ss=[(0,(aR 17 (ig M all))),(1,(aR 1 (mI M r)))]/\nn=2):=by
 refine mr (T:=(tabx 1 [17,21] [[(1,true)]])) (tabxOK 1 [17,21] [[(1,true)]]) wf func413 rfl call413 rfl [] ?_;intro S R hS hR;have q:=sf hM hS;unfold xm at O;cbv;refine wB (tabxOK 1 [17,21] [[(1,true)]]) [.tO 11 1] [1,2,3,9,11,16,17,18] (λJ=>f4 44 [.os 0 0 (S.lenN (ig M all)),sI U,sI source,.lv 1 0,.os 2 0 (S.lenN (mI M J.2)),kP M s.objects,sI (S.len (lK M s.objects)),sI J.1] [aR 17 (ig M all),vR (iR M f),aR 1 (mI M J.2)]) O ?_;intro Ik2 k2 J hk2 O e he;subst he;unfold wK at O;cbv;refine gu ?_ ?_
 intro O;cbv;refine jJ [.tO 11 1] [1,2,3,9,11,16,17,18] (λC=>f4 44 [.os 0 0 (S.lenN (ig M all)),sI U,sI source,.lv 1 0,.os 2 0 (S.lenN (mI M C)),kP M s.objects,sI (S.len (lK M s.objects)),sI J.1] [aR 17 (ig M all),vR (iR M f),aR 1 (mI M C)]) O ?_ ?_
 intro Ik5 k5 hk5 O;cbv;refine lH ?_;intro x7 O;cbv;refine jJ [.cS 4 11 1,.cS 4 15 72,.cS 5 15 72,.cS 5 11 1] [1,2,3,9,11,13,14,16,17,18] (λI=>f4 44 [.os 0 0 (S.lenN (ig M all)),sI U,sI source,.lv 1 0,.os 2 0 (S.lenN (mI M J.2)),.lv 3 0,.lv 4 0,kP M s.objects,sI (S.len (lK M s.objects)),sI J.1] [aR 17 (ig M all),vR (iR M f),aR 1 (mI M J.2),vR (eGObject M I.1),vR (eGTraits M I.2)]) O ?_ ?_
 intro Ik9 k9 hk9 O;cbv;refine gu ?_ ?_
 intro O;cbv;refine rD hS O d_e rfl ?_;intro j11 _ O;cbv;refine mW hS hM O rfl d_e ?_;exact jP
 exact iC
 intro I O;cbv;refine iH (aaj hM) ?_;intro y13 O;cbv;refine iq ?_ ?_
 intro O;cbv;refine d_room hS O d_e ?_;exact iC
 exact iC
 intro C O;cbv;exact nM
 intro O;cbv;cases O;exact hR _ _ _ ai ai rfl
theorem c242 {m:jv}{r:ByteArray}(O:JL m=some r):fV 242 [.agg (uz M m)] (λu=>u=.str r):=by
 refine iw gW func242 call242 ?_;intro S R hS hR q;unfold JL at O;cbv;refine iH (aky hM) ?_;intro y1 O;cbv;refine gu ?_ ?_
 exact gQ
 intro O;cbv;refine gu ?_ ?_
 exact gQ
 intro O;cbv;refine gu ?_ ?_
 intro O;cbv;refine iH (aiG hM) ?_;intro y2 O;cbv;refine nS hS O rfl rfl ?_;exact ja
 intro O;cbv;refine gu ?_ ?_
 intro O;cbv;refine iH (aiG hM) ?_;intro y4 O;cbv;refine nS hS O rfl rfl ?_;exact ja
 intro O;cbv;refine gu ?_ ?_
 intro O;cbv;refine nS hS O rfl rfl ?_;exact ja
 intro O;cbv;refine gu ?_ ?_
 intro O;cbv;refine nS hS O rfl rfl ?_;exact ja
 intro O;cbv;refine gu ?_ ?_
 intro O;cbv;refine iH (akq hM) ?_;intro y8 O;cbv;refine nS hS O rfl rfl ?_;exact ja
 intro O;cbv;refine gu ?_ ?_
 intro O;cbv;refine iH (akq hM) ?_;intro y10 O;cbv;refine nS hS O rfl rfl ?_;exact ja
 intro O;cbv;refine gu ?_ ?_
 intro O;cbv;refine iH (akt hM) ?_;intro y12 O;cbv;refine nS hS O rfl rfl ?_;exact ja
 intro O;cbv;refine gu ?_ ?_
 intro O;cbv;refine iH (akt hM) ?_;intro y14 O;cbv;refine nS hS O rfl rfl ?_;exact ja
 intro O;cbv;refine gu ?_ ?_
 exact gQ
 intro O;cbv;refine gu ?_ ?_
 intro O;cbv;refine iH (c323 hM) ?_;intro y16 O;cbv;refine nS hS O rfl rfl ?_;intro x17 O;cbv;refine nS hS O rfl rfl ?_;exact ja
 intro O;cbv;refine gu ?_ ?_
 intro O;cbv;refine zU hS ?_;cbv;refine Ac hS O (λ_=>acF hM) ?_;intro y19 O;cbv;refine nS hS O rfl rfl ?_;intro x20 O;cbv;refine nS hS O rfl rfl ?_;intro x21 O;cbv;refine Ac hS O (λ_=>acF hM) ?_;intro y22 O;cbv;refine nS hS O rfl rfl ?_;exact ja
 intro O;cbv;refine gu ?_ ?_
 intro O;cbv;refine zU hS ?_;cbv;refine Ac hS O (λ_=>acF hM) ?_;intro y24 O;cbv;refine nS hS O rfl rfl ?_;intro x25 O;cbv;refine nS hS O rfl rfl ?_;intro x26 O;cbv;refine Ac hS O (λ_=>acF hM) ?_;intro y27 O;cbv;refine nS hS O rfl rfl ?_;exact ja
 exact gQ
theorem aiT {s:GState}{all:List GTraits}{U:Int}{source:Int}{f:jf}{r:List Int}(O:xn s all U source f=some r):Pv.FnS Tryz.prog glF 413 [.agg (eGState M s),oH M all,sI U,sI source,.agg (iR M f)] [] 0 (λg ss nn=>g=.os 0 0 (M.n Int r)/\ss=[(0,(aR 1 (mI M r)))]/\nn=1):=by
 refine mr (T:=(tabx 0 [17,21] [[(1,true)]])) (tabxOK 0 [17,21] [[(1,true)]]) wf func413 rfl call413 rfl [] ?_;intro S R hS hR;have q:=sf hM hS;unfold xn at O;cbv;refine wB (tabxOK 0 [17,21] [[(1,true)]]) [.tO 11 1] [1,2,3,9,11,16,17,18] (λJ=>f4 44 [oH M all,sI U,sI source,.lv 0 0,.os 1 0 (S.lenN (mI M J.2)),kP M s.objects,sI (S.len (lK M s.objects)),sI J.1] [vR (iR M f),aR 1 (mI M J.2)]) O ?_;intro Ik2 k2 J hk2 O e he;subst he;unfold wL at O;cbv;refine gu ?_ ?_
 intro O;cbv;refine jJ [.tO 11 1] [1,2,3,9,11,16,17,18] (λC=>f4 44 [oH M all,sI U,sI source,.lv 0 0,.os 1 0 (S.lenN (mI M C)),kP M s.objects,sI (S.len (lK M s.objects)),sI J.1] [vR (iR M f),aR 1 (mI M C)]) O ?_ ?_
 intro Ik5 k5 hk5 O;cbv;refine lH ?_;intro x7 O;cbv;refine jJ [.cS 3 11 1,.cS 3 15 72,.cS 4 11 1,.cS 4 15 72] [1,2,3,9,11,13,14,16,17,18] (λI=>f4 44 [oH M all,sI U,sI source,.lv 0 0,.os 1 0 (S.lenN (mI M J.2)),.lv 2 0,.lv 3 0,kP M s.objects,sI (S.len (lK M s.objects)),sI J.1] [vR (iR M f),aR 1 (mI M J.2),vR (eGObject M I.1),vR (eGTraits M I.2)]) O ?_ ?_
 intro Ik9 k9 hk9 O;cbv;refine gu ?_ ?_
 intro O;cbv;refine lH ?_;exact jP
 exact iC
 intro I O;cbv;refine iH (aaj hM) ?_;intro y12 O;cbv;refine iq ?_ ?_
 intro O;cbv;refine d_room hS O d_e ?_;exact iC
 exact iC
 intro C O;cbv;exact nM
 intro O;cbv;cases O;exact hR _ _ _ ai ai rfl
theorem c340 {t:GTraits}{m:jv}{you:Int}{count:Int}{r:GTraits}(O:G5 t m you count=some r):fV 340 [.agg (eGTraits M t),.agg (uz M m),sI you,sI count] (λu=>u=.agg (eGTraits M r)):=by
 refine iw (gY [1028]) func340 call340 ?_;intro S R hS hR q;unfold G5 at O;cbv;refine iH (c415 hM) ?_;intro y1 O;cbv;refine iH (c416 hM) ?_;intro y2 O;cbv;refine gu ?_ ?_
 exact gQ
 intro O;cbv;refine gu ?_ ?_
 exact gQ
 intro O;cbv;refine gu ?_ ?_
 exact gQ
 intro O;cbv;refine gu ?_ ?_
 exact fK
 intro O;cbv;refine gu ?_ ?_
 exact fK
 intro O;cbv;refine gu ?_ ?_
 intro O;cbv;refine iH (c417 hM) ?_;exact ja
 intro O;cbv;refine gu ?_ ?_
 exact gQ
 intro O;cbv;refine gu ?_ ?_
 exact fK
 intro O;cbv;refine gu ?_ ?_
 exact fK
 intro O;cbv;refine gu ?_ ?_
 exact fK
 intro O;cbv;refine gu ?_ ?_
 exact fJ
 intro O;cbv;refine gu ?_ ?_
 intro O;cbv;refine iH (Ua hM) ?_;intro y4 O;cbv;refine iH (Ua hM) ?_;exact ja
 intro O;cbv;refine gu ?_ ?_
 intro O;cbv;refine Ih hS aP ?_;cbv;exact qO
 intro O;cbv;refine gu ?_ ?_
 intro O;cbv;refine zU hS ?_;cbv;refine Ac hS O (λ_=>c68 hM) ?_;intro y6 O;cbv;refine Ac hS O (λ_=>c68 hM) ?_;exact ja
 intro O;cbv;refine gu ?_ ?_<;>exact gQ
theorem c330 {left:List Int}{needs:List (List Bool)}{r:List Int}(O:zA left needs=some r):fV 330 [.sl 1 (mI M left) false,.sl 1 (M.m (List Bool) (eL M 1 eB) needs) false] (λu=>u=.sl 1 (mI M r) false):=by
 refine iw (gY [21]) func330 call330 ?_;intro S R hS hR q;unfold zA at O;cbv;refine iH (c403 hM) ?_;intro y1 O;cbv;refine iH (c404 hM) ?_;intro y2 O;cbv;refine wB (gY [21]) [.tO 7 1] [3,5,6,7,16,17,18] (λs3=>f4 33 [.lv 0 0,.sl 1 (mI M y1) false,.lv 1 0,.os 2 0 (S.lenN (mI M s3.2)),.sl 1 (mI M y1) false,sI (S.len (mI M y1)),sI s3.1] [vR [.sl 1 (M.m (List Bool) (eL M 1 eB) needs) false],vR [.fn 455 [.pp [.sl 1 (mI M y2.1) false],.pp [.sl 1 (M.m (List Bool) (eL M 1 eB) y2.2) false]]],aR 1 (mI M s3.2)]) O ?_;intro Ik4 k4 s3 hk4 O e he;subst he;unfold xM at O;cbv;refine gu ?_ ?_
 intro O;cbv;refine jJ [.tO 7 1] [3,5,6,7,16,17,18] (λs6=>f4 33 [.lv 0 0,.sl 1 (mI M y1) false,.lv 1 0,.os 2 0 (S.lenN (mI M s6)),.sl 1 (mI M y1) false,sI (S.len (mI M y1)),sI s3.1] [vR [.sl 1 (M.m (List Bool) (eL M 1 eB) needs) false],vR [.fn 455 [.pp [.sl 1 (mI M y2.1) false],.pp [.sl 1 (M.m (List Bool) (eL M 1 eB) y2.2) false]]],aR 1 (mI M s6)]) O ?_ ?_
 intro Ik7 k7 hk7 O;cbv;refine lH ?_;intro x9 O;cbv;refine oO hS O (λ_=>aiP hM) (le_eq rfl) (λ_=>rfl) ?_;intro y10 O;cbv;refine gu ?_ ?_
 intro O;cbv;refine d_room hS O d_e ?_;exact iC
 exact iC
 intro s6 O;cbv;exact nM
 exact gQ
theorem c313 {pr:lu}{r:Bool}(O:GL pr=some r):fV 313 [.agg (oU M pr)] (λu=>u=.sb r):=by
 refine iw (gY [2]) func313 call313 ?_;intro S R hS hR q;unfold GL at O;cbv;refine jJ [] [1,11] (λs1=>f4 79 [.lv 0 0,.sb s1] [vR (oU M pr)]) O ?_ ?_
 intro Ik2 k2 hk2 O;cbv;refine gu ?_ ?_
 exact iC
 intro O;cbv;refine iH (aiQ hM) ?_;exact jP
 intro s1 O;cbv;refine iq ?_ ?_
 exact gQ
 intro O;cbv;refine gu ?_ ?_
 intro O;cbv;refine gu ?_ ?_
 intro O;cbv;refine gu ?_ ?_
 intro O;cbv;refine gu ?_ ?_
 exact gQ
 intro O;cbv;refine gu ?_ ?_<;>exact gQ
 exact gQ
 exact gQ
 intro O;cbv;refine gu ?_ ?_
 intro O;cbv;refine gu ?_ ?_
 intro O;cbv;refine gu ?_ ?_<;>exact gQ
 exact gQ
 intro O;cbv;refine gu ?_ ?_
 intro O;cbv;refine gu ?_ ?_
 intro O;cbv;refine gu ?_ ?_
 intro O;cbv;refine gu ?_ ?_
 intro O;cbv;refine gu ?_ ?_<;>exact gQ
 exact gQ
 exact gQ
 exact gQ
 exact gQ
theorem akz {w:gI}{i:Int}{r:Bool}(O:oz w i=some r):fV 408 [.pp (kG M w),sI i] (λu=>u=.sb r):=by
 refine iw (gY [4]) func408 call408 ?_;intro S R hS hR q;unfold oz at O;cbv;refine lH ?_;intro T O;cbv;refine jJ [] [0,5,24] (λU=>f4 44 [.pp (kG M w),.lv 0 0,.sb U] [vR (jb M T)]) O ?_ ?_
 intro I k3 J O;cbv;refine iq ?_ ?_
 exact iC
 intro O;cbv;refine lH ?_;exact jP
 intro U O;cbv;refine iq ?_ ?_
 exact gQ
 intro O;cbv;refine zU hS ?_;cbv;refine Ac hS O (λ_=>agF hM) ?_;intro y6 O;cbv;refine gu ?_ ?_
 exact gQ
 intro O;cbv;refine lH ?_;exact ja
theorem agG {w:gI}{i:Int}{r:Int}(O:nJ w i=some r):fV 339 [.pp (kG M w),sI i] (λu=>u=sI r):=by
 refine iw (gY [6]) func339 call339 ?_;intro S R hS hR q;unfold nJ at O;cbv;refine lH ?_;intro T O;cbv;refine zU hS ?_;cbv;refine Ac hS O (λ_=>agF hM) ?_;intro J O;cbv;refine jJ [] [0,5,6,27] (λU=>f4 38 [.pp (kG M w),.lv 0 0,sI J,.sb U] [vR (jb M T)]) O ?_ ?_
 intro I k4 hk4 O;cbv;refine gu ?_ ?_<;>exact iC
 intro U O;cbv;refine iq ?_ ?_
 intro O;cbv;refine lH ?_;exact ja
 exact gQ
end
variable [GM]
section
variable {M:EncM}(hM:M=mapE)
include hM
theorem c239 {l:List oJ}{r:Bool}(O:GR l=some r):fV 239 [Vr M l] (λu=>u=.sb r):=by
 refine iw gW func239 call239 ?_;intro S R hS hR q;unfold GR at O;cbv;refine d_lp hS gW wf [] [0,3] (λs1=>f3 19 [(0,Vr M l),(3,sI s1)] []) O ?_;intro Ik2 k2 s1 hk2 O e he;subst he;unfold IA at O;cbv;refine gu ?_ ?_
 intro O;cbv;refine lH ?_;intro x4 O;cbv;refine iH (c316 hM) ?_;intro y5 O;cbv;refine gu ?_ ?_
 exact gQ
 exact iC
 exact gQ
theorem akA {s:GState}{U:GEvent}{r:Bool}(O:zl s U=some r):fV 209 [.agg (eGState M s),.agg (eGEvent M U)] (λu=>u=.sb r):=by
 refine iw gW func209 call209 ?_;intro S R hS hR q;unfold zl at O;cbv;refine iH (agE hM) ?_;intro T O;cbv;refine iq ?_ ?_
 intro O;cbv;refine gu ?_ ?_
 intro O;cbv;refine gu ?_ ?_
 intro O;cbv;refine iH (c208 hM) ?_;exact ja
 exact gQ
 exact gQ
 exact gQ
theorem c205 {s:GState}{pe:GEvent}{r:Bool}(O:Ff s pe=some r):fV 205 [.agg (eGState M s),.agg (eGEvent M pe)] (λu=>u=.sb r):=by
 refine iw gW func205 call205 ?_;intro S R hS hR q;unfold Ff at O;cbv;refine iH (c208 hM) ?_;intro y1 O;cbv;refine gu ?_ ?_
 exact gQ
 intro O;cbv;refine gu ?_ ?_
 intro O;cbv;refine iH (TD hM) ?_;exact ja
 intro O;cbv;refine iH (agE hM) ?_;exact ja
theorem agH {o:GObject}{t:GTraits}{ok:Bool}{c3:Int}{c4:Int}{c5:lu}{r:Bool}(O:oV o t ok c3 c4 c5=some r):fV 432 [.agg (eGObject M o),.agg (eGTraits M t),.sb ok,.pp [sI c3],.pp [sI c4],.pp (oU M c5)] (λu=>u=.sb r):=by
 refine iw gW func432 call432 ?_;intro S R hS hR q;unfold oV at O;cbv;refine iq ?_ ?_
 intro O;cbv;refine iH (aaj hM) ?_;exact ja
 exact gQ
end
end Go.Proofs.YtchmoabpofnbaaaGreat
