import Derived.Test.YtchmoabpofnbaaaGreatW4a
import Derived.Test.YtchmoabpofnbaaaGreatW4d
set_option linter.all false
namespace Go.Proofs.YtchmoabpofnbaaaGreat
open Go Go.Pv Proofs.Tryz
set_option maxRecDepth 100000
set_option maxHeartbeats 20000000
variable [GM]
attribute [local irreducible] bnd br jn qR ig jK lK jS rQ uY divO lu jR kY lD lU mg l9
variable {M:iO}[HM M]
theorem agI {M:iO}(hM:M=lC){data:List gI}{n:Int}{r:List gI}(O:kK data n oL=some r):Pv.FnS Tryz.prog glF 369 [.os 0 0 (M.n gI data),sI n,.fn 300 []] [(0,(aR 76 (gY M data)))] 1 (λuu ss nn=>uu=.EJ []/\ss=[(0,(aR 76 (gY M r)))]/\nn=1):=by
 haveI:HM M:=⟨hM⟩
 refine BV (T:=(FY 1 [33] [])) (iZ 1 [33] []) wf func369 rfl call369 rfl ?_;intro S R hS hR;have q:=sf hM hS;unfold kK at O;cbv;refine d_L (iZ 1 [33] []) [] [0,1,2,6,7,8] (λC=>f4 63 [.os 0 0 (S.iD (gY M C.2.2)),sI n,.fn 300 [],sI 20,sI C.1,sI C.2.1] [aR 76 (gY M C.2.2)]) O ?_;intro Ik2 k2 C hk2 O e U;subst U;unfold nT at O;cbv;refine pW ?_ ?_
 intro O;cbv;refine vY hS O (cZ hM) ak ak rfl rfl rfl rfl ?_;intro y4 U O;have q:=And.intro q (pU Xq U).symm;cbv;exact uB
 intro O;cbv;refine vY hS O (cZ hM) ak ak rfl rfl rfl rfl ?_;intro y5 U O;have q:=And.intro q (pU Xq U).symm;cbv;refine d_L (iZ 1 [33] []) [] [0,1,2,6] (λI=>f4 63 [.os 0 0 (S.iD (gY M I.2)),sI n,.fn 300 [],sI I.1] [aR 76 (gY M I.2)]) O ?_;intro Ik7 k7 I hk7 O e U;subst U;unfold nS at O;cbv;refine pW ?_ ?_
 intro O;cbv;refine d_L (iZ 1 [33] []) [] [0,1,2,6,7,8] (λg=>f4 63 [.os 0 0 (S.iD (gY M g.2.2)),sI n,.fn 300 [],sI I.1,sI g.1,sI g.2.1] [aR 76 (gY M g.2.2)]) O ?_;intro Ik10 k10 g hk10 O e U;subst U;unfold nR at O;cbv;refine pW ?_ ?_
 intro O;cbv;refine vY hS O (λ_=>adV hM) ak ak rfl rfl rfl rfl ?_;intro y12 U O;have q:=And.intro q (pU Su U).symm;cbv;exact uB
 intro O;cbv;refine Bd [] [0,1,2,6] (λJ=>f4 63 [.os 0 0 (S.iD (gY M J)),sI n,.fn 300 [],sI I.1] [aR 76 (gY M J)]) O ?_ ?_
 intro Ik14 k14 hk14 O;cbv;refine pW ?_ ?_
 intro O;cbv;refine vY hS O (λ_=>adV hM) ak ak rfl rfl rfl rfl ?_;intro y16 U O;have q:=And.intro q (pU Su U).symm;cbv;exact uB
 exact sV
 intro J O;cbv;exact uB
 intro O;cbv;cases O;exact hR _ _ _ ak ak rfl
instance aiK {s}{w1:List iU}:CZ M 199 (uh s (λa0=>Ah a0 w1)) [.os 0 0 (M.n iU s),.fn 284 [.pp [xW M w1]]] [(0,(aR 3 (uy M s)))] 1 (λr=>.os 1 0 (M.n iU r)) (λr=>[(0,none),(1,(aR 3 (uy M r)))]) 2:=by
 have hM:=HM.h (M:=M);refine⟨λr O=>?_⟩;refine BV (T:=(FY 1 [13] [[(3,true)]])) (iZ 1 [13] [[(3,true)]]) wf func199 rfl call199 rfl ?_;intro S R hS hR;have q:=sf hM hS;unfold uh at O;cbv;refine D6 hS O (cI hM) LU (λ_=>rfl) ?_;intro y1 O;cbv;refine pW ?_ ?_
 intro O;cbv;cases O;exact hR _ _ _ ak ak rfl
 intro O;cbv;refine d_L (iZ 1 [13] [[(3,true)]]) [] [0,1,5,6] (λs2=>f4 42 [.os 0 0 (S.iD (uy M s2.2.2)),.fn 284 [.pp [xW M w1]],sI s2.1,sI s2.2.1] [aR 3 (uy M s2.2.2)]) O ?_;intro Ik3 k3 s2 hk3 O e he;subst he;unfold wO at O;cbv;refine pW ?_ ?_
 intro O;cbv;refine Bd [] [0,1,5,6] (λs5=>f4 42 [.os 0 0 (S.iD (uy M s5.2)),.fn 284 [.pp [xW M w1]],sI s5.1,sI s2.2.1] [aR 3 (uy M s5.2)]) O ?_ ?_
 intro Ik6 k6 hk6 O;cbv;refine nZ hS O mi rfl ?_;intro j8 _ O;cbv;refine kR hS hM O rfl mi ?_;intro x9 O;cbv;refine FX hS O (cI hM) ?_;intro y10 O;cbv;refine pW ?_ ?_
 intro O;cbv;refine nZ hS O mi rfl ?_;intro j11 _ O;cbv;refine kR hS hM O rfl mi ?_;exact zK
 exact sV
 intro s5 O;cbv;exact uB
 intro O;cbv;refine YK hS O mi rfl mi ?_;intro x13 bx13 O;cbv;refine Nr hS (e:=(vV M)) O jC ?_;intro x14 O;cbv;refine YK hS O mi rfl rfl ?_;intro x15 bx15 O;cbv;cases O;exact hR _ _ _ aB aB rfl
instance c243 {cards}{s}:CC M 243 (Eo cards s) [mD M cards,.agg (iL M s)] (λr=>iJ M r):=by
 have:=lo 3 [0,3,5,13,14,15] (λ_ (s:Int×(List iF))=>up [(5,.os 1 0 (M.n iF s.2)),(15,sI s.1)] [(1,(aR 23 (xE M s.2)))]) [.tO 5 23];have:=ct 25 [0,3,5,13,14,15] (λ_ s=>up [(5,.os 1 0 (M.n iF s))] [(1,(aR 23 (xE M s)))]) [.tO 5 23];have:=lo 7 [0,3,5,7,13,14,15,25,26,27] (λ_ (s:Int×(List iF))=>up [(5,.os 1 0 (M.n iF s.2)),(27,sI s.1)] [(1,(aR 23 (xE M s.2)))]) [.tO 5 23];have:=ct 23 [0,3,5,7,13,14,15,25,26,27] (λ_ s=>up [(5,.os 1 0 (M.n iF s))] [(1,(aR 23 (xE M s)))]) [.tO 5 23];have:=lo 14 [5,54,55,56] (λ_ (s:Int×(List iF))=>up [(5,.os 0 0 (M.n iF s.2)),(56,sI s.1)] [(0,(aR 23 (xE M s.2)))]);exact wA (ja [23,25]) func243 call243
instance c20 {cards}{s}{kind}{id}:CC M 20 (Gz cards s kind id) [mD M cards,.agg (iQ M s),sI kind,sI id] (λr=>sI r):=by
 have:=lo 3 [0,2,3,5,9,10] (λ_ (s:Int×Int)=>kG [(9,sI s.1),(10,sI s.2)]);have:=ct 9 [0,2,3,5,9,10] (λ_ s=>kG [(9,sI s)]);have:=ct 12 [0,2,3,5,9,10,11,34] (λ_ s=>kG [(34,.sb s)]);have:=ct 19 [0,2,3,5,9,10,11] (λ_ s=>kG [(9,sI s)]);have:=lo 11 [0,2,3,5,9,10,12,13] (λ_ (s:Int×Int)=>kG [(9,sI s.1),(13,sI s.2)]);have:=ct 25 [0,2,3,5,9,10,12,13] (λ_ s=>kG [(9,sI s)]);exact wA (ja [9,12,19,25]) func20 call20
instance c379 {pr}{specs}:CC M 379 (Xi pr specs) [.agg (VE M pr),sI specs] (λr=>.sb r):=by
 have:=ct 7 [1,2] (λ_ s=>kG [(1,sI s)]);have:=ct 6 [1,2,14] (λ_ s=>kG [(14,.sb s)]);have:=ct 21 [2] (λ_ (_:Unit)=>kG []);have:=ct 12 [2,26] (λ_ s=>kG [(26,.sb s)]);exact wA (ja [6,7,12,21]) func379 call379
instance c381 {a}:CC M 381 (Xj a) [.agg (EY M a)] (λr=>.sb r):=by
 have:=ct 33 [1,3] (λ_ s=>up [] [(1,(vR (EY M s)))]);have:=ct 10 [1,3,17] (λ_ s=>kG [(17,.sb s)]);have:=ct 20 [1,3,36] (λ_ s=>kG [(36,.sb s)]);exact wA (ja [10,20,33]) func381 call381
instance c87 {s}:CC M 87 (zu s) [.agg (iQ M s)] (λr=>.sb r):=by
 have:=lo 4 [1,3] (λ_ s=>kG [(3,sI s)]);have:=ct 14 [1,3,4,43] (λ_ s=>kG [(43,.sb s)]);have:=ct 18 [1,3,65] (λ_ s=>kG [(65,.sb s)]);exact wA (ja [14,18]) func87 call87
instance c237 {t}:CC M 237 (Xg t) [.agg (pX M t)] (λr=>.sb r):=by
 have:=ct 2 [1,28] (λ_ s=>kG [(28,.sb s)]);have:=ct 17 [1,3] (λ_ s=>kG [(3,sI s)]);exact wA (ja [2,17]) func237 call237
instance c204 {s}{id}:CC M 204 (ui s id) [.agg (iQ M s),sI id] (λr=>.EJ [.agg (jY M r.1),.sb r.2]):=by
 have:aab 2 [.tP 6]:=.mk;exact wA (agA [2] [14,18]) func204 call204
instance c384 {op}{f}:CC M 384 (Jg op f) [sI op,.agg (jU M f)] (λr=>.sb r):=by
 have:=ct 9 [3,5] (λ_ s=>kG [(5,sI s)]);exact wA (ja [9]) func384 call384
instance c241 {m}:CC M 241 (Ui m) [.agg (zo M m)] (λr=>.sb r):=by
 have:=ct 2 [1,16] (λ_ s=>kG [(16,.sb s)]);exact wA (ja [2]) func241 call241
instance c416 {m}:CC M 416 (Xm m) [.agg (zo M m)] (λr=>.sb r):=by
 have:=ct 2 [1,12] (λ_ s=>kG [(12,.sb s)]);exact wA (ja [2]) func416 call416
instance c316 {s}:CC M 316 (OX s) [.agg (I9 M s)] (λr=>.sb r):=by
 have:=ct 4 [2] (λ_ s=>kG [(2,.sb s)]);exact wA (ja [4]) func316 call316
instance c246 {f}{stage}:CC M 246 (Cj f stage) [.agg (pJ M f),sI stage] (λr=>.sb r):=by
 exact wA iE func246 call246
instance c206 {s}{pe}:CC M 206 (Rl s pe) [.agg (iQ M s),.agg (jm M pe)] (λr=>.sb r):=by
 exact wA iE func206 call206
instance c414 {s}{id}:CC M 414 (vg s id) [.agg (iL M s),sI id] (λr=>sI r):=by
 exact wA iE func414 call414
instance c315 {f}:CC M 315 (EF f) [.agg (jU M f)] (λr=>.sb r):=by
 exact wA iE func315 call315
instance c412 {o}{t}{you}{source}{f}:CC M 412 (og o t you source f) [.agg (jY M o),.agg (lq M t),sI you,sI source,.agg (jU M f)] (λr=>.sb r):=by
 have:=ct 2 [2,3,5,6,9,23] (λ_ s=>kG [(23,.sb s)]);have:=ct 43 [6,9,13] (λ_ (_:Unit)=>kG []);have:=ct 12 [2,3,5,6,9,12,13,30] (λ_ s=>kG [(30,.sb s)]);have:=ct 18 [3,5,6,9,12,13,49] (λ_ s=>kG [(49,.sb s)]);have:=ct 30 [5,6,9,13,88] (λ_ s=>kG [(88,.sb s)]);have:=ct 36 [5,6,9,13,106] (λ_ s=>kG [(106,.sb s)]);exact wA (ja [2,12,18,30,36,43]) func412 call412
instance aiL {s}{w1}{w2}{w3}{w4:List (List Bool)}:CC M 222 (qF s (λa0=>xy a0 w1 w2 (λa0 a1=>rY a0 a1 w3 w4))) [.sl 1 (mI M s) false,.fn 405 [.pp [sI w1],.pp [.sl 1 (M.m (List Bool) (eL M 1 eB) w2) false],.pp [.fn 455 [.pp [.sl 1 (mI M w3) false],.pp [.sl 1 (M.m (List Bool) (eL M 1 eB) w4) false]]]]] (λr=>.sb r):=by
 exact wA iE func222 call222
end Go.Proofs.YtchmoabpofnbaaaGreat
