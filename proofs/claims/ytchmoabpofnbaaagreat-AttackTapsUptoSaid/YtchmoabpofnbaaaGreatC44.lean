import Derived.Test.YtchmoabpofnbaaaGreatC24
import Derived.Test.YtchmoabpofnbaaaGreatC26
import Derived.Test.YtchmoabpofnbaaaGreatC29
set_option linter.all false
namespace Go.Proofs.YtchmoabpofnbaaaGreat
open Go Go.Pv
set_option maxRecDepth 100000
set_option maxHeartbeats 20000000
variable [GM]
attribute [local irreducible] bnd br jn oL loopF iq jS gu pO rG divO jF iO jA jm jE jY jU
variable {M:fP}[HM M]
instance c325 {c}:CC M 325 (qg c) [.agg (zD M c)] (λr=>.agg (jh M r)):=by
 have hM:=HM.h (M:=M);refine⟨λr U=>?_⟩;refine CO fG Tryz.func325 Tryz.call325 ?_;intro S R hS hR q;unfold qg at U;cbv;refine CB hS ?_;cbv;refine GX hS U (cI hM) ?_;intro y1 U;cbv;refine qZ hS U (cI hM) ?_;intro y2 U;cbv;refine adR hS fG wf [.cO 2 15 72] [.cO 1 15 72] [2,3,32,33,34] (λs3=>f3 47 [(2,.lv 0 0),(3,.lv 1 0),(32,Cb M c.fB),(33,sI (S.len (qX M c.fB))),(34,sI s3.1)] [vR [.str (bs []),sI 0,sI 0,sI 0,sI 0,sI 0,sI 0,sI 0,sI 0,sI 0,sI 0,.sl 0 [] true,sI 0,sI 0,sI 0,.sl 0 [] true,sI 0],vR ([.str c.name]++(qN M c.cost++[sI (S.bin .or .i64 y1 c.color),sI c.line.J9,sI c.line.types,.sl 1 (M.m ByteArray eS y2) false,sI c.power,sI c.gz,sI c.keys,.os 2 0 (S.fE (qX M s3.2)),sI 0])),aR 72 (qX M s3.2)]) U aW ?_;intro Ik4 k4 s3 hk4 U e he;subst he;unfold sU at U;cbv;refine kQ ?_ ?_
 intro U;cbv;refine zT ?_;intro x6 U;cbv;refine CB hS ?_;cbv;refine GX hS U (cI hM) ?_;intro y7 U;cbv;refine nG hS U jJ ?_;exact pW
 exact d_R
end Go.Proofs.YtchmoabpofnbaaaGreat
namespace Go.Proofs.YtchmoabpofnbaaaGreat
open Go Go.Pv Proofs.Tryz
set_option maxRecDepth 100000
set_option maxHeartbeats 20000000
variable [GM]
attribute [local irreducible] bnd br jn oL loopF iq jS gu pO rG divO jF iO jA jm jE jY jU
variable {M:fP}[HM M]
instance c472 {c}{x}:CC M 472 (Dv c x) [.agg (qN M c),sI x] (λr=>sI r):=by
 have hM:=HM.h (M:=M);refine⟨λr U=>?_⟩;refine CO (fO [10]) func472 call472 ?_;intro S R hS hR q;unfold Dv at U;cbv;refine qZ hS U (cI hM) ?_;intro y1 U;cbv;refine kQ ?_ ?_
 exact d_R
 intro U;cbv;refine J6 hS (fO [10]) wf 7 ?_;intro g2 hg2;refine hg2 _ _ ?_;cbv;refine mO hS ?_;cbv;refine qZ hS U (cI hM) ?_;intro y3 U;cbv;refine hg2 _ _ ?_;cbv;refine mO hS ?_;cbv;refine qZ hS U (cI hM) ?_;intro y4 U;cbv;refine hg2 _ _ ?_;cbv;refine mO hS ?_;cbv;refine qZ hS U (cI hM) ?_;intro y5 U;cbv;refine hg2 _ _ ?_;cbv;refine mO hS ?_;cbv;refine qZ hS U (cI hM) ?_;intro y6 U;cbv;refine hg2 _ _ ?_;cbv;refine mO hS ?_;cbv;refine qZ hS U (cI hM) ?_;intro y7 U;cbv;refine hg2 _ _ ?_;cbv;refine mO hS ?_;cbv;refine kQ ?_ ?_
 intro U;cbv;refine qZ hS U (cI hM) ?_;intro y8 U;cbv;refine qZ hS U (cI hM) ?_;exact SQ
 intro U;cbv;refine qZ hS U (cI hM) ?_;intro y10 U;cbv;refine qZ hS U (cI hM) ?_;exact SQ
instance c100 {s}{p}:CC M 100 (vV s p) [.agg (fD M s),sI p] (λr=>.sl 1 (mI M r) false):=by
 have:=ct 7 [1,2] (λ_ s=>je [(1,sI s)]);have:=ct 2 [1,2,17] (λ_ s=>je [(17,.sb s)]);have:=lo 5 [1,5,6,19,20,21] (λ_ (s:Int×(List Int)×(List Int))=>up [(5,.os 0 0 (M.n Int s.2.1)),(6,.os 1 0 (M.n Int s.2.2)),(21,sI s.1)] [(0,(aR 1 (mI M s.2.1))),(1,(aR 1 (mI M s.2.2)))]) [.tO 5 1,.tO 6 1];have:=ct 25 [1,5,6,19,20,21] (λ_ (s:(List Int)×(List Int))=>up [(5,.os 0 0 (M.n Int s.1)),(6,.os 1 0 (M.n Int s.2))] [(0,(aR 1 (mI M s.1))),(1,(aR 1 (mI M s.2)))]) [.tO 5 1,.tO 6 1];exact wA (fO [2,7,25]) func100 call100
instance c350 {left}{needs}:CC M 350 (OI left needs) [.sl 1 (mI M left) false,.sl 1 (M.m (List Bool) (eL M 1 eB) needs) false] (λr=>.sl 1 (mI M r) false):=by
 have:=lo 4 [1,5,6,7] (λ_ (s:Int×(List Int))=>up [(6,.os 0 0 (M.n Int s.2)),(7,sI s.1)] [(0,(aR 1 (mI M s.2)))]) [.tO 6 1];have:=ct 11 [1,5,6,7] (λ_ s=>up [(6,.os 0 0 (M.n Int s))] [(0,(aR 1 (mI M s)))]) [.tO 6 1];have:=lo 8 [1,5,6,7,8,9] (λ_ (s:Bool×Int)=>je [(8,.sb s.1),(9,sI s.2)]);have:=ct 19 [1,5,6,7,8,9] (λ_ s=>je [(8,.sb s)]);have:=ct 20 [1,5,6,7,8,9,53] (λ_ s=>je [(53,.sb s)]);exact wA (fO [11,19,20]) func350 call350
instance c359 {s}{all}{id}:CC M 359 (Bi s all id) [.agg (fD M s),iE M all,sI id] (λr=>.Eu [.agg (ja M r.1),.agg (jh M r.2.1),.sb r.2.2]):=by
 exact wA (fO [1006]) func359 call359
instance c304 {a}{b}:CC M 304 (Fz a b) [Jj M a,Jj M b] (λr=>.sb r):=by
 have:=lo 4 [0,1,5] (λ_ s=>je [(5,sI s)]);exact wA fG func304 call304
instance amI {s}{w1:jP}:CC M 482 (kY s (λa0=>BI a0 w1)) [nS M s,.fn 483 [.pp (nH M w1)]] (λr=>.sb r):=by
 exact wA fG func482 call482
instance amJ {s}{w1:jP}:CC M 482 (kY s (λa0=>BJ a0 w1)) [nS M s,.fn 484 [.pp (nH M w1)]] (λr=>.sb r):=by
 exact wA fG func482 call482
instance amK {s}{w1:eX}:CC M 102 (kZ s (λa0=>BN a0 w1)) [jI M s,.fn 103 [.pp (rU M w1)]] (λr=>.sb r):=by
 exact wA fG func102 call102
instance amL {s}{w1:Int}:CC M 102 (kZ s (λa0=>BO a0 w1)) [jI M s,.fn 106 [.pp [sI w1]]] (λr=>.sb r):=by
 exact wA fG func102 call102
instance c97 {s}{all}{id}{key}:CC M 97 (uw s all id key) [.agg (fD M s),iE M all,sI id,sI key] (λr=>.sb r):=by
 exact wA fG func97 call97
instance c284 {o}{c1}:CC M 284 (Bf o c1) [.agg (rU M o),.pp [jI M c1]] (λr=>.sb r):=by
 exact wA fG func284 call284
instance c228 {s}{id}:CC M 228 (G5 s id) [.agg (fD M s),sI id] (λr=>.Eu [.agg (ja M r.1),.sb r.2]):=by
 exact wA fG func228 call228
instance c300 {a}{b}:CC M 300 (nJ a b) [.agg (jy M a),.agg (jy M b)] (λr=>sI r):=by
 exact wA fG func300 call300
instance c163 {s}{o}:CC M 163 (Lr s o) [.agg (fD M s),.agg (ja M o)] (λr=>.sb r):=by
 exact wA fG func163 call163
instance c396 {name}{b}:CC M 396 (wF name b) [.str name,.agg (DR M b)] (λr=>.str r):=by
 exact wA fG func396 call396
instance c460 {l}{sub}:CC M 460 (og l sub) [.agg (GZ M l),.str sub] (λr=>.sb r):=by
 exact wA fG func460 call460
instance c463 {o}{id}:CC M 463 (yR o id) [.agg (ja M o),sI id] (λr=>sI r):=by
 exact wA fG func463 call463
end Go.Proofs.YtchmoabpofnbaaaGreat
