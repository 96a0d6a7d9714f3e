import Derived.Test.YtchmoabpofnbaaaGreatC50
import Derived.Test.YtchmoabpofnbaaaGreatC51
set_option linter.all false
namespace Go.Proofs.YtchmoabpofnbaaaGreat
open Go Go.Pv
set_option maxRecDepth 100000
set_option maxHeartbeats 20000000
variable [GM]
attribute [local irreducible] bnd br jn oL loopF iq jS gu pO rG divO jF iO jA jm jE jY jU
variable {M:fP}[HM M]
instance amS {s}{w1:List eX}:CZ M 199 (uo s (λa0=>Bf a0 w1)) [.os 0 0 (M.n eX s),.fn 284 [.pp [jI M w1]]] [(0,(aR 3 (jq M s)))] 1 (λr=>.os 1 0 (M.n eX r)) (λr=>[(0,none),(1,(aR 3 (jq M r)))]) 2:=by
 have hM:=HM.h (M:=M);refine⟨λr U=>?_⟩;refine yX (T:=(Fg 1 [13] [[(3,true)]])) (gp 1 [13] [[(3,true)]]) wf Tryz.func199 rfl Tryz.call199 rfl ?_;intro S R hS hR;have q:=sf hM hS;unfold uo at U;cbv;refine AV hS U (cI hM) JB (λ_=>rfl) ?_;intro y1 U;cbv;refine kQ ?_ ?_
 intro U;cbv;cases U;exact hR _ _ _ ah ah rfl
 intro U;cbv;refine Gg (gp 1 [13] [[(3,true)]]) [] [0,1,5,6] (λs2=>f4 42 [.os 0 0 (S.fE (jq M s2.2.2)),.fn 284 [.pp [jI M w1]],sI s2.1,sI s2.2.1] [aR 3 (jq M s2.2.2)]) U ?_;intro Ik3 k3 s2 hk3 U e he;subst he;unfold wX at U;cbv;refine kQ ?_ ?_
 intro U;cbv;refine yE [] [0,1,5,6] (λs5=>f4 42 [.os 0 0 (S.fE (jq M s5.2)),.fn 284 [.pp [jI M w1]],sI s5.1,sI s2.2.1] [aR 3 (jq M s5.2)]) U ?_ ?_
 intro Ik6 k6 hk6 U;cbv;refine kM hS U jJ rfl ?_;intro j8 _ U;cbv;refine jc hS hM U rfl jJ ?_;intro x9 U;cbv;refine qZ hS U (cI hM) ?_;intro y10 U;cbv;refine kQ ?_ ?_
 intro U;cbv;refine kM hS U jJ rfl ?_;intro j11 _ U;cbv;refine jc hS hM U rfl jJ ?_;exact sK
 exact pW
 intro s5 U;cbv;exact sN
 intro U;cbv;refine aa9 hS U jJ rfl jJ ?_;intro x13 bx13 U;cbv;refine JA hS (e:=(rU M)) U gX ?_;intro x14 U;cbv;refine aa9 hS U jJ rfl rfl ?_;intro x15 bx15 U;cbv;cases U;exact hR _ _ _ au au rfl
end Go.Proofs.YtchmoabpofnbaaaGreat
namespace Go.Proofs.YtchmoabpofnbaaaGreat
open Go Go.Pv Proofs.Tryz
set_option maxRecDepth 100000
set_option maxHeartbeats 20000000
variable [GM]
attribute [local irreducible] bnd br jn oL loopF iq jS gu pO rG divO jF iO jA jm jE jY jU
variable {M:fP}[HM M]
instance c105 {s}{all}:CC M 105 (xO s all) [.agg (fD M s),iE M all] (λr=>.sl 1 (mI M r) false):=by
 have:=lo 3 [1,2,5,10,11,12] (λ_ (s:Int×(List Int))=>up [(5,.os 1 0 (M.n Int s.2)),(12,sI s.1)] [(1,(aR 1 (mI M s.2)))]) [.tO 5 1];have:=ct 15 [1,2,5,10,11,12] (λ_ s=>up [(5,.os 1 0 (M.n Int s))] [(1,(aR 1 (mI M s)))]) [.tO 5 1];have:=ct 10 [1,2,5,7,10,11,12,27] (λ_ s=>je [(27,.sb s)]);exact wA (fO [10,15]) func105 call105
instance amT {s}{w1}{w2}{w3}{w4:List (List Bool)}:CC M 222 (qA s (λa0=>xH a0 w1 w2 (λa0 a1=>rZ a0 a1 w3 w4))) [.sl 1 (mI M s) false,.fn 405 [.pp [sI w1],.pp [.sl 1 (M.m (List Bool) (eL M 1 eB) w2) false],.pp [.fn 455 [.pp [.sl 1 (mI M w3) false],.pp [.sl 1 (M.m (List Bool) (eL M 1 eB) w4) false]]]]] (λr=>.sb r):=by
 exact wA fG func222 call222
instance c353 {o}{t}{you}{source}{f}:CC M 353 (sD o t you source f) [.agg (ja M o),.agg (jh M t),sI you,sI source,.agg (jb M f)] (λr=>.sb r):=by
 have:=ct 2 [6,9,46] (λ_ s=>je [(46,.sb s)]);have:=ct 6 [6,9,66] (λ_ s=>je [(66,.sb s)]);have:=ct 10 [6,9,84] (λ_ s=>je [(84,.sb s)]);exact wA (fO [2,6,10]) func353 call353
instance c379 {pr}{specs}:CC M 379 (Zz pr specs) [.agg (Yk M pr),sI specs] (λr=>.sb r):=by
 have:=ct 7 [1,2] (λ_ s=>je [(1,sI s)]);have:=ct 6 [1,2,14] (λ_ s=>je [(14,.sb s)]);have:=ct 21 [2] (λ_ (_:Unit)=>je []);have:=ct 12 [2,26] (λ_ s=>je [(26,.sb s)]);exact wA (fO [6,7,12,21]) func379 call379
instance c381 {a}:CC M 381 (ZA a) [.agg (GY M a)] (λr=>.sb r):=by
 have:=ct 33 [1,3] (λ_ s=>up [] [(1,(vR (GY M s)))]);have:=ct 10 [1,3,17] (λ_ s=>je [(17,.sb s)]);have:=ct 20 [1,3,36] (λ_ s=>je [(36,.sb s)]);exact wA (fO [10,20,33]) func381 call381
instance c87 {s}:CC M 87 (IL s) [.agg (fD M s)] (λr=>.sb r):=by
 have:=lo 4 [1,3] (λ_ s=>je [(3,sI s)]);have:=ct 14 [1,3,4,43] (λ_ s=>je [(43,.sb s)]);have:=ct 18 [1,3,65] (λ_ s=>je [(65,.sb s)]);exact wA (fO [14,18]) func87 call87
instance c237 {t}:CC M 237 (Zx t) [.agg (pg M t)] (λr=>.sb r):=by
 have:=ct 2 [1,28] (λ_ s=>je [(28,.sb s)]);have:=ct 17 [1,3] (λ_ s=>je [(3,sI s)]);exact wA (fO [2,17]) func237 call237
instance c204 {s}{id}:CC M 204 (wG s id) [.agg (fD M s),sI id] (λr=>.Eu [.agg (ja M r.1),.sb r.2]):=by
 have:acC 2 [.tP 6]:=.mk;exact wA (aka [2] [14,18]) func204 call204
instance c384 {op}{f}:CC M 384 (Lu op f) [sI op,.agg (jb M f)] (λr=>.sb r):=by
 have:=ct 9 [3,5] (λ_ s=>je [(5,sI s)]);exact wA (fO [9]) func384 call384
instance c241 {m}:CC M 241 (lG m) [.agg (yz M m)] (λr=>.sb r):=by
 have:=ct 2 [1,16] (λ_ s=>je [(16,.sb s)]);exact wA (fO [2]) func241 call241
instance c416 {m}:CC M 416 (Tn m) [.agg (yz M m)] (λr=>.sb r):=by
 have:=ct 2 [1,12] (λ_ s=>je [(12,.sb s)]);exact wA (fO [2]) func416 call416
instance c316 {s}:CC M 316 (QY s) [.agg (Le M s)] (λr=>.sb r):=by
 have:=ct 4 [2] (λ_ s=>je [(2,.sb s)]);exact wA (fO [4]) func316 call316
instance c246 {f}{stage}:CC M 246 (DY f stage) [.agg (oN M f),sI stage] (λr=>.sb r):=by
 exact wA fG func246 call246
instance c172 {c}{a}:CC M 172 (Gn c a) [.agg (jD M c),.sl 1 (mI M a) false] (λr=>.sb r):=by
 exact wA fG func172 call172
instance c414 {s}{id}:CC M 414 (rE s id) [.agg (fV M s),sI id] (λr=>sI r):=by
 exact wA fG func414 call414
instance c315 {f}:CC M 315 (Gj f) [.agg (jb M f)] (λr=>.sb r):=by
 exact wA fG func315 call315
end Go.Proofs.YtchmoabpofnbaaaGreat
