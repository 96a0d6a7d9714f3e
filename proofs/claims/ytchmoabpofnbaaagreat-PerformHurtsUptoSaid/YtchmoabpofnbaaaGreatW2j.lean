import Derived.Test.YtchmoabpofnbaaaGreatW1a
import Derived.Test.YtchmoabpofnbaaaGreatW1e
import Derived.Test.YtchmoabpofnbaaaGreatW1i
import Derived.Test.YtchmoabpofnbaaaGreatB12
set_option linter.all false
namespace Go.Proofs.YtchmoabpofnbaaaGreat
open Go Go.Pv Proofs.Tryz
set_option maxRecDepth 100000
set_option maxHeartbeats 20000000
variable [GM]
attribute [local irreducible] bnd br jn qR ig jK lK jS rQ uY divO lu jR kY lD lU mg l9
variable {M:iO}[HM M]
instance c216 {c}:CC M 216 (FB c) [.agg (rV M c)] (λr=>sI r):=by
 have hM:=HM.h (M:=M);refine⟨λr O=>?_⟩;refine Ij (ja [12,15,16,21]) func216 call216 ?_;intro S R hS hR q;unfold FB at O;cbv;refine FX hS O (cI hM) ?_;intro y1 O;cbv;refine pW ?_ ?_
 exact d_R
 intro O;cbv;refine d_L (ja [12,15,16,21]) [] [1,3,4,5] (λs2=>f4 24 [.lv 0 0,sI s2.1,sI s2.2.1,sI s2.2.2] [vR (rV M c)]) O ?_;intro Ik3 k3 s2 hk3 O e he;subst he;unfold Hf at O;cbv;refine rF hS ?_;cbv;refine pW ?_ ?_
 intro O;cbv;refine Bd [] [1,3,4,5] (λs5=>f4 24 [.lv 0 0,sI s5,sI (S.bin .mul .i64 2 s2.2.1),sI s2.2.2] [vR (rV M c)]) O ?_ ?_
 intro Ik6 k6 hk6 O;cbv;refine Bd [] [1,3,4,5] (λs8=>f4 24 [.lv 0 0,sI s8,sI s2.2.1,sI s2.2.2] [vR (rV M c)]) O ?_ ?_
 intro Ik9 k9 hk9 O;cbv;refine Bd [] [1,3,4,5,17] (λs11=>f4 24 [.lv 0 0,sI s2.1,sI s2.2.1,sI s2.2.2,.sb s11] [vR (rV M c)]) O ?_ ?_
 intro Ik12 k12 hk12 O;cbv;obtain⟨j14,hj14,ej14,O⟩:=WQ O;refine adz hS rfl ⟨j14,hj14,ej14,?_⟩;rcases lt5 hj14 with rfl|rfl|rfl|rfl|rfl
 cbv;exact uB
 cbv;exact uB
 cbv;exact uB
 cbv;exact uB
 cbv;exact uB
 intro s11 O;cbv;refine vH ?_ ?_<;>exact sV
 intro s8 O;cbv;exact uB
 intro s5 O;cbv;exact uB
 exact d_R
instance aio {w}{i}{stage}:CZ M 332 (rC w i stage) [.lv 0 0,sI i,sI stage] [(0,(vR (iL M w.s++[iJ M w.forces,.os 1 0 (M.n gX w.iH),.os 2 0 (M.n Bool w.dropped),.os 3 0 (M.n Bool w.done),.os 4 0 (M.n (List Int) w.hits)]))),(1,(aR 17 (iK M w.iH))),(2,(aR 1 (M.m Bool eB w.dropped))),(3,(aR 1 (M.m Bool eB w.done))),(4,(aR 1 (M.m (List Int) (eL M 1 (eI .i64)) w.hits)))] 5 (λr=>.sb r) (λ_=>[(0,(vR (iL M w.s++[iJ M w.forces,.os 1 0 (M.n gX w.iH),.os 2 0 (M.n Bool w.dropped),.os 3 0 (M.n Bool w.done),.os 4 0 (M.n (List Int) w.hits)]))),(1,(aR 17 (iK M w.iH))),(2,(aR 1 (M.m Bool eB w.dropped))),(3,(aR 1 (M.m Bool eB w.done))),(4,(aR 1 (M.m (List Int) (eL M 1 (eI .i64)) w.hits)))]) 5:=by
 have:=lo 3 [0,1,2,7,18,19,20] (λ_ s=>kG [(20,sI s)]);have:=ct 10 [0,1,2,7,18,19,20,39] (λ_ s=>kG [(39,.sb s)]);exact wC (iZ 5 [10] []) func332 call332 []
theorem agH {M:iO}(hM:M=lC){data:List gI}{a:Int}{m:Int}{b:Int}{r:List gI}(O:kJ data a m b oL=some r):Pv.FnS Tryz.prog glF 479 [.os 0 0 (M.n gI data),sI a,sI m,sI b,.fn 300 []] [(0,(aR 76 (gY M data)))] 1 (λC ss nn=>C=.EJ []/\ss=[(0,(aR 76 (gY M r)))]/\nn=1):=by
 haveI:HM M:=⟨hM⟩
 refine BV (T:=(FY 1 [] [])) (iZ 1 [] []) wf func479 rfl call479 rfl ?_;intro S R hS hR;have q:=sf hM hS;unfold kJ at O;cbv;refine d_L (iZ 1 [] []) [] [0,2,4,10,11] (λJ=>f4 58 [.os 0 0 (S.iD (gY M J.2.2)),sI m,.fn 300 [],sI J.1,sI J.2.1] [aR 76 (gY M J.2.2)]) O ?_;intro g k2 J I O e U;subst U;unfold nP at O;cbv;refine pW ?_ ?_
 intro O;cbv;refine pW ?_ ?_
 intro O;cbv;refine vY hS O (cZ hM) ak ak rfl rfl rfl rfl ?_;intro y4 U O;have q:=And.intro q (pU Qw U).symm;cbv;exact uB
 intro O;cbv;refine vY hS O (cZ hM) ak ak rfl rfl rfl rfl ?_;intro y5 U O;have q:=And.intro q (pU Qw U).symm;cbv;exact uB
 intro O;cbv;refine vY hS O (cZ hM) ak ak rfl rfl rfl rfl ?_;intro y6 U O;have q:=And.intro q (pU Qw U).symm;cbv;cases O;exact hR _ _ _ ak ak rfl
instance o15 {answers}:CZ M 15 (LH answers) [.sl 1 (M.m (List Int) (eL M 1 (eI .i64)) answers) false] [] 0 (λ_=>.lv 0 0) (λr=>[(0,(vR ([.os 1 0 (M.n (List Int) r.answers),sI r.used]++(Aa M r.pending++[.sb r.waits,.sb r.bad])))),(1,(aR 1 (M.m (List Int) (eL M 1 (eI .i64)) r.answers)))]) 2:=by
 have:=lo 3 [3,8,9,10] (λ_ (s:Int×(List (List Int)))=>up [(10,sI s.1)] [(0,(vR [.os 1 0 (M.n (List Int) s.2),sI 0,sI 0,sI 0,sI 0,sI 0,sI 0,sI 0,.sl 0 [] true,.sb false,.sb false])),(1,(aR 1 (M.m (List Int) (eL M 1 (eI .i64)) s.2)))]) [.cO 0 0 1];exact wZ (iZ 0 [] []) func15 call15
instance c385 {l}{mask}{pby}:CC M 385 (Jf l mask pby) [.sl 1 (M.m ByteArray eS l) false,sI mask,.str pby] (λr=>.str r):=by
 have:=lo 3 [0,1,2,7,8] (λ_ (s:ByteArray×Int)=>kG [(7,.str s.1),(8,sI s.2)]);have:=ct 9 [0,1,2,7,8] (λ_ s=>kG [(7,.str s)]);have:=ct 17 [0,1,2,7,8] (λ_ s=>kG [(7,.str s)]);exact wA (ja [9,17]) func385 call385
instance c162 {o}{cards}{gU}:CC M 162 (Nw o cards gU) [.agg (jY M o),sI cards,sI gU] (λr=>.sb r):=by
 have:=ct 2 [1,2,3,52] (λ_ s=>kG [(52,.sb s)]);have:=ct 6 [1,2,3,90] (λ_ s=>kG [(90,.sb s)]);have:=ct 10 [3,116] (λ_ s=>kG [(116,.sb s)]);exact wA (ja [2,6,10]) func162 call162
instance c113 {l}{c}:CC M 113 (Gu l c) [mD M l,.agg (yY M c)] (λr=>.sb r):=by
 have:=lo 2 [0,3,5] (λ_ s=>kG [(5,sI s)]);have:=lo 5 [0,3,5,6] (λ_ s=>kG [(6,sI s)]);have:=ct 16 [0,3,5,6,44] (λ_ s=>kG [(44,.sb s)]);exact wA (ja [16]) func113 call113
instance c190 {s}:CC M 190 (Qr s) [.str s] (λr=>.sb r):=by
 have:=ct 2 [0,25] (λ_ s=>kG [(25,.sb s)]);have:=lo 4 [0,3] (λ_ s=>kG [(3,sI s)]);have:=ct 12 [0,3,54] (λ_ s=>kG [(54,.sb s)]);have:=ct 16 [0,3,69] (λ_ s=>kG [(69,.sb s)]);exact wA (ja [2,12,16]) func190 call190
instance c321 {mask}:CC M 321 (J4 mask) [sI mask] (λr=>.str r):=by
 have:=lo 7 [0,3,4] (λ_ (s:ByteArray×Int)=>kG [(3,.str s.1),(4,sI s.2)]);have:=ct 17 [0,3,4] (λ_ s=>kG [(3,.str s)]);have:=ct 25 [0,3,4] (λ_ s=>kG [(3,.str s)]);exact wA (ja [14,17,25]) func321 call321
instance aip {s}{w1:kL}:CC M 175 (iY s (λa0=>AB a0 w1)) [pR M s,.fn 483 [.pp (oK M w1)]] (λr=>sI r):=by
 have:=lo 2 [0,1,7,8] (λ_ s=>kG [(8,sI s)]);exact wA iE func175 call175
instance aiq {s}{w1:kL}:CC M 175 (iY s (λa0=>AL a0 w1)) [pR M s,.fn 484 [.pp (oK M w1)]] (λr=>sI r):=by
 have:=lo 2 [0,1,7,8] (λ_ s=>kG [(8,sI s)]);exact wA iE func175 call175
instance air {s}{w1:jI}:CC M 175 (iY s (λa0=>xR a0 w1)) [pR M s,.fn 213 [.pp (jm M w1)]] (λr=>sI r):=by
 have:=lo 2 [0,1,7,8] (λ_ s=>kG [(8,sI s)]);exact wA iE func175 call175
end Go.Proofs.YtchmoabpofnbaaaGreat
