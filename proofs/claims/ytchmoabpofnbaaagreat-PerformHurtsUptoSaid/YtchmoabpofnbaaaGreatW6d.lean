import Derived.Test.YtchmoabpofnbaaaGreatW5a
import Derived.Test.YtchmoabpofnbaaaGreatW5b
set_option linter.all false
namespace Go.Proofs.YtchmoabpofnbaaaGreat
open Go Go.Pv Proofs.Tryz
set_option maxRecDepth 100000
set_option maxHeartbeats 20000000
variable [GM]
attribute [local irreducible] bnd br jn qR ig jK lK jS rQ uY divO lu jR kY lD lU mg l9
variable {M:iO}[HM M]
instance aiO {s}{all}{you}{source}{f}:CZ M 413 (Cm s all you source f) [.agg (iL M s),.os 0 0 (M.n gX all),sI you,sI source,.agg (jU M f)] [(0,(aR 17 (iK M all)))] 1 (λr=>.os 1 0 (M.n Int r)) (λr=>[(0,(aR 17 (iK M all))),(1,(aR 1 (mI M r)))]) 2:=by
 have:=lo 3 [1,2,3,9,11,16,17,18] (λ_ (s:Int×(List Int))=>up [(11,.os 2 0 (M.n Int s.2)),(18,sI s.1)] [(2,(aR 1 (mI M s.2)))]) [.tO 11 1];have:=ct 21 [1,2,3,9,11,16,17,18] (λ_ s=>up [(11,.os 2 0 (M.n Int s))] [(2,(aR 1 (mI M s)))]) [.tO 11 1];have:=ct 17 [1,2,3,9,11,13,14,16,17,18] (λ_ (s:iy×gX)=>up [] [(3,(vR (jY M s.1))),(4,(vR (lq M s.2)))]) [.cS 4 11 1,.cS 4 15 72,.cS 5 15 72,.cS 5 11 1];exact wC (iZ 1 [17,21] [[(1,true)]]) func413 call413 []
instance aiP {s}{all}{you}{source}{f}:CZ M 413 (CG s all you source f) [.agg (iL M s),ny M all,sI you,sI source,.agg (jU M f)] [] 0 (λr=>.os 0 0 (M.n Int r)) (λr=>[(0,(aR 1 (mI M r)))]) 1:=by
 have:=lo 3 [1,2,3,9,11,16,17,18] (λ_ (s:Int×(List Int))=>up [(11,.os 1 0 (M.n Int s.2)),(18,sI s.1)] [(1,(aR 1 (mI M s.2)))]) [.tO 11 1];have:=ct 21 [1,2,3,9,11,16,17,18] (λ_ s=>up [(11,.os 1 0 (M.n Int s))] [(1,(aR 1 (mI M s)))]) [.tO 11 1];have:=ct 17 [1,2,3,9,11,13,14,16,17,18] (λ_ (s:iy×gX)=>up [] [(2,(vR (jY M s.1))),(3,(vR (lq M s.2)))]) [.cS 3 15 72,.cS 3 11 1,.cS 4 11 1,.cS 4 15 72];exact wC (iZ 0 [17,21] [[(1,true)]]) func413 call413 []
instance c330 {left}{needs}:CC M 330 (Ep left needs) [.sl 1 (mI M left) false,.sl 1 (M.m (List Bool) (eL M 1 eB) needs) false] (λr=>.sl 1 (mI M r) false):=by
 have:=lo 5 [3,5,6,7,16,17,18] (λ_ (s:Int×(List Int))=>up [(7,.os 2 0 (M.n Int s.2)),(18,sI s.1)] [(2,(aR 1 (mI M s.2)))]) [.tO 7 1];have:=ct 21 [3,5,6,7,16,17,18] (λ_ s=>up [(7,.os 2 0 (M.n Int s))] [(2,(aR 1 (mI M s)))]) [.tO 7 1];exact wA (ja [21]) func330 call330
instance c373 {s}{all}{w}{id}:CC M 373 (Fv s all w id) [.agg (iL M s),ny M all,.agg (jZ M w),sI id] (λr=>.sb r):=by
 have:=lo 2 [1,3,6,12,13,14] (λ_ s=>kG [(14,sI s)]);exact wA iE func373 call373
instance c432 {o}{t}{ok}{c3}{c4}{c5}:CC M 432 (wP o t ok c3 c4 c5) [.agg (jY M o),.agg (lq M t),.sb ok,.pp [sI c3],.pp [sI c4],.pp (oU M c5)] (λr=>.sb r):=by
 exact wA iE func432 call432
instance c340 {t}{m}{you}{count}:CC M 340 (LJ t m you count) [.agg (lq M t),.agg (zo M m),sI you,sI count] (λr=>.agg (lq M r)):=by
 exact wA (ja [1028]) func340 call340
instance c408 {w}{i}:CC M 408 (su w i) [.pp (yB M w),sI i] (λr=>.sb r):=by
 have:=ct 4 [0,5,24] (λ_ s=>kG [(24,.sb s)]);exact wA (ja [4]) func408 call408
instance c339 {w}{i}:CC M 339 (qU w i) [.pp (yB M w),sI i] (λr=>sI r):=by
 have:=ct 6 [0,5,6,27] (λ_ s=>kG [(27,.sb s)]);exact wA (ja [6]) func339 call339
instance c239 {l}:CC M 239 (Lu l) [YR M l] (λr=>.sb r):=by
 have:=lo 2 [0,3] (λ_ s=>kG [(3,sI s)]);exact wA iE func239 call239
instance c313 {pr}:CC M 313 (Ls pr) [.agg (oU M pr)] (λr=>.sb r):=by
 have:=ct 2 [1,11] (λ_ s=>kG [(11,.sb s)]);exact wA (ja [2]) func313 call313
instance c209 {s}{pe}:CC M 209 (Jl s pe) [.agg (iQ M s),.agg (jm M pe)] (λr=>.sb r):=by
 exact wA iE func209 call209
instance c205 {s}{pe}:CC M 205 (Ky s pe) [.agg (iQ M s),.agg (jm M pe)] (λr=>.sb r):=by
 exact wA iE func205 call205
instance c242 {m}:CC M 242 (OW m) [.agg (zo M m)] (λr=>.str r):=by
 exact wA iE func242 call242
end Go.Proofs.YtchmoabpofnbaaaGreat
