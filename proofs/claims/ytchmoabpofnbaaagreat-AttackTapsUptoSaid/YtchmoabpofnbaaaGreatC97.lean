import Derived.Test.YtchmoabpofnbaaaGreatC95
set_option linter.all false
namespace Go.Proofs.YtchmoabpofnbaaaGreat
open Go Go.Pv Proofs.Tryz
set_option maxRecDepth 100000
set_option maxHeartbeats 20000000
variable [GM]
attribute [local irreducible] bnd br jn oL loopF iq jS gu pO rG divO jF iO jA jm jE jY jU
variable {M:fP}[HM M]
instance z16_1 {k}{cards}{s}{pe}:CZ M 16 (Hy k cards s pe) [.lv 0 0,kH M cards,.agg (fD M s),.agg (jC M pe)] [(0,(vR ([.os 1 0 (M.n (List Int) k.answers),sI k.used]++(jD M k.pending++[.sb k.waits,.sb k.bad])))),(1,(aR 1 (M.m (List Int) (eL M 1 (eI .i64)) k.answers)))] 2 (λr=>.agg (fD M r)) (λ_=>[(0,(vR ([.os 1 0 (M.n (List Int) k.answers),sI k.used]++(jD M k.pending++[.sb k.waits,.sb k.bad])))),(1,(aR 1 (M.m (List Int) (eL M 1 (eI .i64)) k.answers)))]) 2:=by
 exact wC (gp 2 [] []) func16 call16 []
instance c29 {cards}{s}:CC M 29 (Td cards s) [kH M cards,.agg (fD M s)] (λr=>.sb r):=by
 have:=ct 2 [0,3,33] (λ_ s=>je [(33,.sb s)]);have:=ct 6 [0,3,71] (λ_ s=>je [(71,.sb s)]);have:=lo 6 [0,3,5] (λ_ s=>je [(5,sI s)]);have:=ct 20 [0,3,106] (λ_ s=>je [(106,.sb s)]);exact wA (fO [2,6,20]) func29 call29
instance z16_0 {k}{cards}{s}{pe}:CZ M 16 (xP k cards s pe) [.lv 0 0,kH M cards,.agg (fD M s),.agg (jC M pe)] [(0,(vR (jL M k)))] 1 (λr=>.agg (fD M r.1)) (λr=>[(0,(vR (jL M r.2)))]) 1:=by
 exact wC (gp 1 [] []) func16 call16 []
end Go.Proofs.YtchmoabpofnbaaaGreat
