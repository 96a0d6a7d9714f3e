import Derived.Test.YtchmoabpofnbaaaGreatC91
import Derived.Test.YtchmoabpofnbaaaGreatC92
set_option linter.all false
namespace Go.Proofs.YtchmoabpofnbaaaGreat
open Go Go.Pv Proofs.Tryz
set_option maxRecDepth 100000
set_option maxHeartbeats 20000000
variable [GM]
attribute [local irreducible] bnd br jn oL loopF iq jS gu pO rG divO jF iO jA jm jE jY jU
variable {M:fP}[HM M]
instance z49_1 {k}{cards}{s}{pe}{add}:CZ M 49 (NK k cards s pe add) [.lv 0 0,kH M cards,.agg (fD M s),.agg (jC M pe),.sb add] [(0,(vR ([.os 1 0 (M.n (List Int) k.answers),sI k.used]++(jD M k.pending++[.sb k.waits,.sb k.bad])))),(1,(aR 1 (M.m (List Int) (eL M 1 (eI .i64)) k.answers)))] 2 (λr=>.agg (fD M r)) (λ_=>[(0,(vR ([.os 1 0 (M.n (List Int) k.answers),sI k.used]++(jD M k.pending++[.sb k.waits,.sb k.bad])))),(1,(aR 1 (M.m (List Int) (eL M 1 (eI .i64)) k.answers)))]) 2:=by
 have:=ct 4 [0,1,7,8,10,31] (λ_ s=>je [(31,.sb s)]);have:=ct 15 [0,1,7,8,10,12] (λ_ (_:Unit)=>je []);have:=ct 10 [0,1,7,8,10,12,40] (λ_ s=>je [(40,.sb s)]);have:=lo 9 [0,1,7,8,10,51,52] (λ_ (_:Unit)=>je []);exact wC (gp 2 [4,10,15] [[(0,false),(0,false),(0,false),(0,false),(0,false),(0,true),(0,false),(0,false),(0,false),(0,false),(0,false),(0,false),(0,false),(0,false),(0,false),(0,false),(0,false),(0,false),(0,false)]]) func49 call49 []
instance z49_0 {k}{cards}{s}{pe}{add}:CZ M 49 (Ia k cards s pe add) [.lv 0 0,kH M cards,.agg (fD M s),.agg (jC M pe),.sb add] [(0,(vR (jL M k)))] 1 (λr=>.agg (fD M r.1)) (λr=>[(0,(vR (jL M r.2)))]) 1:=by
 have:=ct 4 [0,1,7,8,10,31] (λ_ s=>je [(31,.sb s)]);have:=ct 15 [0,1,7,8,10,12] (λ_ (_:Unit)=>je []);have:=ct 10 [0,1,7,8,10,12,40] (λ_ s=>je [(40,.sb s)]);have:=lo 9 [0,1,7,8,10,51,52] (λ_ (_:Unit)=>je []);exact wC (gp 1 [4,10,15] [[(0,false),(0,false),(0,false),(0,false),(0,false),(0,true),(0,false),(0,false),(0,false),(0,false),(0,false),(0,false),(0,false),(0,false),(0,false),(0,false),(0,false),(0,false),(0,false)]]) func49 call49 []
instance c90 {s}:CC M 90 (Gl s) [.agg (fD M s)] (λr=>.sb r):=by
 have:=ct 2 [1,24] (λ_ s=>je [(24,.sb s)]);have:=lo 4 [1,3] (λ_ s=>je [(3,sI s)]);have:=lo 9 [1,3,4] (λ_ s=>je [(4,sI s)]);have:=lo 14 [1,5] (λ_ s=>je [(5,sI s)]);have:=ct 34 [1,5,86] (λ_ s=>je [(86,.sb s)]);have:=lo 20 [1,7] (λ_ s=>je [(7,sI s)]);have:=ct 46 [1,7,128] (λ_ s=>je [(128,.sb s)]);exact wA (fO [2,34,46]) func90 call90
end Go.Proofs.YtchmoabpofnbaaaGreat
namespace Go.Proofs.YtchmoabpofnbaaaGreat
open Go Go.Pv
set_option maxRecDepth 100000
set_option maxHeartbeats 20000000
variable [GM]
attribute [local irreducible] bnd br jn oL loopF iq jS gu pO rG divO jF iO jA jm jE jY jU
variable {M:fP}[HM M]
instance c43 {l}:CC M 43 (Gm l) [kH M l] (λr=>.Eu [sI r.1,sI r.2]):=by
 have:=lo 4 [0,4] (λ_ s=>je [(4,sI s)]);exact wA fG Tryz.func43 Tryz.call43
end Go.Proofs.YtchmoabpofnbaaaGreat
