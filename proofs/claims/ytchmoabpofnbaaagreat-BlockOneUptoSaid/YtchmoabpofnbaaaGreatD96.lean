import Derived.Test.YtchmoabpofnbaaaGreatD92
import Derived.Test.YtchmoabpofnbaaaGreatD93
set_option linter.all false
namespace Go.Proofs.YtchmoabpofnbaaaGreat
open Go Go.Pv Proofs.Tryz
set_option maxRecDepth 100000
set_option maxHeartbeats 20000000
variable [GM]
attribute [local irreducible] bnd br jn pI eH iI kD gW qx sG divO jU jc jM jD jR kK kE
variable {M:gm}[HM M]
instance z49_1 {k}{cards}{s}{pe}{add}:CZ M 49 (IM k cards s pe add) [.lv 0 0,lQ M cards,.agg (fM M s),.agg (jT M pe),.sb add] [(0,(vR ([.os 1 0 (M.n (List Int) k.answers),sI k.used]++(jQ M k.pending++[.sb k.waits,.sb k.bad])))),(1,(aR 1 (M.m (List Int) (eL M 1 (eI .i64)) k.answers)))] 2 (λr=>.agg (fM M r)) (λ_=>[(0,(vR ([.os 1 0 (M.n (List Int) k.answers),sI k.used]++(jQ M k.pending++[.sb k.waits,.sb k.bad])))),(1,(aR 1 (M.m (List Int) (eL M 1 (eI .i64)) k.answers)))]) 2:=by
 have:=ct 4 [0,1,7,8,10,31] (λ_ s=>jf [(31,.sb s)]);have:=ct 15 [0,1,7,8,10,12] (λ_ (_:Unit)=>jf []);have:=ct 10 [0,1,7,8,10,12,40] (λ_ s=>jf [(40,.sb s)]);have:=lo 9 [0,1,7,8,10,51,52] (λ_ (_:Unit)=>jf []);exact wC (gJ 2 [4,10,15] [[(0,false),(0,false),(0,false),(0,false),(0,false),(0,true),(0,false),(0,false),(0,false),(0,false),(0,false),(0,false),(0,false),(0,false),(0,false),(0,false),(0,false),(0,false),(0,false)]]) func49 call49 []
instance z49_0 {k}{cards}{s}{pe}{add}:CZ M 49 (OE k cards s pe add) [.lv 0 0,lQ M cards,.agg (fM M s),.agg (jT M pe),.sb add] [(0,(vR (jY M k)))] 1 (λr=>.agg (fM M r.1)) (λr=>[(0,(vR (jY M r.2)))]) 1:=by
 have:=ct 4 [0,1,7,8,10,31] (λ_ s=>jf [(31,.sb s)]);have:=ct 15 [0,1,7,8,10,12] (λ_ (_:Unit)=>jf []);have:=ct 10 [0,1,7,8,10,12,40] (λ_ s=>jf [(40,.sb s)]);have:=lo 9 [0,1,7,8,10,51,52] (λ_ (_:Unit)=>jf []);exact wC (gJ 1 [4,10,15] [[(0,false),(0,false),(0,false),(0,false),(0,false),(0,true),(0,false),(0,false),(0,false),(0,false),(0,false),(0,false),(0,false),(0,false),(0,false),(0,false),(0,false),(0,false),(0,false)]]) func49 call49 []
instance c90 {s}:CC M 90 (G8 s) [.agg (fM M s)] (λr=>.sb r):=by
 have:=ct 2 [1,24] (λ_ s=>jf [(24,.sb s)]);have:=lo 4 [1,3] (λ_ s=>jf [(3,sI s)]);have:=lo 9 [1,3,4] (λ_ s=>jf [(4,sI s)]);have:=lo 14 [1,5] (λ_ s=>jf [(5,sI s)]);have:=ct 34 [1,5,86] (λ_ s=>jf [(86,.sb s)]);have:=lo 20 [1,7] (λ_ s=>jf [(7,sI s)]);have:=ct 46 [1,7,128] (λ_ s=>jf [(128,.sb s)]);exact wA (fZ [2,34,46]) func90 call90
end Go.Proofs.YtchmoabpofnbaaaGreat
namespace Go.Proofs.YtchmoabpofnbaaaGreat
open Go Go.Pv
set_option maxRecDepth 100000
set_option maxHeartbeats 20000000
variable [GM]
attribute [local irreducible] bnd br jn pI eH iI kD gW qx sG divO jU jc jM jD jR kK kE
variable {M:gm}[HM M]
instance c43 {l}:CC M 43 (G9 l) [lQ M l] (λr=>.Ed [sI r.1,sI r.2]):=by
 have:=lo 4 [0,4] (λ_ s=>jf [(4,sI s)]);exact wA fG Tryz.func43 Tryz.call43
end Go.Proofs.YtchmoabpofnbaaaGreat
