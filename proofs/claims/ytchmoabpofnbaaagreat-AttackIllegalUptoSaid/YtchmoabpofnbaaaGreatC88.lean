import Derived.Test.YtchmoabpofnbaaaGreatC85
import Derived.Test.YtchmoabpofnbaaaGreatC86
set_option linter.all false
namespace Go.Proofs.YtchmoabpofnbaaaGreat
open Go Go.Pv Proofs.Tryz
set_option maxRecDepth 100000
set_option maxHeartbeats 20000000
variable [GM]
attribute [local irreducible] bnd br jn qE gK jv lJ jl rD uo divO kT jL kN kP lI lS lM
variable {M:iG}[HM M]
instance z49_1 {k}{cards}{s}{pe}{add}:CZ M 49 (LZ k cards s pe add) [.lv 0 0,oh M cards,.agg (iF M s),.agg (jZ M pe),.sb add] [(0,(vR ([.os 1 0 (M.n (List Int) k.answers),sI k.used]++(lN M k.pending++[.sb k.waits,.sb k.bad])))),(1,(aR 1 (M.m (List Int) (eL M 1 (eI .i64)) k.answers)))] 2 (λr=>.agg (iF M r)) (λ_=>[(0,(vR ([.os 1 0 (M.n (List Int) k.answers),sI k.used]++(lN M k.pending++[.sb k.waits,.sb k.bad])))),(1,(aR 1 (M.m (List Int) (eL M 1 (eI .i64)) k.answers)))]) 2:=by
 have:=ct 4 [0,1,7,8,10,31] (λ_ s=>jO [(31,.sb s)]);have:=ct 15 [0,1,7,8,10,12] (λ_ (_:Unit)=>jO []);have:=ct 10 [0,1,7,8,10,12,40] (λ_ s=>jO [(40,.sb s)]);have:=lo 9 [0,1,7,8,10,51,52] (λ_ (_:Unit)=>jO []);exact wC (iV 2 [4,10,15] [[(0,false),(0,false),(0,false),(0,false),(0,false),(0,true),(0,false),(0,false),(0,false),(0,false),(0,false),(0,false),(0,false),(0,false),(0,false),(0,false),(0,false),(0,false),(0,false)]]) func49 call49 []
instance z49_0 {k}{cards}{s}{pe}{add}:CZ M 49 (GI k cards s pe add) [.lv 0 0,oh M cards,.agg (iF M s),.agg (jZ M pe),.sb add] [(0,(vR (lV M k)))] 1 (λr=>.agg (iF M r.1)) (λr=>[(0,(vR (lV M r.2)))]) 1:=by
 have:=ct 4 [0,1,7,8,10,31] (λ_ s=>jO [(31,.sb s)]);have:=ct 15 [0,1,7,8,10,12] (λ_ (_:Unit)=>jO []);have:=ct 10 [0,1,7,8,10,12,40] (λ_ s=>jO [(40,.sb s)]);have:=lo 9 [0,1,7,8,10,51,52] (λ_ (_:Unit)=>jO []);exact wC (iV 1 [4,10,15] [[(0,false),(0,false),(0,false),(0,false),(0,false),(0,true),(0,false),(0,false),(0,false),(0,false),(0,false),(0,false),(0,false),(0,false),(0,false),(0,false),(0,false),(0,false),(0,false)]]) func49 call49 []
instance c90 {s}:CC M 90 (Nw s) [.agg (iF M s)] (λr=>.sb r):=by
 have:=ct 2 [1,24] (λ_ s=>jO [(24,.sb s)]);have:=lo 4 [1,3] (λ_ s=>jO [(3,sI s)]);have:=lo 9 [1,3,4] (λ_ s=>jO [(4,sI s)]);have:=lo 14 [1,5] (λ_ s=>jO [(5,sI s)]);have:=ct 34 [1,5,86] (λ_ s=>jO [(86,.sb s)]);have:=lo 20 [1,7] (λ_ s=>jO [(7,sI s)]);have:=ct 46 [1,7,128] (λ_ s=>jO [(128,.sb s)]);exact wA (iO [2,34,46]) func90 call90
end Go.Proofs.YtchmoabpofnbaaaGreat
namespace Go.Proofs.YtchmoabpofnbaaaGreat
open Go Go.Pv
set_option maxRecDepth 100000
set_option maxHeartbeats 20000000
variable [GM]
attribute [local irreducible] bnd br jn qE gK jv lJ jl rD uo divO kT jL kN kP lI lS lM
variable {M:iG}[HM M]
instance c43 {l}:CC M 43 (Nz l) [oh M l] (λr=>.DJ [sI r.1,sI r.2]):=by
 have:=lo 4 [0,4] (λ_ s=>jO [(4,sI s)]);exact wA ig Tryz.func43 Tryz.call43
end Go.Proofs.YtchmoabpofnbaaaGreat
namespace Go.Proofs.YtchmoabpofnbaaaGreat
open Go Go.Pv Proofs.Tryz
set_option maxRecDepth 100000
set_option maxHeartbeats 20000000
variable [GM]
attribute [local irreducible] bnd br jn qE gK jv lJ jl rD uo divO kT jL kN kP lI lS lM
variable {M:iG}[HM M]
instance z16_1 {k}{cards}{s}{pe}:CZ M 16 (Gy k cards s pe) [.lv 0 0,oh M cards,.agg (iF M s),.agg (jZ M pe)] [(0,(vR ([.os 1 0 (M.n (List Int) k.answers),sI k.used]++(lN M k.pending++[.sb k.waits,.sb k.bad])))),(1,(aR 1 (M.m (List Int) (eL M 1 (eI .i64)) k.answers)))] 2 (λr=>.agg (iF M r)) (λ_=>[(0,(vR ([.os 1 0 (M.n (List Int) k.answers),sI k.used]++(lN M k.pending++[.sb k.waits,.sb k.bad])))),(1,(aR 1 (M.m (List Int) (eL M 1 (eI .i64)) k.answers)))]) 2:=by
 exact wC (iV 2 [] []) func16 call16 []
instance c29 {cards}{s}:CC M 29 (OU cards s) [oh M cards,.agg (iF M s)] (λr=>.sb r):=by
 have:=ct 2 [0,3,33] (λ_ s=>jO [(33,.sb s)]);have:=ct 6 [0,3,71] (λ_ s=>jO [(71,.sb s)]);have:=lo 6 [0,3,5] (λ_ s=>jO [(5,sI s)]);have:=ct 20 [0,3,106] (λ_ s=>jO [(106,.sb s)]);exact wA (iO [2,6,20]) func29 call29
instance z16_0 {k}{cards}{s}{pe}:CZ M 16 (xK k cards s pe) [.lv 0 0,oh M cards,.agg (iF M s),.agg (jZ M pe)] [(0,(vR (lV M k)))] 1 (λr=>.agg (iF M r.1)) (λr=>[(0,(vR (lV M r.2)))]) 1:=by
 exact wC (iV 1 [] []) func16 call16 []
end Go.Proofs.YtchmoabpofnbaaaGreat
