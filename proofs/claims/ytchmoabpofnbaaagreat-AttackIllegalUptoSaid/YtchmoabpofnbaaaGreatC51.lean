import Derived.Test.YtchmoabpofnbaaaGreatC40
import Derived.Test.YtchmoabpofnbaaaGreatC41
import Derived.Test.YtchmoabpofnbaaaGreatC42
set_option linter.all false
namespace Go.Proofs.YtchmoabpofnbaaaGreat
open Go Go.Pv Proofs.Tryz
set_option maxRecDepth 100000
set_option maxHeartbeats 20000000
variable [GM]
attribute [local irreducible] bnd br jn qE gK jv lJ jl rD uo divO kT jL kN kP lI lS lM
variable {M:iG}[HM M]
instance c417 {l}{sub}:CC M 417 (D5 l sub) [.agg (Ls M l),.str sub] (λr=>.agg (Ls M r)):=by
 have hM:=HM.h (M:=M);refine⟨λr O=>?_⟩;refine ES (iO [4,15]) func417 call417 ?_;intro S R hS hR q;unfold D5 at O;cbv;refine jM hS O (cZ hM) (le_eq rfl) ?_;intro y1 O;cbv;refine DR [] [2,3,4,23] (λs2=>f4 42 [.lv 0 0,.lv 2 0,.lv 3 0,.sb s2] [vR [sI l.F7,sI l.types,.os 1 0 (S.gZ (M.m ByteArray eS y1))],aR 1 (M.m ByteArray eS y1),vR [.str sub],vR [sI 0,sI 0,.sl 0 [] true]]) O ?_ ?_
 intro Ik3 k3 hk3 O;cbv;refine zn hS O (cI hM) ?_;intro y5 O;cbv;refine nZ ?_ ?_
 exact vF
 intro O;cbv;refine JK hS O (cI hM) Lr (λ_=>rfl) ?_;intro y6 O;cbv;refine vP ?_ ?_<;>exact vF
 intro s2 O;cbv;refine vP ?_ ?_
 exact d_R
 intro O;cbv;refine JK hS O (cI hM) Lr (λ_=>rfl) ?_;intro y7 O;cbv;refine DR [] [2,3,4,5] (λs8=>f4 42 [.lv 0 0,.lv 2 0,.lv 3 0,sI s8] [vR [sI l.F7,sI l.types,.os 1 0 (S.gZ (M.m ByteArray eS y1))],aR 1 (M.m ByteArray eS y1),vR [.str sub],vR [sI 0,sI 0,.sl 0 [] true]]) O ?_ ?_
 intro Ik9 k9 hk9 O;cbv;refine nZ ?_ ?_<;>exact vF
 intro s8 O;cbv;refine jT hS O (cZ hM) aj aj rfl rfl rfl rfl ?_;exact Z4
instance c35 {s}{all}:CC M 35 (uh s all) [.agg (iF M s),lq M all] (λr=>pF M r):=by
 have:=lo 4 [1,2,5,6,16,17,18] (λ_ (s:Int×(List gX))=>up [(5,.os 1 0 (M.n gX s.2)),(18,sI s.1)] [(1,(aR 3 (ry M s.2)))]) [.tO 5 3];have:=ct 25 [1,2,5,6,16,17,18] (λ_ s=>up [(5,.os 1 0 (M.n gX s))] [(1,(aR 3 (ry M s)))]) [.tO 5 3];have:=ct 12 [1,2,5,6,8,16,17,18,36] (λ_ s=>jO [(36,.sb s)]);have:=lo 8 [1,2,5,6,8,16,17,18,37,38,39] (λ_ (s:Int×(List gX))=>up [(5,.os 1 0 (M.n gX s.2)),(39,sI s.1)] [(1,(aR 3 (ry M s.2)))]) [.tO 5 3];exact wA (iO [12,25]) func35 call35
instance ajZ {x}{target}:CC M 462 (pz x target wP) [oM M x,sI target,.fn 463 []] (λr=>.DJ [sI r.1,.sb r.2]):=by
 have:=lo 3 [0,1,2,8,9,10] (λ_ (s:Int×Int)=>jO [(9,sI s.1),(10,sI s.2)]);exact wA ig func462 call462
instance aj0 {s}{w1:List gX}:CC M 185 (nM s (λa0=>A7 a0 w1)) [pF M s,.fn 284 [.pp [pF M w1]]] (λr=>sI r):=by
 have:=lo 2 [0,1,7,8] (λ_ s=>jO [(8,sI s)]);exact wA ig func185 call185
instance c89 {cards}{s}:CC M 89 (Hq cards s) [oh M cards,.agg (iF M s)] (λr=>.sb r):=by
 have:=lo 4 [0,3,5] (λ_ s=>jO [(5,sI s)]);have:=ct 14 [0,3,5,6,60] (λ_ s=>jO [(60,.sb s)]);exact wA (iO [14]) func89 call89
instance c253 {c}{a}:CC M 253 (Bh c a) [.agg (lN M c),.sl 1 (mI M a) false] (λr=>.sb r):=by
 have:=lo 3 [2,5,8,9,10] (λ_ (s:Int×(List Int))=>up [(5,.os 1 0 (M.n Int s.2)),(10,sI s.1)] [(1,(aR 1 (mI M s.2)))]) [.tO 5 1];exact wA ig func253 call253
instance c235 {f}:CC M 235 (Ej f) [.agg (jU M f)] (λr=>.sb r):=by
 have:=ct 2 [1,40] (λ_ s=>jO [(40,.sb s)]);have:=ct 6 [1,54] (λ_ s=>jO [(54,.sb s)]);have:=ct 10 [1,73] (λ_ s=>jO [(73,.sb s)]);exact wA (iO [2,6,10]) func235 call235
instance c192 {l}:CC M 192 (J8 l) [.agg (Ls M l)] (λr=>.sb r):=by
 have:=ct 2 [1,27] (λ_ s=>jO [(27,.sb s)]);have:=lo 4 [1,3] (λ_ s=>jO [(3,sI s)]);have:=ct 12 [1,3,59] (λ_ s=>jO [(59,.sb s)]);exact wA (iO [2,12]) func192 call192
instance aj1 {s}{w1:Int}:CC M 327 (uS s (λa0=>wE a0 w1)) [MC M s,.fn 328 [.pp [sI w1]]] (λr=>.sb r):=by
 exact wA ig func327 call327
instance c214 {a}{b}:CC M 214 (DU a b) [.agg (kC M a),.agg (kC M b)] (λr=>.sb r):=by
 have:=lo 4 [2,3,5] (λ_ s=>jO [(5,sI s)]);exact wA ig func214 call214
instance c395 {i}:CC M 395 (AY i) [sI i] (λr=>.str r):=by
 have:=lo 3 [0,3,4] (λ_ (s:Int×Int)=>jO [(3,sI s.1),(4,sI s.2)]);exact wA ig func395 call395
instance c383 {p}:CC M 383 (E8 p) [.agg [sI p.a0,sI p.a1,sI p.a2,sI p.a3,sI p.a4,sI p.a5]] (λr=>.str r):=by
 exact wA ig func383 call383
instance c62 {s}{id}:CC M 62 (NC s id) [.agg (iF M s),sI id] (λr=>.DJ [.agg (jQ M r.1),.sb r.2]):=by
 exact wA ig func62 call62
end Go.Proofs.YtchmoabpofnbaaaGreat
