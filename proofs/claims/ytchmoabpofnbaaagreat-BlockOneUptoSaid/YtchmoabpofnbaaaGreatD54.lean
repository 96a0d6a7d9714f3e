import Derived.Test.YtchmoabpofnbaaaGreatD43
import Derived.Test.YtchmoabpofnbaaaGreatD44
import Derived.Test.YtchmoabpofnbaaaGreatD46
set_option linter.all false
namespace Go.Proofs.YtchmoabpofnbaaaGreat
open Go Go.Pv
set_option maxRecDepth 100000
set_option maxHeartbeats 20000000
variable [GM]
attribute [local irreducible] bnd br jn pI eH iI kD gW qx sG divO jU jc jM jD jR kK kE
variable {M:gm}[HM M]
instance an6 {w}:CZ M 245 (qN w) [.lv 0 0] [(0,(vR (gG M w.s++[fU M w.forces,.os 1 0 (M.n eF w.eG),.os 2 0 (M.n Bool w.dropped),.os 3 0 (M.n Bool w.done),.os 4 0 (M.n (List Int) w.hits)]))),(1,(aR 17 (fQ M w.eG))),(2,(aR 1 (M.m Bool eB w.dropped))),(3,(aR 1 (M.m Bool eB w.done))),(4,(aR 1 (M.m (List Int) (eL M 1 (eI .i64)) w.hits)))] 5 (λ_=>.Ed []) (λr=>[(0,(vR (gG M r.s++[fU M r.forces,.os 1 0 (M.n eF r.eG),.os 2 0 (M.n Bool r.dropped),.os 3 0 (M.n Bool r.done),.os 4 0 (M.n (List Int) r.hits)]))),(1,(aR 17 (fQ M r.eG))),(2,(aR 1 (M.m Bool eB r.dropped))),(3,(aR 1 (M.m Bool eB r.done))),(4,(aR 1 (M.m (List Int) (eL M 1 (eI .i64)) r.hits)))]) 5:=by
 have:=lo 1 [0,10,11,12] (λ_ (s:Int×(List eF))=>up [(12,sI s.1)] [(0,(vR (gG M w.s++[fU M w.forces,.os 1 0 (M.n eF s.2),.os 2 0 (M.n Bool w.dropped),.os 3 0 (M.n Bool w.done),.os 4 0 (M.n (List Int) w.hits)]))),(1,(aR 17 (fQ M s.2)))]);have:=ct 15 [0,10,11,12] (λ_ s=>up [] [(0,(vR (gG M w.s++[fU M w.forces,.os 1 0 (M.n eF s),.os 2 0 (M.n Bool w.dropped),.os 3 0 (M.n Bool w.done),.os 4 0 (M.n (List Int) w.hits)]))),(1,(aR 17 (fQ M s)))]);have:=ct 8 [0,3,4,10,11,12,34] (λ_ s=>jf [(34,.sb s)]);exact wC (gJ 5 [8,15] []) Tryz.func245 Tryz.call245 []
instance c417 {l}{sub}:CC M 417 (yG l sub) [.agg (Fq M l),.str sub] (λr=>.agg (Fq M r)):=by
 have hM:=HM.h (M:=M);refine⟨λr U=>?_⟩;refine EN (fZ [4,15]) Tryz.func417 Tryz.call417 ?_;intro S R O hR q;unfold yG at U;cbv;refine jC O U (cZ hM) (le_eq rfl) ?_;intro y1 U;cbv;refine DJ [] [2,3,4,23] (λs2=>f4 42 [.lv 0 0,.lv 2 0,.lv 3 0,.sb s2] [vR [sI l.KO,sI l.types,.os 1 0 (S.fE (M.m ByteArray eS y1))],aR 1 (M.m ByteArray eS y1),vR [.str sub],vR [sI 0,sI 0,.sl 0 [] true]]) U ?_ ?_
 intro Ik3 k3 hk3 U;cbv;refine wo O U (cI hM) ?_;intro y5 U;cbv;refine mP ?_ ?_
 exact tY
 intro U;cbv;refine Em O U (cI hM) NC (λ_=>rfl) ?_;intro y6 U;cbv;refine xH ?_ ?_<;>exact tY
 intro s2 U;cbv;refine xH ?_ ?_
 exact d_R
 intro U;cbv;refine Em O U (cI hM) NC (λ_=>rfl) ?_;intro y7 U;cbv;refine DJ [] [2,3,4,5] (λs8=>f4 42 [.lv 0 0,.lv 2 0,.lv 3 0,sI s8] [vR [sI l.KO,sI l.types,.os 1 0 (S.fE (M.m ByteArray eS y1))],aR 1 (M.m ByteArray eS y1),vR [.str sub],vR [sI 0,sI 0,.sl 0 [] true]]) U ?_ ?_
 intro Ik9 k9 hk9 U;cbv;refine mP ?_ ?_<;>exact tY
 intro s8 U;cbv;refine jE O U (cZ hM) ah ah rfl rfl rfl rfl ?_;exact adz
end Go.Proofs.YtchmoabpofnbaaaGreat
namespace Go.Proofs.YtchmoabpofnbaaaGreat
open Go Go.Pv Proofs.Tryz
set_option maxRecDepth 100000
set_option maxHeartbeats 20000000
variable [GM]
attribute [local irreducible] bnd br jn pI eH iI kD gW qx sG divO jU jc jM jD jR kK kE
variable {M:gm}[HM M]
instance c430 {l}{sub}:CC M 430 (yj l sub) [.agg (Fq M l),.str sub] (λr=>.agg (Fq M r)):=by
 have:=ct 4 [1,2,4,5,24] (λS s=>jf [(5,.os 2 0 (S.fE (S.app (S.sub ([]) 0 0) (M.m ByteArray eS l.subs)))),(24,.sb s)]);have:=lo 5 [1,2,4,5,6] (λ_ s=>jf [(6,sI s)]);have:=ct 10 [1,2,4,5,6,42] (λ_ s=>jf [(42,.sb s)]);exact wA (fZ [4,10,1009]) func430 call430
instance c244 {cards}{o}:CC M 244 (JC cards o) [lQ M cards,.agg (jo M o)] (λr=>.agg (jd M r)):=by
 have:=ct 9 [0,3,4,5] (λ_ s=>jf [(5,sI s)]);have:=ct 15 [3,4,6] (λ_ s=>up [] [(2,(vR (jd M s)))]) [.cS 2 15 72,.cS 2 11 1];have:=ct 10 [0,3,4,5,6,21] (λ_ s=>jf [(21,.sb s)]);exact wA (fZ [9,10,15]) func244 call244
instance c53 {cards}{o}:CC M 53 (N9 cards o) [lQ M cards,.agg (jo M o)] (λr=>.agg (jd M r)):=by
 have:=ct 9 [0,3,4,5] (λ_ s=>jf [(5,sI s)]);have:=ct 15 [3,4,6] (λ_ s=>up [] [(2,(vR (jd M s)))]) [.cS 2 15 72,.cS 2 11 1];have:=ct 10 [0,3,4,5,6,20] (λ_ s=>jf [(20,.sb s)]);exact wA (fZ [9,10,15]) func53 call53
instance c456 {f}:CC M 456 (D5 f) [.agg (jm M f)] (λr=>.sb r):=by
 have:=ct 2 [1,30] (λ_ s=>jf [(30,.sb s)]);have:=ct 6 [1,48] (λ_ s=>jf [(48,.sb s)]);have:=ct 10 [1,66] (λ_ s=>jf [(66,.sb s)]);have:=ct 14 [1,75] (λ_ s=>jf [(75,.sb s)]);exact wA (fZ [2,6,10,14]) func456 call456
instance c161 {s}{l}{iL}{owner}:CC M 161 (ES s l iL owner) [.agg (fM M s),.sl 1 (mI M l) false,sI iL,sI owner] (λr=>.sb r):=by
 have:=lo 2 [1,2,3,4,9] (λ_ s=>jf [(9,sI s)]);have:=ct 10 [1,2,3,4,9,53] (λ_ s=>jf [(53,.sb s)]);exact wA (fZ [10]) func161 call161
instance an9 {x}{target}:CC M 462 (oW x target zY) [oZ M x,sI target,.fn 463 []] (λr=>.Ed [sI r.1,.sb r.2]):=by
 have:=lo 3 [0,1,2,8,9,10] (λ_ (s:Int×Int)=>jf [(9,sI s.1),(10,sI s.2)]);exact wA fG func462 call462
instance aoa {s}{w1:List fH}:CC M 185 (oM s (λa0=>Cf a0 w1)) [pX M s,.fn 284 [.pp [pX M w1]]] (λr=>sI r):=by
 have:=lo 2 [0,1,7,8] (λ_ s=>jf [(8,sI s)]);exact wA fG func185 call185
instance c89 {cards}{s}:CC M 89 (Bo cards s) [lQ M cards,.agg (fM M s)] (λr=>.sb r):=by
 have:=lo 4 [0,3,5] (λ_ s=>jf [(5,sI s)]);have:=ct 14 [0,3,5,6,60] (λ_ s=>jf [(60,.sb s)]);exact wA (fZ [14]) func89 call89
instance c253 {c}{a}:CC M 253 (CE c a) [.agg (jQ M c),.sl 1 (mI M a) false] (λr=>.sb r):=by
 have:=lo 3 [2,5,8,9,10] (λ_ (s:Int×(List Int))=>up [(5,.os 1 0 (M.n Int s.2)),(10,sI s.1)] [(1,(aR 1 (mI M s.2)))]) [.tO 5 1];exact wA fG func253 call253
instance c235 {f}:CC M 235 (pO f) [.agg (jm M f)] (λr=>.sb r):=by
 have:=ct 2 [1,40] (λ_ s=>jf [(40,.sb s)]);have:=ct 6 [1,54] (λ_ s=>jf [(54,.sb s)]);have:=ct 10 [1,73] (λ_ s=>jf [(73,.sb s)]);exact wA (fZ [2,6,10]) func235 call235
instance c192 {l}:CC M 192 (Uh l) [.agg (Fq M l)] (λr=>.sb r):=by
 have:=ct 2 [1,27] (λ_ s=>jf [(27,.sb s)]);have:=lo 4 [1,3] (λ_ s=>jf [(3,sI s)]);have:=ct 12 [1,3,59] (λ_ s=>jf [(59,.sb s)]);exact wA (fZ [2,12]) func192 call192
instance c428 {t}{f}:CC M 428 (AX t f) [.agg (jd M t),.agg (jm M f)] (λr=>.sb r):=by
 have:=ct 4 [2,3,5,24] (λ_ s=>jf [(24,.sb s)]);have:=ct 8 [2,3,39] (λ_ s=>jf [(39,.sb s)]);exact wA (fZ [4,8]) func428 call428
instance aob {s}{w1:Int}:CC M 327 (vK s (λa0=>wX a0 w1)) [OH M s,.fn 328 [.pp [sI w1]]] (λr=>.sb r):=by
 exact wA fG func327 call327
instance c214 {a}{b}:CC M 214 (EP a b) [.agg (jH M a),.agg (jH M b)] (λr=>.sb r):=by
 have:=lo 4 [2,3,5] (λ_ s=>jf [(5,sI s)]);exact wA fG func214 call214
instance c395 {i}:CC M 395 (Cb i) [sI i] (λr=>.str r):=by
 have:=lo 3 [0,3,4] (λ_ (s:Int×Int)=>jf [(3,sI s.1),(4,sI s.2)]);exact wA fG func395 call395
instance c383 {p}:CC M 383 (Gv p) [.agg [sI p.a0,sI p.a1,sI p.a2,sI p.a3,sI p.a4,sI p.a5]] (λr=>.str r):=by
 exact wA fG func383 call383
instance c62 {s}{id}:CC M 62 (Uk s id) [.agg (fM M s),sI id] (λr=>.Ed [.agg (jo M r.1),.sb r.2]):=by
 exact wA fG func62 call62
instance c446 {c}:CC M 446 (IL c) [.agg (nY M c)] (λr=>.sb r):=by
 exact wA fG func446 call446
end Go.Proofs.YtchmoabpofnbaaaGreat
