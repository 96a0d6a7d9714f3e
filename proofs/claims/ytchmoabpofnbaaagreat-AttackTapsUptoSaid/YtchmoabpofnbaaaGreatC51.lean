import Derived.Test.YtchmoabpofnbaaaGreatC41
import Derived.Test.YtchmoabpofnbaaaGreatC42
import Derived.Test.YtchmoabpofnbaaaGreatC44
set_option linter.all false
namespace Go.Proofs.YtchmoabpofnbaaaGreat
open Go Go.Pv
set_option maxRecDepth 100000
set_option maxHeartbeats 20000000
variable [GM]
attribute [local irreducible] bnd br jn oL loopF iq jS gu pO rG divO jF iO jA jm jE jY jU
variable {M:fP}[HM M]
instance c179 {w}:CC M 179 (Aa w) [.agg (jr M w)] (λr=>.agg (jr M r)):=by
 have hM:=HM.h (M:=M);refine⟨λr U=>?_⟩;refine CO (fO [11,16,25]) Tryz.func179 Tryz.call179 ?_;intro S R hS hR q;unfold Aa at U;cbv;refine Gg (fO [11,16,25]) [.cO 2 19 17] [1,2,3,4] (λs1=>f4 59 [.lv 0 0,.lv 1 0,.lv 2 0,sI s1.1] [vR (jr M w),vR [.sl 0 [] true,.sl 0 [] true,.sl 0 [] true,.sl 0 [] true,.sl 0 [] true,.sl 0 [] true,.sl 0 [] true,sI 0,sI 0,sI 0,.sb false,sI 0,sI 0,sI 0,sI 0,.si .u64 0,.sl 0 [] true,sI 0,sI 0,.sl 0 [] true,.sl 0 [] true,.sl 0 [] true,.sl 0 [] true,.sl 0 [] true],vR (fD M w.s++[.os 3 0 (S.fE (fJ M s1.2)),vg M w.l,.sl 1 (M.m Bool eB w.begun) false,.sl 1 (M.m (List Int) (eL M 1 (eI .i64)) w.sets) false,.sl 1 (M.m Bool eB w.blank) false]),aR 17 (fJ M s1.2)]) U ?_;intro Ik2 k2 s1 hk2 U e he;subst he;unfold BR at U;cbv;refine kQ ?_ ?_
 intro U;cbv;refine yE [] [1,2,3,4] (λs4=>f4 59 [.lv 0 0,.lv 1 0,.lv 2 0,sI s1.1] [vR (jr M w),vR [.sl 0 [] true,.sl 0 [] true,.sl 0 [] true,.sl 0 [] true,.sl 0 [] true,.sl 0 [] true,.sl 0 [] true,sI 0,sI 0,sI 0,.sb false,sI 0,sI 0,sI 0,sI 0,.si .u64 0,.sl 0 [] true,sI 0,sI 0,.sl 0 [] true,.sl 0 [] true,.sl 0 [] true,.sl 0 [] true,.sl 0 [] true],vR (fD M w.s++[.os 3 0 (S.fE (fJ M s4)),vg M w.l,.sl 1 (M.m Bool eB w.begun) false,.sl 1 (M.m (List Int) (eL M 1 (eI .i64)) w.sets) false,.sl 1 (M.m Bool eB w.blank) false]),aR 17 (fJ M s4)]) U ?_ ?_
 intro Ik5 k5 hk5 U;cbv;refine zT ?_;intro x7 U;cbv;refine zT ?_;intro x8 U;cbv;refine yE [] [1,2,3,4,5] (λs9=>f4 59 [.lv 0 0,.lv 1 0,.lv 2 0,sI s1.1,.lv 4 0] [vR (jr M w),vR [.sl 0 [] true,.sl 0 [] true,.sl 0 [] true,.sl 0 [] true,.sl 0 [] true,.sl 0 [] true,.sl 0 [] true,sI 0,sI 0,sI 0,.sb false,sI 0,sI 0,sI 0,sI 0,.si .u64 0,.sl 0 [] true,sI 0,sI 0,.sl 0 [] true,.sl 0 [] true,.sl 0 [] true,.sl 0 [] true,.sl 0 [] true],vR (fD M w.s++[.os 3 0 (S.fE (fJ M s1.2)),vg M w.l,.sl 1 (M.m Bool eB w.begun) false,.sl 1 (M.m (List Int) (eL M 1 (eI .i64)) w.sets) false,.sl 1 (M.m Bool eB w.blank) false]),aR 17 (fJ M s1.2),vR ([.str x7.name]++(qN M x7.cost++[sI x7.gK,sI x7.line.J9,sI x7.line.types,.sl 1 (M.m ByteArray eS x7.line.subs) false,sI s9.1,sI s9.2,sI x7.keys,Cb M x7.fB,sI x7.control]))]) U ?_ ?_
 intro Ik10 k10 hk10 U;cbv;refine yE [] [1,2,3,4,5,6,38] (λs12=>f4 59 [.lv 0 0,.lv 1 0,.lv 2 0,sI s1.1,.lv 4 0,.lv 5 0,.sb s12] [vR (jr M w),vR [.sl 0 [] true,.sl 0 [] true,.sl 0 [] true,.sl 0 [] true,.sl 0 [] true,.sl 0 [] true,.sl 0 [] true,sI 0,sI 0,sI 0,.sb false,sI 0,sI 0,sI 0,sI 0,.si .u64 0,.sl 0 [] true,sI 0,sI 0,.sl 0 [] true,.sl 0 [] true,.sl 0 [] true,.sl 0 [] true,.sl 0 [] true],vR (fD M w.s++[.os 3 0 (S.fE (fJ M s1.2)),vg M w.l,.sl 1 (M.m Bool eB w.begun) false,.sl 1 (M.m (List Int) (eL M 1 (eI .i64)) w.sets) false,.sl 1 (M.m Bool eB w.blank) false]),aR 17 (fJ M s1.2),vR (jh M x7),vR (ja M x8)]) U ?_ ?_
 intro Ik13 k13 hk13 U;cbv;refine kQ ?_ ?_
 intro U;cbv;refine Wn hS U rfl rfl ?_;intro x15 U;cbv;refine Wn hS U rfl rfl ?_;exact sK
 exact pW
 intro s12 U;cbv;refine rf ?_ ?_
 intro U;cbv;refine qZ hS U (cI hM) ?_;intro y17 U;cbv;refine qZ hS U (cI hM) ?_;intro y18 U;cbv;refine qZ hS U (cI hM) ?_;exact sK
 exact pW
 intro s9 U;cbv;refine nG hS U jJ ?_;exact pW
 intro s4 U;cbv;exact sN
 exact d_R
instance amM {w}:CZ M 245 (qm w) [.lv 0 0] [(0,(vR (fV M w.s++[fK M w.forces,.os 1 0 (M.n eQ w.traits),.os 2 0 (M.n Bool w.dropped),.os 3 0 (M.n Bool w.done),.os 4 0 (M.n (List Int) w.hits)]))),(1,(aR 17 (fJ M w.traits))),(2,(aR 1 (M.m Bool eB w.dropped))),(3,(aR 1 (M.m Bool eB w.done))),(4,(aR 1 (M.m (List Int) (eL M 1 (eI .i64)) w.hits)))] 5 (λ_=>.Eu []) (λr=>[(0,(vR (fV M r.s++[fK M r.forces,.os 1 0 (M.n eQ r.traits),.os 2 0 (M.n Bool r.dropped),.os 3 0 (M.n Bool r.done),.os 4 0 (M.n (List Int) r.hits)]))),(1,(aR 17 (fJ M r.traits))),(2,(aR 1 (M.m Bool eB r.dropped))),(3,(aR 1 (M.m Bool eB r.done))),(4,(aR 1 (M.m (List Int) (eL M 1 (eI .i64)) r.hits)))]) 5:=by
 have:=lo 1 [0,10,11,12] (λ_ (s:Int×(List eQ))=>up [(12,sI s.1)] [(0,(vR (fV M w.s++[fK M w.forces,.os 1 0 (M.n eQ s.2),.os 2 0 (M.n Bool w.dropped),.os 3 0 (M.n Bool w.done),.os 4 0 (M.n (List Int) w.hits)]))),(1,(aR 17 (fJ M s.2)))]);have:=ct 15 [0,10,11,12] (λ_ s=>up [] [(0,(vR (fV M w.s++[fK M w.forces,.os 1 0 (M.n eQ s),.os 2 0 (M.n Bool w.dropped),.os 3 0 (M.n Bool w.done),.os 4 0 (M.n (List Int) w.hits)]))),(1,(aR 17 (fJ M s)))]);have:=ct 8 [0,3,4,10,11,12,34] (λ_ s=>je [(34,.sb s)]);exact wC (gp 5 [8,15] []) Tryz.func245 Tryz.call245 []
end Go.Proofs.YtchmoabpofnbaaaGreat
namespace Go.Proofs.YtchmoabpofnbaaaGreat
open Go Go.Pv Proofs.Tryz
set_option maxRecDepth 100000
set_option maxHeartbeats 20000000
variable [GM]
attribute [local irreducible] bnd br jn oL loopF iq jS gu pO rG divO jF iO jA jm jE jY jU
variable {M:fP}[HM M]
instance c53 {cards}{o}:CC M 53 (Tu cards o) [kH M cards,.agg (ja M o)] (λr=>.agg (jh M r)):=by
 have:=ct 9 [0,3,4,5] (λ_ s=>je [(5,sI s)]);have:=ct 15 [3,4,6] (λ_ s=>up [] [(2,(vR (jh M s)))]) [.cS 2 11 1,.cS 2 15 72];have:=ct 10 [0,3,4,5,6,20] (λ_ s=>je [(20,.sb s)]);exact wA (fO [9,10,15]) func53 call53
instance c456 {f}:CC M 456 (Dj f) [.agg (jb M f)] (λr=>.sb r):=by
 have:=ct 2 [1,30] (λ_ s=>je [(30,.sb s)]);have:=ct 6 [1,48] (λ_ s=>je [(48,.sb s)]);have:=ct 10 [1,66] (λ_ s=>je [(66,.sb s)]);have:=ct 14 [1,75] (λ_ s=>je [(75,.sb s)]);exact wA (fO [2,6,10,14]) func456 call456
instance c161 {s}{l}{iI}{owner}:CC M 161 (Eg s l iI owner) [.agg (fD M s),.sl 1 (mI M l) false,sI iI,sI owner] (λr=>.sb r):=by
 have:=lo 2 [1,2,3,4,9] (λ_ s=>je [(9,sI s)]);have:=ct 10 [1,2,3,4,9,53] (λ_ s=>je [(53,.sb s)]);exact wA (fO [10]) func161 call161
instance amP {x}{target}:CC M 462 (oG x target yR) [nS M x,sI target,.fn 463 []] (λr=>.Eu [sI r.1,.sb r.2]):=by
 have:=lo 3 [0,1,2,8,9,10] (λ_ (s:Int×Int)=>je [(9,sI s.1),(10,sI s.2)]);exact wA fG func462 call462
instance amQ {s}{w1:List eX}:CC M 185 (mg s (λa0=>Bf a0 w1)) [jI M s,.fn 284 [.pp [jI M w1]]] (λr=>sI r):=by
 have:=lo 2 [0,1,7,8] (λ_ s=>je [(8,sI s)]);exact wA fG func185 call185
instance c89 {cards}{s}:CC M 89 (zX cards s) [kH M cards,.agg (fD M s)] (λr=>.sb r):=by
 have:=lo 4 [0,3,5] (λ_ s=>je [(5,sI s)]);have:=ct 14 [0,3,5,6,60] (λ_ s=>je [(60,.sb s)]);exact wA (fO [14]) func89 call89
instance c253 {c}{a}:CC M 253 (Bq c a) [.agg (jD M c),.sl 1 (mI M a) false] (λr=>.sb r):=by
 have:=lo 3 [2,5,8,9,10] (λ_ (s:Int×(List Int))=>up [(5,.os 1 0 (M.n Int s.2)),(10,sI s.1)] [(1,(aR 1 (mI M s.2)))]) [.tO 5 1];exact wA fG func253 call253
instance c235 {f}:CC M 235 (r13_Is f) [.agg (jb M f)] (λr=>.sb r):=by
 have:=ct 2 [1,40] (λ_ s=>je [(40,.sb s)]);have:=ct 6 [1,54] (λ_ s=>je [(54,.sb s)]);have:=ct 10 [1,73] (λ_ s=>je [(73,.sb s)]);exact wA (fO [2,6,10]) func235 call235
instance c192 {l}:CC M 192 (Tf l) [.agg (GZ M l)] (λr=>.sb r):=by
 have:=ct 2 [1,27] (λ_ s=>je [(27,.sb s)]);have:=lo 4 [1,3] (λ_ s=>je [(3,sI s)]);have:=ct 12 [1,3,59] (λ_ s=>je [(59,.sb s)]);exact wA (fO [2,12]) func192 call192
instance c428 {t}{f}:CC M 428 (zL t f) [.agg (jh M t),.agg (jb M f)] (λr=>.sb r):=by
 have:=ct 4 [2,3,5,24] (λ_ s=>je [(24,.sb s)]);have:=ct 8 [2,3,39] (λ_ s=>je [(39,.sb s)]);exact wA (fO [4,8]) func428 call428
instance amR {s}{w1:Int}:CC M 327 (uS s (λa0=>wo a0 w1)) [PZ M s,.fn 328 [.pp [sI w1]]] (λr=>.sb r):=by
 exact wA fG func327 call327
instance c214 {a}{b}:CC M 214 (Rf a b) [.agg (jv M a),.agg (jv M b)] (λr=>.sb r):=by
 have:=lo 4 [2,3,5] (λ_ s=>je [(5,sI s)]);exact wA fG func214 call214
instance c395 {i}:CC M 395 (Ba i) [sI i] (λr=>.str r):=by
 have:=lo 3 [0,3,4] (λ_ (s:Int×Int)=>je [(3,sI s.1),(4,sI s.2)]);exact wA fG func395 call395
instance c383 {p}:CC M 383 (Fv p) [.agg [sI p.a0,sI p.a1,sI p.a2,sI p.a3,sI p.a4,sI p.a5]] (λr=>.str r):=by
 exact wA fG func383 call383
instance c62 {s}{id}:CC M 62 (Kt s id) [.agg (fD M s),sI id] (λr=>.Eu [.agg (ja M r.1),.sb r.2]):=by
 exact wA fG func62 call62
instance c446 {c}:CC M 446 (Hw c) [.agg (nH M c)] (λr=>.sb r):=by
 exact wA fG func446 call446
end Go.Proofs.YtchmoabpofnbaaaGreat
