import Derived.Test.YtchmoabpofnbaaaGreatC13
import Derived.Test.YtchmoabpofnbaaaGreatC14
import Derived.Test.YtchmoabpofnbaaaGreatC15
import Derived.Test.YtchmoabpofnbaaaGreatC16
set_option linter.all false
namespace Go.Proofs.YtchmoabpofnbaaaGreat
open Go Go.Pv
set_option maxRecDepth 100000
set_option maxHeartbeats 20000000
variable [GM]
attribute [local irreducible] bnd br jn qE gK jv lJ jl rD uo divO kT jL kN kP lI lS lM
variable {M:iG}[HM M]
instance c132 {a}:CC M 132 (rZ a) [.agg (kC M a)] (λr=>.agg (kC M r)):=by
 have hM:=HM.h (M:=M);refine⟨λr O=>?_⟩;refine ES ig Tryz.func132 Tryz.call132 ?_;intro S R hS hR q;unfold rZ at O;cbv;refine jM hS O (cZ hM) (le_eq rfl) ?_;intro y1 O;cbv;refine jM hS O (cZ hM) (le_eq rfl) ?_;intro y2 O;cbv;refine jM hS O (cZ hM) (le_eq rfl) ?_;intro y3 O;cbv;refine TF hS ig wf [] [1,2,18,19] (λs4=>f3 36 [(1,.lv 0 0),(2,.lv 4 0),(18,sI (S.yO (M.n jg y3))),(19,sI s4.1)] [vR ((([sI a.kind]++(jU M a.filter++([.os 1 0 (S.gZ (TJ M y1))]++(Dn M a.price++[.sb a.slow]))))++(qA M a.iK++[.sb a.may,.os 2 0 (S.gZ (mSpec M y2)),.os 3 0 (S.gZ (yz M s4.2))]))++(rY M a.replace)),aR 20 (TJ M y1),aR 18 (mSpec M y2),aR 64 (yz M s4.2),vR [sI 0,sI 0,sI 0,sI 0,sI 0,sI 0,sI 0,sI 0,.str (bs []),sI 0,sI 0,sI 0,sI 0,sI 0,sI 0,sI 0,sI 0,.sl 0 [] true,sI 0,sI 0,sI 0,sI 0,sI 0,sI 0,sI 0,.sb false,.sb false,sI 0,.sb false,sI 0,sI 0,sI 0,sI 0,sI 0,sI 0,sI 0,sI 0,sI 0,.str (bs []),sI 0,sI 0,sI 0,sI 0,sI 0,sI 0,sI 0,sI 0,.sb false,.sl 0 [] true,.sl 0 [] true,sI 0,sI 0,sI 0,sI 0,sI 0,sI 0,sI 0,sI 0,sI 0,.str (bs []),sI 0,sI 0,sI 0,sI 0,sI 0,sI 0,sI 0,sI 0,sI 0,sI 0,sI 0,sI 0]]) O ?_;intro Ik5 k5 s4 hk5 O e he;subst he;unfold uG at O;cbv;refine nZ ?_ ?_
 intro O;cbv;refine EF hS ?_;cbv;refine mG hS O lC rfl ?_;intro j7 _ O;cbv;refine jW hS hM O rfl lC ?_;intro x8 O;cbv;refine Je hS O (cI hM) ?_;intro y9 O;cbv;refine mG hS O lC rfl ?_;intro j10 _ O;cbv;refine jW hS hM O rfl lC ?_;exact xZ
 exact d_R
instance ajC {w}:CZ M 336 (tq w) [.lv 0 0] [(0,(vR (iI M w.s++[iy M w.forces,.os 1 0 (M.n gG w.iE),.os 2 0 (M.n Bool w.dropped),.os 3 0 (M.n Bool w.done),.os 4 0 (M.n (List Int) w.hits)]))),(1,(aR 17 (iD M w.iE))),(2,(aR 1 (M.m Bool eB w.dropped))),(3,(aR 1 (M.m Bool eB w.done))),(4,(aR 1 (M.m (List Int) (eL M 1 (eI .i64)) w.hits)))] 5 (λ_=>.lv 5 0) (λr=>[(0,(vR (iI M w.s++[iy M w.forces,.os 1 0 (M.n gG w.iE),.os 2 0 (M.n Bool w.dropped),.os 3 0 (M.n Bool w.done),.os 4 0 (M.n (List Int) w.hits)]))),(1,(aR 17 (iD M w.iE))),(2,(aR 1 (M.m Bool eB w.dropped))),(3,(aR 1 (M.m Bool eB w.done))),(4,(aR 1 (M.m (List Int) (eL M 1 (eI .i64)) w.hits))),(5,(vR (iI M r.s++[iy M r.forces,.os 6 0 (M.n gG r.iE),.os 7 0 (M.n Bool r.dropped),.os 8 0 (M.n Bool r.done),.os 9 0 (M.n (List Int) r.hits)]))),(6,(aR 17 (iD M r.iE))),(7,(aR 1 (M.m Bool eB r.dropped))),(8,(aR 1 (M.m Bool eB r.done))),(9,(aR 1 (M.m (List Int) (eL M 1 (eI .i64)) r.hits)))]) 10:=by
 exact wC (JP 5 [1002] 0 [] [(409,2),(410,2),(411,2)]) Tryz.func336 Tryz.call336 []
end Go.Proofs.YtchmoabpofnbaaaGreat
namespace Go.Proofs.YtchmoabpofnbaaaGreat
open Go Go.Pv Proofs.Tryz
set_option maxRecDepth 100000
set_option maxHeartbeats 20000000
variable [GM]
attribute [local irreducible] bnd br jn qE gK jv lJ jl rD uo divO kT jL kN kP lI lS lM
variable {M:iG}[HM M]
instance c385 {l}{mask}{pby}:CC M 385 (J6 l mask pby) [.sl 1 (M.m ByteArray eS l) false,sI mask,.str pby] (λr=>.str r):=by
 have:=lo 3 [0,1,2,7,8] (λ_ (s:ByteArray×Int)=>jO [(7,.str s.1),(8,sI s.2)]);have:=ct 9 [0,1,2,7,8] (λ_ s=>jO [(7,.str s)]);have:=ct 17 [0,1,2,7,8] (λ_ s=>jO [(7,.str s)]);exact wA (iO [9,17]) func385 call385
instance c162 {o}{cards}{iJ}:CC M 162 (Yt o cards iJ) [.agg (jQ M o),sI cards,sI iJ] (λr=>.sb r):=by
 have:=ct 2 [1,2,3,52] (λ_ s=>jO [(52,.sb s)]);have:=ct 6 [1,2,3,90] (λ_ s=>jO [(90,.sb s)]);have:=ct 10 [3,116] (λ_ s=>jO [(116,.sb s)]);exact wA (iO [2,6,10]) func162 call162
instance c113 {l}{c}:CC M 113 (Ia l c) [oh M l,.agg (zO M c)] (λr=>.sb r):=by
 have:=lo 2 [0,3,5] (λ_ s=>jO [(5,sI s)]);have:=lo 5 [0,3,5,6] (λ_ s=>jO [(6,sI s)]);have:=ct 16 [0,3,5,6,44] (λ_ s=>jO [(44,.sb s)]);exact wA (iO [16]) func113 call113
instance c190 {s}:CC M 190 (RD s) [.str s] (λr=>.sb r):=by
 have:=ct 2 [0,25] (λ_ s=>jO [(25,.sb s)]);have:=lo 4 [0,3] (λ_ s=>jO [(3,sI s)]);have:=ct 12 [0,3,54] (λ_ s=>jO [(54,.sb s)]);have:=ct 16 [0,3,69] (λ_ s=>jO [(69,.sb s)]);exact wA (iO [2,12,16]) func190 call190
instance c321 {mask}:CC M 321 (LG mask) [sI mask] (λr=>.str r):=by
 have:=lo 7 [0,3,4] (λ_ (s:ByteArray×Int)=>jO [(3,.str s.1),(4,sI s.2)]);have:=ct 17 [0,3,4] (λ_ s=>jO [(3,.str s)]);have:=ct 25 [0,3,4] (λ_ s=>jO [(3,.str s)]);exact wA (iO [14,17,25]) func321 call321
instance c297 {s}{all}{id}:CC M 297 (Gv s all id) [.agg (iF M s),lq M all,sI id] (λr=>.sb r):=by
 have:=lo 2 [1,2,10,11,12] (λ_ s=>jO [(12,sI s)]);have:=ct 8 [1,2,7,10,11,12,26] (λ_ s=>jO [(26,.sb s)]);exact wA (iO [8]) func297 call297
instance ajE {s}{w1:kK}:CC M 175 (jK s (λa0=>BA a0 w1)) [oM M s,.fn 483 [.pp (oI M w1)]] (λr=>sI r):=by
 have:=lo 2 [0,1,7,8] (λ_ s=>jO [(8,sI s)]);exact wA ig func175 call175
instance ajF {s}{w1:kK}:CC M 175 (jK s (λa0=>BB a0 w1)) [oM M s,.fn 484 [.pp (oI M w1)]] (λr=>sI r):=by
 have:=lo 2 [0,1,7,8] (λ_ s=>jO [(8,sI s)]);exact wA ig func175 call175
instance c486 {b}:CC M 486 (uV b) [.agg (ET M b)] (λr=>.sb r):=by
 exact wA ig func486 call486
instance c184 {x}{y}:CC M 184 (cmp_Compare_int x y) [sI x,sI y] (λr=>sI r):=by
 exact wA ig func184 call184
instance c236 {p}:CC M 236 (Nr p) [.agg (Dn M p)] (λr=>.sb r):=by
 exact wA ig func236 call236
instance c312 {when}:CC M 312 (Du when) [sI when] (λr=>.sb r):=by
 exact wA ig func312 call312
instance c288 {a}{b}:CC M 288 (Uf a b) [sI a,sI b] (λr=>sI r):=by
 exact wA ig func288 call288
instance c289 {a}{b}:CC M 289 (Ug a b) [sI a,sI b] (λr=>sI r):=by
 exact wA ig func289 call289
instance c348 {a}{b}:CC M 348 (acP a b) [sI a,sI b] (λr=>sI r):=by
 exact wA ig func348 call348
instance c267 {a}{b}:CC M 267 (YC a b) [sI a,sI b] (λr=>sI r):=by
 exact wA ig func267 call267
instance c68 {a}{b}:CC M 68 (Ie a b) [sI a,sI b] (λr=>sI r):=by
 exact wA ig func68 call68
instance c388 {i}:CC M 388 (LH i) [sI i] (λr=>.str r):=by
 exact wA ig func388 call388
instance c324 {n}:CC M 324 (AZ n) [sI n] (λr=>.str r):=by
 exact wA ig func324 call324
end Go.Proofs.YtchmoabpofnbaaaGreat
