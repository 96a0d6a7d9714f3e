import Derived.Test.YtchmoabpofnbaaaGreatC11
set_option linter.all false
namespace Go.Proofs.YtchmoabpofnbaaaGreat
open Go Go.Pv Proofs.Tryz
set_option maxRecDepth 100000
set_option maxHeartbeats 20000000
variable [GM]
attribute [local irreducible] bnd br jn qE gK jv lJ jl rD uo divO kT jL kN kP lI lS lM
variable {M:iG}[HM M]
instance ajw {data}{a}{b}{n}:CZ M 497 (jG data a b n oJ) [.os 0 0 (M.n gq data),sI a,sI b,sI n,.fn 300 []] [(0,(aR 76 (gQ M data)))] 1 (λ_=>.DJ []) (λr=>[(0,(aR 76 (gQ M r)))]) 1:=by
 have:=lo 1 [0,1,2,3,10] (λ_ (s:Int×(List gq))=>up [(0,.os 0 0 (M.n gq s.2)),(10,sI s.1)] [(0,(aR 76 (gQ M s.2)))]);exact wZ (iV 1 [] []) func497 call497
instance c65 {s}:CC M 65 (Fp s) [.agg (iF M s)] (λr=>.sl 1 (mI M r) false):=by
 have:=lo 3 [3,7,8,9] (λ_ (s:Int×(List Int))=>up [(3,.os 0 0 (M.n Int s.2)),(9,sI s.1)] [(0,(aR 1 (mI M s.2)))]) [.tO 3 1];have:=ct 15 [3,7,8,9] (λ_ s=>up [(3,.os 0 0 (M.n Int s))] [(0,(aR 1 (mI M s)))]) [.tO 3 1];exact wA (iO [15]) func65 call65
instance c397 {l}{pby}:CC M 397 (Ql l pby) [.sl 1 (M.m ByteArray eS l) false,.str pby] (λr=>.str r):=by
 have:=lo 3 [0,1,5,6] (λ_ (s:ByteArray×Int)=>jO [(5,.str s.1),(6,sI s.2)]);have:=ct 9 [0,1,5,6] (λ_ s=>jO [(5,.str s)]);have:=ct 15 [0,1,5,6] (λ_ s=>jO [(5,.str s)]);exact wA (iO [9,15]) func397 call397
instance c308 {a}{b}{most}:CC M 308 (Jk a b most) [sI a,sI b,sI most] (λr=>.sb r):=by
 have:=ct 2 [0,1,23] (λ_ s=>jO [(23,.sb s)]);have:=lo 4 [0,1,7] (λ_ (s:Int×Int×Int)=>jO [(0,sI s.1),(1,sI s.2.1),(7,sI s.2.2)]);have:=ct 12 [0,1,7,35] (λ_ s=>jO [(35,.sb s)]);exact wA (iO [2,8,12]) func308 call308
instance s470 {s}{i}{v}:CZ M 470 (DZ s i v) [.os 0 0 (M.n ByteArray s),sI i,.os 1 0 (M.n ByteArray v)] [(0,(aR 1 (M.m ByteArray eS s))),(1,(aR 1 (M.m ByteArray eS v)))] 2 (λr=>.os 2 0 (M.n ByteArray r)) (λr=>[(0,none),(1,none),(2,(aR 1 (M.m ByteArray eS r)))]) 3:=by
 have hM:=HM.h (M:=M);exact⟨λr O=>TG hM O⟩
instance ajx {s}:CZ M 411 (sZ s) [.os 0 0 (M.n (List Int) s)] [(0,(aR 1 (M.m (List Int) (eL M 1 (eI .i64)) s)))] 1 (λr=>.os 1 0 (M.n (List Int) r)) (λr=>[(0,(aR 1 (M.m (List Int) (eL M 1 (eI .i64)) s))),(1,(aR 1 (M.m (List Int) (eL M 1 (eI .i64)) r)))]) 2:=by
 exact wC (iV 1 [] [[(1,true)]]) func411 call411 []
instance c233 {s}{id}:CC M 233 (J4 s id) [.agg (iF M s),sI id] (λr=>sI r):=by
 have:=lo 3 [1,2,5,6] (λ_ (s:Int×Int)=>jO [(5,sI s.1),(6,sI s.2)]);have:=ct 9 [1,2,5,6] (λ_ s=>jO [(5,sI s)]);have:=ct 10 [1,2,5,6,30] (λ_ s=>jO [(30,.sb s)]);exact wA (iO [9,10]) func233 call233
instance c92  : CC M 92 (Fq ) [] (λr=>oh M r):=by
 exact wA ig func92 call92
instance c318 {m}:CC M 318 (Qk m) [.agg (yT M m)] (λr=>.agg (yT M r)):=by
 exact wA ig func318 call318
instance c390  : CC M 390 (EY ) [] (λr=>.sl 1 (M.m ByteArray eS r) false):=by
 exact wA ig func390 call390
instance c392  : CC M 392 (EZ ) [] (λr=>.sl 1 (M.m ByteArray eS r) false):=by
 exact wA ig func392 call392
instance c452  : CC M 452 (Np ) [] (λr=>.sl 1 (M.m ByteArray eS r) false):=by
 exact wA ig func452 call452
instance c453  : CC M 453 (Nq ) [] (λr=>.sl 1 (M.m ByteArray eS r) false):=by
 exact wA ig func453 call453
instance c194 {c}:CC M 194 (Fa c) [.agg (zO M c)] (λr=>.sb r):=by
 exact wA ig func194 call194
instance c170 {c}:CC M 170 (Kr c) [.agg (lN M c)] (λr=>.sb r):=by
 exact wA ig func170 call170
instance c368 {when}:CC M 368 (zK when) [sI when] (λr=>.sb r):=by
 exact wA ig func368 call368
instance c449 {kind}:CC M 449 (E5 kind) [sI kind] (λr=>.sb r):=by
 exact wA ig func449 call449
instance c195 {c}:CC M 195 (Qz c) [.agg (zO M c)] (λr=>.sb r):=by
 exact wA ig func195 call195
instance c371 {when}:CC M 371 (Fh when) [sI when] (λr=>sI r):=by
 exact wA ig func371 call371
instance c311 {when}:CC M 311 (Gg when) [sI when] (λr=>.sb r):=by
 exact wA ig func311 call311
instance c319 {mask}:CC M 319 (Jl mask) [sI mask] (λr=>.sb r):=by
 exact wA ig func319 call319
instance c310 {when}:CC M 310 (LP when) [sI when] (λr=>.str r):=by
 exact wA ig func310 call310
instance c380 {kind}:CC M 380 (LQ kind) [sI kind] (λr=>.str r):=by
 exact wA ig func380 call380
instance c329 {kind}:CC M 329 (Aa kind) [sI kind] (λr=>sI r):=by
 exact wA ig func329 call329
instance c386 {mask}:CC M 386 (Yu mask) [sI mask] (λr=>.sb r):=by
 exact wA ig func386 call386
instance c193 {mask}:CC M 193 (OO mask) [sI mask] (λr=>.sb r):=by
 exact wA ig func193 call193
instance c490 {i}:CC M 490 (uU i) [sI i] (λr=>.str r):=by
 exact wA ig func490 call490
instance c491 {i}:CC M 491 (wQ i) [sI i] (λr=>.str r):=by
 exact wA ig func491 call491
instance c278 {x}:CC M 278 (cmp_isNaN_int x) [sI x] (λr=>.sb r):=by
 exact wA ig func278 call278
instance c280 {c}:CC M 280 (Qh c) [.si .u8 c] (λr=>.sb r):=by
 exact wA ig func280 call280
end Go.Proofs.YtchmoabpofnbaaaGreat
