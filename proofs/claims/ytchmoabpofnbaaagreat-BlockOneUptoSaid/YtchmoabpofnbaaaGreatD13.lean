import Derived.Test.YtchmoabpofnbaaaGreatD10
set_option linter.all false
namespace Go.Proofs.YtchmoabpofnbaaaGreat
open Go Go.Pv
set_option maxRecDepth 100000
set_option maxHeartbeats 20000000
variable [GM]
attribute [local irreducible] bnd br jn pI eH iI kD gW qx sG divO jU jc jM jD jR kK kE
variable {M:gm}[HM M]
instance anI {s}{id}:CZ M 295 (yH s id) [.lv 0 0,sI id] [(0,(vR [.os 1 0 (M.n jl s.fV),.os 2 0 (M.n fD s.objects),.os 3 0 (M.n Int s.iF),.os 4 0 (M.n Int s.pG),.os 5 0 (M.n nJ s.stack),.os 6 0 (M.n gU s.waiting),.os 7 0 (M.n pF s.jB),sI s.turn,sI s.kX,sI s.step,.sb s.begun,sI s.priority,sI s.passes,sI s.nextId,sI s.jI,.si .u64 s.seed,.os 8 0 (M.n Int s.extra),sI s.over,sI s.oC])),(1,(aR 14 (kN M s.fV))),(2,(aR 19 (jO M s.objects))),(3,(aR 1 (mI M s.iF))),(4,(aR 1 (mI M s.pG))),(5,(aR 94 (rM M s.stack))),(6,(aR 89 (iQ M s.waiting))),(7,(aR 6 (wY M s.jB))),(8,(aR 1 (mI M s.extra)))] 9 (λr=>(match r with|none=>.IY|some j=>.lp 2 j 0)) (λ_=>[(0,(vR [.os 1 0 (M.n jl s.fV),.os 2 0 (M.n fD s.objects),.os 3 0 (M.n Int s.iF),.os 4 0 (M.n Int s.pG),.os 5 0 (M.n nJ s.stack),.os 6 0 (M.n gU s.waiting),.os 7 0 (M.n pF s.jB),sI s.turn,sI s.kX,sI s.step,.sb s.begun,sI s.priority,sI s.passes,sI s.nextId,sI s.jI,.si .u64 s.seed,.os 8 0 (M.n Int s.extra),sI s.over,sI s.oC])),(1,(aR 14 (kN M s.fV))),(2,(aR 19 (jO M s.objects))),(3,(aR 1 (mI M s.iF))),(4,(aR 1 (mI M s.pG))),(5,(aR 94 (rM M s.stack))),(6,(aR 89 (iQ M s.waiting))),(7,(aR 6 (wY M s.jB))),(8,(aR 1 (mI M s.extra)))]) 9:=by
 have:=lo 2 [0,1,10,11] (λ_ s=>jf [(11,sI s)]);exact wC (gJ 9 [] []) Tryz.func295 Tryz.call295 []
end Go.Proofs.YtchmoabpofnbaaaGreat
namespace Go.Proofs.YtchmoabpofnbaaaGreat
open Go Go.Pv Proofs.Tryz
set_option maxRecDepth 100000
set_option maxHeartbeats 20000000
variable [GM]
attribute [local irreducible] bnd br jn pI eH iI kD gW qx sG divO jU jc jM jD jR kK kE
variable {M:gm}[HM M]
instance c286 {pe}:CC M 286 (JA pe) [.agg (jT M pe)] (λr=>.sb r):=by
 exact wA fG func286 call286
instance c357  : CC M 357 (BV ) [] (λr=>.sl 1 (M.m ByteArray eS r) false):=by
 exact wA fG func357 call357
instance c358  : CC M 358 (zT ) [] (λr=>.sl 1 (M.m ByteArray eS r) false):=by
 exact wA fG func358 call358
instance c389  : CC M 389 (Es ) [] (λr=>.sl 1 (M.m ByteArray eS r) false):=by
 exact wA fG func389 call389
instance c391  : CC M 391 (Et ) [] (λr=>.sl 1 (M.m ByteArray eS r) false):=by
 exact wA fG func391 call391
instance c318 {m}:CC M 318 (KR m) [.agg (zk M m)] (λr=>.agg (zk M r)):=by
 exact wA fG func318 call318
instance c390  : CC M 390 (Gs ) [] (λr=>.sl 1 (M.m ByteArray eS r) false):=by
 exact wA fG func390 call390
instance c392  : CC M 392 (Gt ) [] (λr=>.sl 1 (M.m ByteArray eS r) false):=by
 exact wA fG func392 call392
instance c39 {mask}{key}:CC M 39 (MF mask key) [sI mask,sI key] (λr=>.sb r):=by
 exact wA fG func39 call39
instance c452  : CC M 452 (Px ) [] (λr=>.sl 1 (M.m ByteArray eS r) false):=by
 exact wA fG func452 call452
instance c453  : CC M 453 (Py ) [] (λr=>.sl 1 (M.m ByteArray eS r) false):=by
 exact wA fG func453 call453
instance c194 {c}:CC M 194 (Gy c) [.agg (zy M c)] (λr=>.sb r):=by
 exact wA fG func194 call194
instance c170 {c}:CC M 170 (MV c) [.agg (jQ M c)] (λr=>.sb r):=by
 exact wA fG func170 call170
instance c368 {when}:CC M 368 (AA when) [sI when] (λr=>.sb r):=by
 exact wA fG func368 call368
instance c426 {a}{b}:CC M 426 (kV a b) [sI a,sI b] (λr=>.sb r):=by
 exact wA fG func426 call426
instance c449 {kind}:CC M 449 (Gu kind) [sI kind] (λr=>.sb r):=by
 exact wA fG func449 call449
instance c195 {c}:CC M 195 (SH c) [.agg (zy M c)] (λr=>.sb r):=by
 exact wA fG func195 call195
instance c371 {when}:CC M 371 (GL when) [sI when] (λr=>sI r):=by
 exact wA fG func371 call371
instance c311 {when}:CC M 311 (Ir when) [sI when] (λr=>.sb r):=by
 exact wA fG func311 call311
instance c319 {mask}:CC M 319 (Bl mask) [sI mask] (λr=>.sb r):=by
 exact wA fG func319 call319
instance c310 {when}:CC M 310 (Oq when) [sI when] (λr=>.str r):=by
 exact wA fG func310 call310
instance c380 {kind}:CC M 380 (Ot kind) [sI kind] (λr=>.str r):=by
 exact wA fG func380 call380
instance c268 {kind}:CC M 268 (xn kind) [sI kind] (λr=>sI r):=by
 exact wA fG func268 call268
instance c329 {kind}:CC M 329 (vI kind) [sI kind] (λr=>sI r):=by
 exact wA fG func329 call329
instance c386 {mask}:CC M 386 (aat mask) [sI mask] (λr=>.sb r):=by
 exact wA fG func386 call386
instance c193 {mask}:CC M 193 (Xt mask) [sI mask] (λr=>.sb r):=by
 exact wA fG func193 call193
instance c490 {i}:CC M 490 (vN i) [sI i] (λr=>.str r):=by
 exact wA fG func490 call490
instance c491 {i}:CC M 491 (xy i) [sI i] (λr=>.str r):=by
 exact wA fG func491 call491
instance c278 {x}:CC M 278 (cmp_isNaN_int x) [sI x] (λr=>.sb r):=by
 exact wA fG func278 call278
instance c280 {c}:CC M 280 (MC c) [.si .u8 c] (λr=>.sb r):=by
 exact wA fG func280 call280
instance c448 {op}:CC M 448 (SB op) [sI op] (λr=>.str r):=by
 exact wA fG func448 call448
instance c387 {i}:CC M 387 (KU i) [sI i] (λr=>.str r):=by
 exact wA fG func387 call387
instance c349 {n}:CC M 349 (oK n) [sI n] (λr=>sI r):=by
 exact wA fG func349 call349
instance c140 {n}:CC M 140 (qh n) [sI n] (λr=>sI r):=by
 exact wA fG func140 call140
end Go.Proofs.YtchmoabpofnbaaaGreat
