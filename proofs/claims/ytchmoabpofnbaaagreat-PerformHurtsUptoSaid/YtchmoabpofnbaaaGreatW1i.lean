import Derived.Test.YtchmoabpofnbaaaGreatB11
set_option linter.all false
namespace Go.Proofs.YtchmoabpofnbaaaGreat
open Go Go.Pv Proofs.Tryz
set_option maxRecDepth 100000
set_option maxHeartbeats 20000000
variable [GM]
attribute [local irreducible] bnd br jn qR ig jK lK jS rQ uY divO lu jR kY lD lU mg l9
variable {M:iO}[HM M]
instance c309 {b}:CC M 309 (EE b) [.agg (D8 M b)] (λr=>.sb r):=by
 have:=ct 2 [1,20] (λ_ s=>kG [(20,.sb s)]);exact wA (ja [2]) func309 call309
instance c219 {s}:CC M 219 (oC s) [YR M s] (λr=>YR M r):=by
 exact wA iE func219 call219
instance c367 {all}{i}:CC M 367 (AA all i) [ny M all,sI i] (λr=>.agg (lq M r)):=by
 exact wA iE func367 call367
instance c136 {s}:CC M 136 (jP s) [RF M s] (λr=>RF M r):=by
 exact wA iE func136 call136
instance c457 {phave}{psome}{pnone}:CC M 457 (nU phave psome pnone) [sI phave,sI psome,sI pnone] (λr=>.sb r):=by
 exact wA iE func457 call457
instance c400 {s}:CC M 400 (slices_Clone_string s) [.sl 1 (M.m ByteArray eS s) false] (λr=>.sl 1 (M.m ByteArray eS r) false):=by
 exact wA iE func400 call400
instance c166 {l}:CC M 166 (Xl l) [.sl 1 (mI M l) false] (λr=>.sb r):=by
 have:=lo 2 [0,3] (λ_ s=>kG [(3,sI s)]);exact wA iE func166 call166
instance c377 {op}:CC M 377 (OZ op) [sI op] (λr=>.str r):=by
 have:=ct 2 [0,9] (λ_ s=>kG [(9,.sb s)]);exact wA (ja [2]) func377 call377
instance c501 {s}{substr}:CC M 501 (strings_Contains s substr) [.str s,.str substr] (λr=>.sb r):=by
 have hM:=HM.h (M:=M);exact⟨λr O=>adM O⟩
instance c483 {o}{c1}:CC M 483 (AB o c1) [.agg (jY M o),.pp (oK M c1)] (λr=>.sb r):=by
 exact wA iE func483 call483
instance c484 {o}{c1}:CC M 484 (AL o c1) [.agg (jY M o),.pp (oK M c1)] (λr=>.sb r):=by
 exact wA iE func484 call484
instance c213 {o}{c1}:CC M 213 (xR o c1) [.agg (jY M o),.pp (jm M c1)] (λr=>.sb r):=by
 exact wA iE func213 call213
instance c331 {stamps}{i}:CC M 331 (Au stamps i) [.sl 1 (mI M stamps) false,sI i] (λr=>sI r):=by
 exact wA iE func331 call331
instance c465 {n}{least}{most}:CC M 465 (Aw n least most) [sI n,sI least,sI most] (λr=>.sb r):=by
 exact wA iE func465 call465
instance c431 {o}{c1}:CC M 431 (Fg o c1) [.agg (jY M o),.pp [sI c1]] (λr=>.sb r):=by
 exact wA iE func431 call431
instance c221 {o}{c1}:CC M 221 (Jk o c1) [.agg (jY M o),.pp [sI c1]] (λr=>.sb r):=by
 exact wA iE func221 call221
instance c86 {n}{least}{most}:CC M 86 (vJ n least most) [sI n,sI least,sI most] (λr=>.sb r):=by
 exact wA iE func86 call86
instance c130 {s}:CC M 130 (slices_Clone_int s) [.sl 1 (mI M s) false] (λr=>.sl 1 (mI M r) false):=by
 exact wA iE func130 call130
instance c48 {l}:CC M 48 (Kw l) [.sl 1 (mI M l) false] (λr=>.sl 1 (mI M r) false):=by
 exact wA iE func48 call48
instance c466 {m}:CC M 466 (Pq m) [.agg (zo M m)] (λr=>.agg (zo M r)):=by
 exact wA (ja [1017]) func466 call466
instance c250 {k}{c1}:CC M 250 (uo k c1) [sI k,.pp [sI c1]] (λr=>.sb r):=by
 exact wA iE func250 call250
instance c156 {l}:CC M 156 (CY l) [.sl 1 (mI M l) false] (λr=>.sl 1 (mI M r) false):=by
 exact wA iE func156 call156
instance c232 {o}:CC M 232 (Lj o) [.agg (jY M o)] (λr=>.agg (jY M r)):=by
 exact wA iE func232 call232
instance c207 {s}{p}:CC M 207 (nI s p) [.agg (iQ M s),sI p] (λr=>.sb r):=by
 exact wA iE func207 call207
instance c177 {mask}{key}:CC M 177 (tu mask key) [sI mask,sI key] (λr=>.sb r):=by
 exact wA iE func177 call177
instance c469 {s}{c1}:CC M 469 (G9 s c1) [.str s,.pp [.str c1]] (λr=>.sb r):=by
 exact wA iE func469 call469
instance c231 {o}:CC M 231 (OL o) [.agg (jY M o)] (λr=>.agg (jY M r)):=by
 exact wA iE func231 call231
instance c485 {n}{most}:CC M 485 (lJ n most) [sI n,sI most] (λr=>.sb r):=by
 exact wA iE func485 call485
instance c459 {b}{n}:CC M 459 (Iy b n) [.agg (D8 M b),sI n] (λr=>.sb r):=by
 exact wA iE func459 call459
instance c286 {pe}:CC M 286 (Gv pe) [.agg (jm M pe)] (λr=>.sb r):=by
 exact wA iE func286 call286
instance c357  : CC M 357 (Ad ) [] (λr=>.sl 1 (M.m ByteArray eS r) false):=by
 exact wA iE func357 call357
instance c358  : CC M 358 (yC ) [] (λr=>.sl 1 (M.m ByteArray eS r) false):=by
 exact wA iE func358 call358
instance c389  : CC M 389 (BZ ) [] (λr=>.sl 1 (M.m ByteArray eS r) false):=by
 exact wA iE func389 call389
instance c391  : CC M 391 (Cb ) [] (λr=>.sl 1 (M.m ByteArray eS r) false):=by
 exact wA iE func391 call391
instance c318 {m}:CC M 318 (OU m) [.agg (zo M m)] (λr=>.agg (zo M r)):=by
 exact wA iE func318 call318
instance c390  : CC M 390 (Ea ) [] (λr=>.sl 1 (M.m ByteArray eS r) false):=by
 exact wA iE func390 call390
instance c392  : CC M 392 (Eb ) [] (λr=>.sl 1 (M.m ByteArray eS r) false):=by
 exact wA iE func392 call392
instance c208 {pe}:CC M 208 (ry pe) [.agg (jm M pe)] (λr=>.sb r):=by
 exact wA iE func208 call208
instance c452  : CC M 452 (Lm ) [] (λr=>.sl 1 (M.m ByteArray eS r) false):=by
 exact wA iE func452 call452
instance c453  : CC M 453 (Lp ) [] (λr=>.sl 1 (M.m ByteArray eS r) false):=by
 exact wA iE func453 call453
instance c194 {c}:CC M 194 (Ef c) [.agg (yY M c)] (λr=>.sb r):=by
 exact wA iE func194 call194
instance c170 {c}:CC M 170 (Un c) [.agg (Aa M c)] (λr=>.sb r):=by
 exact wA iE func170 call170
instance c368 {when}:CC M 368 (yS when) [sI when] (λr=>.sb r):=by
 exact wA iE func368 call368
instance c449 {kind}:CC M 449 (Ec kind) [sI kind] (λr=>.sb r):=by
 exact wA iE func449 call449
instance c195 {c}:CC M 195 (Ph c) [.agg (yY M c)] (λr=>.sb r):=by
 exact wA iE func195 call195
instance c371 {when}:CC M 371 (Es when) [sI when] (λr=>sI r):=by
 exact wA iE func371 call371
instance c311 {when}:CC M 311 (Fa when) [sI when] (λr=>.sb r):=by
 exact wA iE func311 call311
instance c319 {mask}:CC M 319 (Iq mask) [sI mask] (λr=>.sb r):=by
 exact wA iE func319 call319
instance c310 {when}:CC M 310 (J9 when) [sI when] (λr=>.str r):=by
 exact wA iE func310 call310
instance c380 {kind}:CC M 380 (Ko kind) [sI kind] (λr=>.str r):=by
 exact wA iE func380 call380
instance c329 {kind}:CC M 329 (zA kind) [sI kind] (λr=>sI r):=by
 exact wA iE func329 call329
instance c386 {mask}:CC M 386 (Xf mask) [sI mask] (λr=>.sb r):=by
 exact wA iE func386 call386
instance c193 {mask}:CC M 193 (Ny mask) [sI mask] (λr=>.sb r):=by
 exact wA iE func193 call193
instance c490 {i}:CC M 490 (uF i) [sI i] (λr=>.str r):=by
 exact wA iE func490 call490
instance c491 {i}:CC M 491 (wE i) [sI i] (λr=>.str r):=by
 exact wA iE func491 call491
instance c278 {x}:CC M 278 (cmp_isNaN_int x) [sI x] (λr=>.sb r):=by
 exact wA iE func278 call278
instance c280 {c}:CC M 280 (OO c) [.si .u8 c] (λr=>.sb r):=by
 exact wA iE func280 call280
instance c448 {op}:CC M 448 (O0 op) [sI op] (λr=>.str r):=by
 exact wA iE func448 call448
instance c387 {i}:CC M 387 (Ir i) [sI i] (λr=>.str r):=by
 exact wA iE func387 call387
instance c140 {n}:CC M 140 (oI n) [sI n] (λr=>sI r):=by
 exact wA iE func140 call140
end Go.Proofs.YtchmoabpofnbaaaGreat
