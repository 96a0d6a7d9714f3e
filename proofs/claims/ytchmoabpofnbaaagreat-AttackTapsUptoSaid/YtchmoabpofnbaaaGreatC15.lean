import Derived.Test.YtchmoabpofnbaaaGreatC10
set_option linter.all false
namespace Go.Proofs.YtchmoabpofnbaaaGreat
open Go Go.Pv Proofs.Tryz
set_option maxRecDepth 100000
set_option maxHeartbeats 20000000
variable [GM]
attribute [local irreducible] bnd br jn oL loopF iq jS gu pO rG divO jF iO jA jm jE jY jU
variable {M:fP}[HM M]
instance amk {data}{a}{b}{n}:CZ M 497 (iW data a b n nJ) [.os 0 0 (M.n eP data),sI a,sI b,sI n,.fn 300 []] [(0,(aR 76 (eY M data)))] 1 (λ_=>.Eu []) (λr=>[(0,(aR 76 (eY M r)))]) 1:=by
 have:=lo 1 [0,1,2,3,10] (λ_ (s:Int×(List eP))=>up [(0,.os 0 0 (M.n eP s.2)),(10,sI s.1)] [(0,(aR 76 (eY M s.2)))]);exact wZ (gp 1 [] []) func497 call497
instance c183 {l}{n}:CC M 183 (Jh l n) [.sl 1 (mI M l) false,sI n] (λr=>.sl 1 (mI M r) false):=by
 have:=lo 3 [0,1,5,6] (λ_ (s:Int×(List Int))=>up [(5,.os 0 0 (M.n Int s.2)),(6,sI s.1)] [(0,(aR 1 (mI M s.2)))]) [.tO 5 1];have:=ct 9 [0,1,5,6] (λ_ s=>up [(5,.os 0 0 (M.n Int s))] [(0,(aR 1 (mI M s)))]) [.tO 5 1];exact wA (fO [9]) func183 call183
instance c65 {s}:CC M 65 (FQ s) [.agg (fD M s)] (λr=>.sl 1 (mI M r) false):=by
 have:=lo 3 [3,7,8,9] (λ_ (s:Int×(List Int))=>up [(3,.os 0 0 (M.n Int s.2)),(9,sI s.1)] [(0,(aR 1 (mI M s.2)))]) [.tO 3 1];have:=ct 15 [3,7,8,9] (λ_ s=>up [(3,.os 0 0 (M.n Int s))] [(0,(aR 1 (mI M s)))]) [.tO 3 1];exact wA (fO [15]) func65 call65
instance c397 {l}{pby}:CC M 397 (QW l pby) [.sl 1 (M.m ByteArray eS l) false,.str pby] (λr=>.str r):=by
 have:=lo 3 [0,1,5,6] (λ_ (s:ByteArray×Int)=>je [(5,.str s.1),(6,sI s.2)]);have:=ct 9 [0,1,5,6] (λ_ s=>je [(5,.str s)]);have:=ct 15 [0,1,5,6] (λ_ s=>je [(5,.str s)]);exact wA (fO [9,15]) func397 call397
instance c308 {a}{b}{most}:CC M 308 (Dh a b most) [sI a,sI b,sI most] (λr=>.sb r):=by
 have:=ct 2 [0,1,23] (λ_ s=>je [(23,.sb s)]);have:=lo 4 [0,1,7] (λ_ (s:Int×Int×Int)=>je [(0,sI s.1),(1,sI s.2.1),(7,sI s.2.2)]);have:=ct 12 [0,1,7,35] (λ_ s=>je [(35,.sb s)]);exact wA (fO [2,8,12]) func308 call308
instance s470 {s}{i}{v}:CZ M 470 (tJ s i v) [.os 0 0 (M.n ByteArray s),sI i,.os 1 0 (M.n ByteArray v)] [(0,(aR 1 (M.m ByteArray eS s))),(1,(aR 1 (M.m ByteArray eS v)))] 2 (λr=>.os 2 0 (M.n ByteArray r)) (λr=>[(0,none),(1,none),(2,(aR 1 (M.m ByteArray eS r)))]) 3:=by
 have hM:=HM.h (M:=M);exact⟨λr U=>UR hM U⟩
instance aml {s}:CZ M 411 (sG s) [.os 0 0 (M.n (List Int) s)] [(0,(aR 1 (M.m (List Int) (eL M 1 (eI .i64)) s)))] 1 (λr=>.os 1 0 (M.n (List Int) r)) (λr=>[(0,(aR 1 (M.m (List Int) (eL M 1 (eI .i64)) s))),(1,(aR 1 (M.m (List Int) (eL M 1 (eI .i64)) r)))]) 2:=by
 exact wC (gp 1 [] [[(1,true)]]) func411 call411 []
instance c233 {s}{id}:CC M 233 (Lp s id) [.agg (fD M s),sI id] (λr=>sI r):=by
 have:=lo 3 [1,2,5,6] (λ_ (s:Int×Int)=>je [(5,sI s.1),(6,sI s.2)]);have:=ct 9 [1,2,5,6] (λ_ s=>je [(5,sI s)]);have:=ct 10 [1,2,5,6,30] (λ_ s=>je [(30,.sb s)]);exact wA (fO [9,10]) func233 call233
instance c360 {cards}{s}{all}{pe}{pr}{you}{source}:CC M 360 (yZ cards s all pe pr you source) [kH M cards,.agg (fD M s),iE M all,.agg (jC M pe),.agg (qy M pr),sI you,sI source] (λr=>.sb r):=by
 exact wA fG func360 call360
instance amm {s}:CZ M 409 (ry s) [.os 0 0 (M.n eQ s)] [(0,(aR 17 (fJ M s)))] 1 (λr=>.os 1 0 (M.n eQ r)) (λr=>[(0,(aR 17 (fJ M s))),(1,(aR 17 (fJ M r)))]) 2:=by
 exact wC (gp 1 [] [[(17,true)]]) func409 call409 []
instance c298 {s}{all}{earlier}:CC M 298 (zt s all earlier) [.agg (fV M s),iE M all,.sb earlier] (λr=>.fn 366 [.pp (fV M r.1),.pp [iE M r.2.1],.pp [.sb r.2.2]]):=by
 exact wA fG func298 call298
instance amn {ol}{oj}{deadly}{pe}:CZ M 296 (xK ol oj deadly pe) [.lp 0 oj 0,.sb deadly,.agg (jC M pe)] [(0,(aR 19 (jW M ol)))] 1 (λ_=>.Eu []) (λr=>[(0,(aR 19 (jW M r)))]) 1:=by
 exact wC (gp 1 [] []) func296 call296 []
instance c454 {c}:CC M 454 (I4 c) [.agg (qN M c)] (λr=>.sb r):=by
 have:=lo 2 [1,6,7] (λ_ s=>je [(7,sI s)]);have:=ct 6 [1,4,6,7] (λ_ s=>je [(4,sI s)]);have:=ct 8 [1,6,7,15] (λ_ s=>je [(15,.sb s)]);exact wA (fO [4,6,8]) func454 call454
instance c191 {c}:CC M 191 (G7 c) [.agg (qN M c)] (λr=>.sb r):=by
 have:=ct 2 [1,21] (λ_ s=>je [(21,.sb s)]);have:=lo 4 [1,3] (λ_ s=>je [(3,sI s)]);have:=ct 12 [1,3,37] (λ_ s=>je [(37,.sb s)]);exact wA (fO [2,8,12]) func191 call191
instance c229 {l}{n}:CC M 229 (Gi l n) [.sl 1 (mI M l) false,sI n] (λr=>sI r):=by
 have:=lo 3 [0,1,5,6] (λ_ (s:Int×Int)=>je [(5,sI s.1),(6,sI s.2)]);have:=ct 9 [0,1,5,6] (λ_ s=>je [(5,sI s)]);exact wA (fO [9]) func229 call229
instance c196 {l}{name}:CC M 196 (OB l name) [kH M l,.str name] (λr=>.sb r):=by
 have:=lo 2 [0,1,5] (λ_ s=>je [(5,sI s)]);have:=ct 8 [0,1,5,25] (λ_ s=>je [(25,.sb s)]);exact wA (fO [8]) func196 call196
instance c469 {s}{c1}:CC M 469 (D8 s c1) [.str s,.pp [.str c1]] (λr=>.sb r):=by
 exact wA fG func469 call469
instance c231 {o}:CC M 231 (QU o) [.agg (ja M o)] (λr=>.agg (ja M r)):=by
 exact wA fG func231 call231
instance c485 {n}{most}:CC M 485 (jR n most) [sI n,sI most] (λr=>.sb r):=by
 exact wA fG func485 call485
instance c459 {b}{n}:CC M 459 (Dk b n) [.agg (DR M b),sI n] (λr=>.sb r):=by
 exact wA fG func459 call459
instance c425 {kN}{w}:CC M 425 (ZE kN w) [.sb kN,sI w] (λr=>.sb r):=by
 exact wA fG func425 call425
instance c471 {b}{n}:CC M 471 (Ad b n) [.agg (DR M b),sI n] (λr=>.sb r):=by
 exact wA fG func471 call471
instance c286 {pe}:CC M 286 (IZ pe) [.agg (jC M pe)] (λr=>.sb r):=by
 exact wA fG func286 call286
instance c357  : CC M 357 (A7 ) [] (λr=>.sl 1 (M.m ByteArray eS r) false):=by
 exact wA fG func357 call357
instance c358  : CC M 358 (yP ) [] (λr=>.sl 1 (M.m ByteArray eS r) false):=by
 exact wA fG func358 call358
instance c389  : CC M 389 (DT ) [] (λr=>.sl 1 (M.m ByteArray eS r) false):=by
 exact wA fG func389 call389
instance c391  : CC M 391 (DU ) [] (λr=>.sl 1 (M.m ByteArray eS r) false):=by
 exact wA fG func391 call391
instance c92  : CC M 92 (F5 ) [] (λr=>kH M r):=by
 exact wA fG func92 call92
instance c318 {m}:CC M 318 (Ko m) [.agg (yz M m)] (λr=>.agg (yz M r)):=by
 exact wA fG func318 call318
instance c390  : CC M 390 (Fj ) [] (λr=>.sl 1 (M.m ByteArray eS r) false):=by
 exact wA fG func390 call390
instance c392  : CC M 392 (Fp ) [] (λr=>.sl 1 (M.m ByteArray eS r) false):=by
 exact wA fG func392 call392
instance c39 {mask}{key}:CC M 39 (Ea mask key) [sI mask,sI key] (λr=>.sb r):=by
 exact wA fG func39 call39
instance c452  : CC M 452 (Ou ) [] (λr=>.sl 1 (M.m ByteArray eS r) false):=by
 exact wA fG func452 call452
instance c453  : CC M 453 (Ov ) [] (λr=>.sl 1 (M.m ByteArray eS r) false):=by
 exact wA fG func453 call453
instance c194 {c}:CC M 194 (FD c) [.agg (zD M c)] (λr=>.sb r):=by
 exact wA fG func194 call194
instance c170 {c}:CC M 170 (Hm c) [.agg (jD M c)] (λr=>.sb r):=by
 exact wA fG func170 call170
instance c368 {when}:CC M 368 (zu when) [sI when] (λr=>.sb r):=by
 exact wA fG func368 call368
end Go.Proofs.YtchmoabpofnbaaaGreat
