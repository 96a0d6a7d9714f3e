import Derived.Test.YtchmoabpofnbaaaGreatW1a
import Derived.Test.YtchmoabpofnbaaaGreatW1e
import Derived.Test.YtchmoabpofnbaaaGreatW1i
import Derived.Test.YtchmoabpofnbaaaGreatB12
set_option linter.all false
namespace Go.Proofs.YtchmoabpofnbaaaGreat
open Go Go.Pv Proofs.Tryz
set_option maxRecDepth 100000
set_option maxHeartbeats 20000000
variable [GM]
attribute [local irreducible] bnd br jn qR ig jK lK jS rQ uY divO lu jR kY lD lU mg l9
variable {M:iO}[HM M]
instance ais {s}{w1:Int}:CC M 175 (iY s (λa0=>Fg a0 w1)) [pR M s,.fn 431 [.pp [sI w1]]] (λr=>sI r):=by
 have:=lo 2 [0,1,7,8] (λ_ s=>kG [(8,sI s)]);exact wA iE func175 call175
instance ait {s}{w1:Int}:CC M 175 (iY s (λa0=>Jk a0 w1)) [pR M s,.fn 221 [.pp [sI w1]]] (λr=>sI r):=by
 have:=lo 2 [0,1,7,8] (λ_ s=>kG [(8,sI s)]);exact wA iE func175 call175
instance aiu {s}{w1:ByteArray}:CC M 468 (qG s (λa0=>G9 a0 w1)) [.sl 1 (M.m ByteArray eS s) false,.fn 469 [.pp [.str w1]]] (λr=>sI r):=by
 have:=lo 2 [0,1,7,8] (λ_ s=>kG [(8,sI s)]);exact wA iE func468 call468
instance c202 {s}{all}{pe}:CC M 202 (Me s all pe) [.agg (iQ M s),ny M all,.agg (jm M pe)] (λr=>sI r):=by
 have:=lo 4 [1,5,15,16,17] (λ_ s=>kG [(17,sI s)]);exact wA iE func202 call202
instance aiv {s}{w1:Int}:CC M 226 (oW s (λa0=>uo a0 w1)) [.sl 1 (mI M s) false,.fn 250 [.pp [sI w1]]] (λr=>sI r):=by
 have:=lo 2 [0,1,7,8] (λ_ s=>kG [(8,sI s)]);exact wA iE func226 call226
instance c234 {s}{jB}{kE}:CC M 234 (OM s jB kE) [.agg (iQ M s),sI jB,sI kE] (λr=>.sl 1 (mI M r) false):=by
 have:=ct 12 [1,2,3,26] (λ_ s=>kG [(26,.sb s)]);exact wA (ja [12]) func234 call234
instance c455 {i}{j}{c2}{c3}:CC M 455 (rY i j c2 c3) [sI i,sI j,.pp [.sl 1 (mI M c2) false],.pp [.sl 1 (M.m (List Bool) (eL M 1 eB) c3) false]] (λr=>.sb r):=by
 exact wA iE func455 call455
instance c210 {cards}{s}{pe}:CC M 210 (Mc cards s pe) [mD M cards,.agg (iQ M s),.agg (jm M pe)] (λr=>.sb r):=by
 exact wA iE func210 call210
instance c433 {c0}{c1}{c2}{c3}:CC M 433 (qE c0 c1 c2 c3) [.pp (iQ M c0),.pp (jm M c1),.pp [sI c2],.pp (oU M c3)] (λr=>.sb r):=by
 exact wA iE func433 call433
instance aiw {s}{n}:CC M 489 (Iu s n uF) [.str s,sI n,.fn 490 []] (λr=>sI r):=by
 have:=lo 2 [0,2,8,9] (λ_ s=>kG [(9,sI s)]);exact wA iE func489 call489
instance aix {s}{n}:CC M 489 (Iu s n wE) [.str s,sI n,.fn 491 []] (λr=>sI r):=by
 have:=lo 2 [0,2,8,9] (λ_ s=>kG [(9,sI s)]);exact wA iE func489 call489
instance o171 {c}:CZ M 171 (Kz c) [.agg (Aa M c)] [] 0 (λr=>.os 0 0 (M.n Int r)) (λr=>[(0,(aR 1 (mI M r)))]) 1:=by
 exact wZ (iZ 0 [] [[(1,true)]]) func171 call171
instance c378 {op}{field}:CC M 378 (xn op field) [sI op,.si .u8 field] (λr=>.sb r):=by
 have:=lo 3 [1,5,6] (λ_ s=>kG [(6,sI s)]);exact wA iE func378 call378
instance c104 {s}{v}:CC M 104 (vK s v) [xW M s,.agg (vV M v)] (λr=>.sb r):=by
 exact wA iE func104 call104
instance c334 {a}{b}:CC M 334 (uw a b) [.agg (oD M a),.agg (oD M b)] (λr=>.sb r):=by
 exact wA iE func334 call334
instance c38 {s}{id}:CC M 38 (OI s id) [.agg (iQ M s),sI id] (λr=>.EJ [.agg (jY M r.1),.sb r.2]):=by
 exact wA iE func38 call38
instance c487 {s}{v}:CC M 487 (slices_Contains_string s v) [.sl 1 (M.m ByteArray eS s) false,.str v] (λr=>.sb r):=by
 exact wA iE func487 call487
instance c458 {b}{n}{c2}:CC M 458 (xu b n c2) [.agg (D8 M b),sI n,.pp [.sb c2]] (λr=>.sb r):=by
 exact wA iE func458 call458
instance c375 {a}{b}:CC M 375 (O4 a b) [.agg (xk M a),.agg (xk M b)] (λr=>.sb r):=by
 exact wA iE func375 call375
instance c328 {m}{c1}:CC M 328 (vW m c1) [.agg (zo M m),.pp [sI c1]] (λr=>.sb r):=by
 exact wA iE func328 call328
instance c128 {p}:CC M 128 (yJ p) [.agg (xg M p)] (λr=>.agg (xg M r)):=by
 exact wA iE func128 call128
instance c78 {s}{v}:CC M 78 (slices_Contains_int s v) [.sl 1 (mI M s) false,sI v] (λr=>.sb r):=by
 exact wA iE func78 call78
instance c88 {s}{p}:CC M 88 (ug s p) [.agg (iQ M s),sI p] (λr=>.sb r):=by
 exact wA iE func88 call88
instance c486 {b}:CC M 486 (uG b) [.agg (D8 M b)] (λr=>.sb r):=by
 exact wA iE func486 call486
instance c184 {x}{y}:CC M 184 (cmp_Compare_int x y) [sI x,sI y] (λr=>sI r):=by
 exact wA iE func184 call184
instance c236 {p}:CC M 236 (Lr p) [.agg (zZ M p)] (λr=>.sb r):=by
 exact wA iE func236 call236
instance c312 {when}:CC M 312 (Ce when) [sI when] (λr=>.sb r):=by
 exact wA iE func312 call312
instance c289 {a}{b}:CC M 289 (Sr a b) [sI a,sI b] (λr=>sI r):=by
 exact wA iE func289 call289
instance c288 {a}{b}:CC M 288 (Jn a b) [sI a,sI b] (λr=>sI r):=by
 exact wA iE func288 call288
instance c68 {a}{b}:CC M 68 (Cf a b) [sI a,sI b] (λr=>sI r):=by
 exact wA iE func68 call68
instance c388 {i}:CC M 388 (J5 i) [sI i] (λr=>.str r):=by
 exact wA iE func388 call388
instance c324 {n}:CC M 324 (Af n) [sI n] (λr=>.str r):=by
 exact wA iE func324 call324
end Go.Proofs.YtchmoabpofnbaaaGreat
