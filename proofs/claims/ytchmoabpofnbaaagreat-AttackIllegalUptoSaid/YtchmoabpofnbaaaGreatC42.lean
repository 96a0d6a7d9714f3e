import Derived.Test.YtchmoabpofnbaaaGreatC24
import Derived.Test.YtchmoabpofnbaaaGreatC26
import Derived.Test.YtchmoabpofnbaaaGreatC29
import Derived.Test.YtchmoabpofnbaaaGreatC30
set_option linter.all false
namespace Go.Proofs.YtchmoabpofnbaaaGreat
open Go Go.Pv
set_option maxRecDepth 100000
set_option maxHeartbeats 20000000
variable [GM]
attribute [local irreducible] bnd br jn qE gK jv lJ jl rD uo divO kT jL kN kP lI lS lM
variable {M:iG}[HM M]
instance ajP {s}{w1:Int}:CZ M 151 (qw s (λa0=>uC a0 w1)) [.os 0 0 (M.n Int s),.fn 250 [.pp [sI w1]]] [(0,(aR 1 (mI M s)))] 1 (λr=>.os 1 0 (M.n Int r)) (λr=>[(0,none),(1,(aR 1 (mI M r)))]) 2:=by
 have hM:=HM.h (M:=M);refine⟨λr O=>?_⟩;refine AQ (T:=(GY 1 [13] [[(1,true)]])) (iV 1 [13] [[(1,true)]]) wf Tryz.func151 rfl Tryz.call151 rfl ?_;intro S R hS hR;have q:=sf hM hS;unfold qw at O;cbv;refine JK hS O (cI hM) Lr (λ_=>rfl) ?_;intro y1 O;cbv;refine nZ ?_ ?_
 intro O;cbv;cases O;exact hR _ _ _ aj aj rfl
 intro O;cbv;refine d_L (iV 1 [13] [[(1,true)]]) [] [0,1,5,6] (λs2=>f4 42 [.os 0 0 (S.gZ (mI M s2.2.2)),.fn 250 [.pp [sI w1]],sI s2.1,sI s2.2.1] [aR 1 (mI M s2.2.2)]) O ?_;intro Ik3 k3 s2 hk3 O e he;subst he;unfold uz at O;cbv;refine nZ ?_ ?_
 intro O;cbv;refine DR [] [0,1,5,6] (λs5=>f4 42 [.os 0 0 (S.gZ (mI M s5.2)),.fn 250 [.pp [sI w1]],sI s5.1,sI s2.2.1] [aR 1 (mI M s5.2)]) O ?_ ?_
 intro Ik6 k6 hk6 O;cbv;refine mG hS O lC rfl ?_;intro j8 _ O;cbv;refine jW hS hM O rfl lC ?_;intro x9 O;cbv;refine zn hS O (cI hM) ?_;intro y10 O;cbv;refine nZ ?_ ?_
 intro O;cbv;refine mG hS O lC rfl ?_;intro j11 _ O;cbv;refine jW hS hM O rfl lC ?_;exact xZ
 exact vF
 intro s5 O;cbv;exact vw
 intro O;cbv;refine ZZ hS O lC rfl lC ?_;intro x13 bx13 O;cbv;refine KN hS (e:=(eI .i64)) O aj ?_;intro x14 O;cbv;refine ZZ hS O lC rfl rfl ?_;intro x15 bx15 O;cbv;cases O;exact hR _ _ _ aB aB rfl
end Go.Proofs.YtchmoabpofnbaaaGreat
namespace Go.Proofs.YtchmoabpofnbaaaGreat
open Go Go.Pv Proofs.Tryz
set_option maxRecDepth 100000
set_option maxHeartbeats 20000000
variable [GM]
attribute [local irreducible] bnd br jn qE gK jv lJ jl rD uo divO kT jL kN kP lI lS lM
variable {M:iG}[HM M]
instance ajT {s}{w1:kK}:CC M 482 (l9 s (λa0=>BB a0 w1)) [oM M s,.fn 484 [.pp (oI M w1)]] (λr=>.sb r):=by
 exact wA ig func482 call482
instance ajU {s}{w1:gX}:CC M 102 (mf s (λa0=>BG a0 w1)) [pF M s,.fn 103 [.pp (sJ M w1)]] (λr=>.sb r):=by
 exact wA ig func102 call102
instance ajV {s}{w1:Int}:CC M 102 (mf s (λa0=>BH a0 w1)) [pF M s,.fn 106 [.pp [sI w1]]] (λr=>.sb r):=by
 exact wA ig func102 call102
instance c97 {s}{all}{id}{key}:CC M 97 (CQ s all id key) [.agg (iF M s),lq M all,sI id,sI key] (λr=>.sb r):=by
 exact wA ig func97 call97
instance c284 {o}{c1}:CC M 284 (A7 o c1) [.agg (sJ M o),.pp [pF M c1]] (λr=>.sb r):=by
 exact wA ig func284 call284
instance c228 {s}{id}:CC M 228 (Gf s id) [.agg (iF M s),sI id] (λr=>.DJ [.agg (jQ M r.1),.sb r.2]):=by
 exact wA ig func228 call228
instance c300 {a}{b}:CC M 300 (oJ a b) [.agg (jX M a),.agg (jX M b)] (λr=>sI r):=by
 exact wA ig func300 call300
instance c163 {s}{o}:CC M 163 (J5 s o) [.agg (iF M s),.agg (jQ M o)] (λr=>.sb r):=by
 exact wA ig func163 call163
instance c396 {name}{b}:CC M 396 (wO name b) [.str name,.agg (ET M b)] (λr=>.str r):=by
 exact wA ig func396 call396
instance c460 {l}{sub}:CC M 460 (vH l sub) [.agg (Ls M l),.str sub] (λr=>.sb r):=by
 exact wA ig func460 call460
instance c463 {o}{id}:CC M 463 (wP o id) [.agg (jQ M o),sI id] (λr=>sI r):=by
 exact wA ig func463 call463
instance c326 {c}:CC M 326 (Dw c) [.agg [sI c.a0,sI c.a1,sI c.a2]] (λr=>sI r):=by
 exact wA ig func326 call326
instance c137 {s}{id}:CC M 137 (OW s id) [.agg (iF M s),sI id] (λr=>sI r):=by
 exact wA ig func137 call137
instance c342 {l}{n}:CC M 342 (RH l n) [.sl 1 (mI M l) false,sI n] (λr=>.sb r):=by
 exact wA ig func342 call342
instance c266 {c}:CC M 266 (Xn c) [.agg [sI c.a0,sI c.a1,sI c.a2]] (λr=>sI r):=by
 exact wA ig func266 call266
instance c320 {mask}:CC M 320 (wM mask) [sI mask] (λr=>.str r):=by
 exact wA ig func320 call320
instance c467 {s}:CC M 467 (zU s) [.str s] (λr=>.sb r):=by
 exact wA ig func467 call467
end Go.Proofs.YtchmoabpofnbaaaGreat
namespace Go.Proofs.YtchmoabpofnbaaaGreat
open Go Go.Pv
set_option maxRecDepth 100000
set_option maxHeartbeats 20000000
variable [GM]
attribute [local irreducible] bnd br jn qE gK jv lJ jl rD uo divO kT jL kN kP lI lS lM
variable {M:iG}[HM M]
instance c281 {s}:CC M 281 (CG s) [.str s] (λr=>.sb r):=by
 exact wA ig Tryz.func281 Tryz.call281
end Go.Proofs.YtchmoabpofnbaaaGreat
