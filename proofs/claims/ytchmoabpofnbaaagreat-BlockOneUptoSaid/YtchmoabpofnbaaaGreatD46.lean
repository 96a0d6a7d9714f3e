import Derived.Test.YtchmoabpofnbaaaGreatD25
import Derived.Test.YtchmoabpofnbaaaGreatD27
import Derived.Test.YtchmoabpofnbaaaGreatD28
import Derived.Test.YtchmoabpofnbaaaGreatD30
set_option linter.all false
namespace Go.Proofs.YtchmoabpofnbaaaGreat
open Go Go.Pv
set_option maxRecDepth 100000
set_option maxHeartbeats 20000000
variable [GM]
attribute [local irreducible] bnd br jn pI eH iI kD gW qx sG divO jU jc jM jD jR kK kE
variable {M:gm}[HM M]
instance c325 {c}:CC M 325 (qK c) [.agg (zy M c)] (λr=>.agg (jd M r)):=by
 have hM:=HM.h (M:=M);refine⟨λr U=>?_⟩;refine EN fG Tryz.func325 Tryz.call325 ?_;intro S R O hR q;unfold qK at U;cbv;refine Fa O ?_;cbv;refine Kq O U (cI hM) ?_;intro y1 U;cbv;refine wo O U (cI hM) ?_;intro y2 U;cbv;refine aeX O fG wf [.cO 2 15 72] [.cO 1 15 72] [2,3,32,33,34] (λs3=>f3 47 [(2,.lv 0 0),(3,.lv 1 0),(32,Dn M c.fC),(33,sI (S.len (qC M c.fC))),(34,sI s3.1)] [vR [.str (bs []),sI 0,sI 0,sI 0,sI 0,sI 0,sI 0,sI 0,sI 0,sI 0,sI 0,.sl 0 [] true,sI 0,sI 0,sI 0,.sl 0 [] true,sI 0],vR ([.str c.name]++(rD M c.cost++[sI (S.bin .or .i64 y1 c.color),sI c.line.KO,sI c.line.types,.sl 1 (M.m ByteArray eS y2) false,sI c.power,sI c.gK,sI c.keys,.os 2 0 (S.fE (qC M s3.2)),sI 0])),aR 72 (qC M s3.2)]) U aT ?_;intro Ik4 k4 s3 hk4 U e he;subst he;unfold uf at U;cbv;refine mP ?_ ?_
 intro U;cbv;refine Kr ?_;intro x6 U;cbv;refine Fa O ?_;cbv;refine Kq O U (cI hM) ?_;intro y7 U;cbv;refine nM O U jW ?_;exact tY
 exact d_R
end Go.Proofs.YtchmoabpofnbaaaGreat
namespace Go.Proofs.YtchmoabpofnbaaaGreat
open Go Go.Pv Proofs.Tryz
set_option maxRecDepth 100000
set_option maxHeartbeats 20000000
variable [GM]
attribute [local irreducible] bnd br jn pI eH iI kD gW qx sG divO jU jc jM jD jR kK kE
variable {M:gm}[HM M]
instance an2 {s}{w1:Int}:CC M 402 (yD s (λa0=>wX a0 w1)) [OH M s,.fn 328 [.pp [sI w1]]] (λr=>sI r):=by
 have:=lo 2 [0,1,7,8] (λ_ s=>jf [(8,sI s)]);exact wA fG func402 call402
instance c359 {s}{all}{id}:CC M 359 (Ci s all id) [.agg (fM M s),kH M all,sI id] (λr=>.Ed [.agg (jo M r.1),.agg (jd M r.2.1),.sb r.2.2]):=by
 exact wA (fZ [1006]) func359 call359
instance c304 {a}{b}:CC M 304 (yZ a b) [JH M a,JH M b] (λr=>.sb r):=by
 have:=lo 4 [0,1,5] (λ_ s=>jf [(5,sI s)]);exact wA fG func304 call304
instance an3 {s}{w1:kz}:CC M 482 (lM s (λa0=>CX a0 w1)) [oZ M s,.fn 483 [.pp (nY M w1)]] (λr=>.sb r):=by
 exact wA fG func482 call482
instance an4 {s}{w1:kz}:CC M 482 (lM s (λa0=>CY a0 w1)) [oZ M s,.fn 484 [.pp (nY M w1)]] (λr=>.sb r):=by
 exact wA fG func482 call482
instance an5 {s}{w1:fH}:CC M 102 (pR s (λa0=>Ey a0 w1)) [pX M s,.fn 189 [.pp (uk M w1)]] (λr=>.sb r):=by
 exact wA fG func102 call102
instance c284 {o}{c1}:CC M 284 (Cf o c1) [.agg (uk M o),.pp [pX M c1]] (λr=>.sb r):=by
 exact wA fG func284 call284
instance c228 {s}{id}:CC M 228 (Ip s id) [.agg (fM M s),sI id] (λr=>.Ed [.agg (jo M r.1),.sb r.2]):=by
 exact wA fG func228 call228
instance c300 {a}{b}:CC M 300 (og a b) [.agg (jK M a),.agg (jK M b)] (λr=>sI r):=by
 exact wA fG func300 call300
instance c163 {s}{o}:CC M 163 (MK s o) [.agg (fM M s),.agg (jo M o)] (λr=>.sb r):=by
 exact wA fG func163 call163
instance c396 {name}{b}:CC M 396 (xw name b) [.str name,.agg (En M b)] (λr=>.str r):=by
 exact wA fG func396 call396
instance c460 {l}{sub}:CC M 460 (oO l sub) [.agg (Fq M l),.str sub] (λr=>.sb r):=by
 exact wA fG func460 call460
instance c463 {o}{id}:CC M 463 (zY o id) [.agg (jo M o),sI id] (λr=>sI r):=by
 exact wA fG func463 call463
instance c326 {c}:CC M 326 (xx c) [.agg [sI c.a0,sI c.a1,sI c.a2]] (λr=>sI r):=by
 exact wA fG func326 call326
instance c137 {s}{id}:CC M 137 (QI s id) [.agg (fM M s),sI id] (λr=>sI r):=by
 exact wA fG func137 call137
instance c342 {l}{n}:CC M 342 (Un l n) [.sl 1 (mI M l) false,sI n] (λr=>.sb r):=by
 exact wA fG func342 call342
instance c266 {c}:CC M 266 (GZ c) [.agg [sI c.a0,sI c.a1,sI c.a2]] (λr=>sI r):=by
 exact wA fG func266 call266
instance c320 {mask}:CC M 320 (xu mask) [sI mask] (λr=>.str r):=by
 exact wA fG func320 call320
instance c467 {s}:CC M 467 (wP s) [.str s] (λr=>.sb r):=by
 exact wA fG func467 call467
instance c281 {s}:CC M 281 (qg s) [.str s] (λr=>.sb r):=by
 exact wA fG func281 call281
end Go.Proofs.YtchmoabpofnbaaaGreat
