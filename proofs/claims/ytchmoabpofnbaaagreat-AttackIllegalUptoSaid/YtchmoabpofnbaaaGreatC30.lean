import Derived.Test.YtchmoabpofnbaaaGreatC13
import Derived.Test.YtchmoabpofnbaaaGreatC14
import Derived.Test.YtchmoabpofnbaaaGreatC15
import Derived.Test.YtchmoabpofnbaaaGreatC16
import Derived.Test.YtchmoabpofnbaaaGreatC12
set_option linter.all false
namespace Go.Proofs.YtchmoabpofnbaaaGreat
open Go Go.Pv
set_option maxRecDepth 100000
set_option maxHeartbeats 20000000
variable [GM]
attribute [local irreducible] bnd br jn qE gK jv lJ jl rD uo divO kT jL kN kP lI lS lM
variable {M:iG}[HM M]
instance c488 {s}:CC M 488 (QE s) [.str s] (λr=>.sb r):=by
 have hM:=HM.h (M:=M);refine⟨λr O=>?_⟩;refine ES (iO [2,12]) Tryz.func488 Tryz.call488 ?_;intro S R hS hR q;unfold QE at O;cbv;refine DR [] [0,34] (λs1=>f4 61 [.str s,.sb s1] []) O ?_ ?_
 intro Ik2 k2 hk2 O;cbv;refine nZ ?_ ?_
 exact vF
 intro O;cbv;refine nZ ?_ ?_
 exact vF
 intro O;cbv;refine acF hS O rfl rfl ?_;intro x4 O;cbv;refine nZ ?_ ?_
 exact vF
 intro O;cbv;refine acF hS O rfl rfl ?_;intro x5 O;cbv;refine nZ ?_ ?_
 exact vF
 intro O;cbv;refine acF hS O rfl lC ?_;intro x6 O;cbv;refine nZ ?_ ?_
 exact vF
 intro O;cbv;refine zn hS O (cI hM) ?_;exact xZ
 intro s1 O;cbv;refine vP ?_ ?_
 exact d_R
 intro O;cbv;refine aiP hS hM O ⟨5,by kernel_rfl,by kernel_rfl⟩ rfl ?_;intro x8 O;cbv;refine d_L (iO [2,12]) [] [36,37,38] (λs9=>f4 61 [.sl 1 (M.m Int (eI .u8) x8) false,sI (S.len (M.m Int (eI .u8) x8)),sI s9] []) O ?_;intro Ik10 k10 s9 hk10 O e he;subst he;unfold OX at O;cbv;refine nZ ?_ ?_
 intro O;cbv;refine d_I ?_;intro x12 O;cbv;refine DR [] [36,37,38,59] (λs13=>f4 61 [.sl 1 (M.m Int (eI .u8) x8) false,sI (S.len (M.m Int (eI .u8) x8)),sI s9,.sb s13] []) O ?_ ?_
 intro Ik14 k14 hk14 O;cbv;refine nZ ?_ ?_
 intro O;cbv;refine nZ ?_ ?_
 exact vF
 intro O;cbv;refine nZ ?_ ?_<;>exact vF
 intro O;cbv;refine nZ ?_ ?_
 intro O;cbv;refine nZ ?_ ?_
 exact vF
 intro O;cbv;refine nZ ?_ ?_<;>exact vF
 exact vF
 intro s13 O;cbv;refine vP ?_ ?_
 exact d_R
 exact vF
 exact d_R
end Go.Proofs.YtchmoabpofnbaaaGreat
namespace Go.Proofs.YtchmoabpofnbaaaGreat
open Go Go.Pv Proofs.Tryz
set_option maxRecDepth 100000
set_option maxHeartbeats 20000000
variable [GM]
attribute [local irreducible] bnd br jn qE gK jv lJ jl rD uo divO kT jL kN kP lI lS lM
variable {M:iG}[HM M]
theorem aik {M:iG}(hM:M=kX){data:List gq}{a:Int}{m:Int}{b:Int}{r:List gq}(O:kH data a m b oJ=some r):Pv.FnS Tryz.prog glF 479 [.os 0 0 (M.n gq data),sI a,sI m,sI b,.fn 300 []] [(0,(aR 76 (gQ M data)))] 1 (λg ss nn=>g=.DJ []/\ss=[(0,(aR 76 (gQ M r)))]/\nn=1):=by
 haveI:HM M:=⟨hM⟩
 refine AQ (T:=(GY 1 [] [])) (iV 1 [] []) wf func479 rfl call479 rfl ?_;intro S R hS hR;have q:=sf hM hS;unfold kH at O;cbv;refine d_L (iV 1 [] []) [] [0,2,4,10,11] (λJ=>f4 58 [.os 0 0 (S.gZ (gQ M J.2.2)),sI m,.fn 300 [],sI J.1,sI J.2.1] [aR 76 (gQ M J.2.2)]) O ?_;intro I k2 J C O e U;subst U;unfold nO at O;cbv;refine nZ ?_ ?_
 intro O;cbv;refine nZ ?_ ?_
 intro O;cbv;refine wG hS O (cZ hM) aj aj rfl rfl rfl rfl ?_;intro y4 U O;have q:=And.intro q (pY RN U).symm;cbv;exact vw
 intro O;cbv;refine wG hS O (cZ hM) aj aj rfl rfl rfl rfl ?_;intro y5 U O;have q:=And.intro q (pY RN U).symm;cbv;exact vw
 intro O;cbv;refine wG hS O (cZ hM) aj aj rfl rfl rfl rfl ?_;intro y6 U O;have q:=And.intro q (pY RN U).symm;cbv;cases O;exact hR _ _ _ aj aj rfl
instance o15 {answers}:CZ M 15 (Nb answers) [.sl 1 (M.m (List Int) (eL M 1 (eI .i64)) answers) false] [] 0 (λ_=>.lv 0 0) (λr=>[(0,(vR ([.os 1 0 (M.n (List Int) r.answers),sI r.used]++(lN M r.pending++[.sb r.waits,.sb r.bad])))),(1,(aR 1 (M.m (List Int) (eL M 1 (eI .i64)) r.answers)))]) 2:=by
 have:=lo 3 [3,8,9,10] (λ_ (s:Int×(List (List Int)))=>up [(10,sI s.1)] [(0,(vR [.os 1 0 (M.n (List Int) s.2),sI 0,sI 0,sI 0,sI 0,sI 0,sI 0,sI 0,.sl 0 [] true,.sb false,.sb false])),(1,(aR 1 (M.m (List Int) (eL M 1 (eI .i64)) s.2)))]) [.cO 0 0 1];exact wZ (iV 0 [] []) func15 call15
instance c455 {i}{j}{c2}{c3}:CC M 455 (sO i j c2 c3) [sI i,sI j,.pp [.sl 1 (mI M c2) false],.pp [.sl 1 (M.m (List Bool) (eL M 1 eB) c3) false]] (λr=>.sb r):=by
 exact wA ig func455 call455
instance c117 {a}{b}:CC M 117 (AV a b) [.agg (uK M a),.agg (uK M b)] (λr=>.sb r):=by
 have:=ct 2 [2,3,44] (λ_ s=>jO [(44,.sb s)]);exact wA (iO [2]) func117 call117
instance ajN {s}{n}:CC M 489 (Jn s n uU) [.str s,sI n,.fn 490 []] (λr=>sI r):=by
 have:=lo 2 [0,2,8,9] (λ_ s=>jO [(9,sI s)]);exact wA ig func489 call489
instance ajO {s}{n}:CC M 489 (Jn s n wQ) [.str s,sI n,.fn 491 []] (λr=>sI r):=by
 have:=lo 2 [0,2,8,9] (λ_ s=>jO [(9,sI s)]);exact wA ig func489 call489
instance c378 {op}{field}:CC M 378 (xA op field) [sI op,.si .u8 field] (λr=>.sb r):=by
 have:=lo 3 [1,5,6] (λ_ s=>jO [(6,sI s)]);exact wA ig func378 call378
instance c104 {s}{v}:CC M 104 (pU s v) [pF M s,.agg (sJ M v)] (λr=>.sb r):=by
 exact wA ig func104 call104
instance c334 {a}{b}:CC M 334 (uF a b) [.agg (oD M a),.agg (oD M b)] (λr=>.sb r):=by
 exact wA ig func334 call334
instance c38 {s}{id}:CC M 38 (Qc s id) [.agg (iF M s),sI id] (λr=>.DJ [.agg (jQ M r.1),.sb r.2]):=by
 exact wA ig func38 call38
instance c487 {s}{v}:CC M 487 (slices_Contains_string s v) [.sl 1 (M.m ByteArray eS s) false,.str v] (λr=>.sb r):=by
 exact wA ig func487 call487
instance c458 {b}{n}{c2}:CC M 458 (xE b n c2) [.agg (ET M b),sI n,.pp [.sb c2]] (λr=>.sb r):=by
 exact wA ig func458 call458
instance c375 {a}{b}:CC M 375 (Ji a b) [.agg (xx M a),.agg (xx M b)] (λr=>.sb r):=by
 exact wA ig func375 call375
instance c120 {a}{b}:CC M 120 (EX a b) [.agg (zQ M a),.agg (zQ M b)] (λr=>.sb r):=by
 exact wA ig func120 call120
instance c328 {m}{c1}:CC M 328 (wE m c1) [.agg (yT M m),.pp [sI c1]] (λr=>.sb r):=by
 exact wA ig func328 call328
instance c128 {p}:CC M 128 (zI p) [.agg (uK M p)] (λr=>.agg (uK M r)):=by
 exact wA ig func128 call128
instance c78 {s}{v}:CC M 78 (slices_Contains_int s v) [.sl 1 (mI M s) false,sI v] (λr=>.sb r):=by
 exact wA ig func78 call78
instance c341 {l}{n}:CC M 341 (LY l n) [.sl 1 (mI M l) false,sI n] (λr=>sI r):=by
 exact wA ig func341 call341
instance c88 {s}{p}:CC M 88 (uw s p) [.agg (iF M s),sI p] (λr=>.sb r):=by
 exact wA ig func88 call88
end Go.Proofs.YtchmoabpofnbaaaGreat
