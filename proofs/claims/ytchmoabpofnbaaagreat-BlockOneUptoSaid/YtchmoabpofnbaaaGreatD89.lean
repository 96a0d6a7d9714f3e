import Derived.Test.YtchmoabpofnbaaaGreatD85
import Derived.Test.YtchmoabpofnbaaaGreatD86
set_option linter.all false
namespace Go.Proofs.YtchmoabpofnbaaaGreat
open Go Go.Pv
set_option maxRecDepth 100000
set_option maxHeartbeats 20000000
variable [GM]
attribute [local irreducible] bnd br jn pI eH iI kD gW qx sG divO jU jc jM jD jR kK kE
variable {M:gm}[HM M]
instance o93 {cards}{s}:CZ M 93 (qj cards s) [lQ M cards,.agg (gG M s)] [] 0 (λr=>.os 0 0 (M.n eF r)) (λr=>[(0,(aR 17 (fQ M r)))]) 1:=by
 have hM:=HM.h (M:=M);refine⟨λr U=>?_⟩;refine Ad (T:=(Gh 0 [6] [[(17,true)]])) (gJ 0 [6] [[(17,true)]]) wf Tryz.func93 rfl Tryz.call93 rfl ?_;intro S R O hR;have q:=sf hM O;unfold qj at U;cbv;refine jC O U (cZ hM) (le_eq rfl) ?_;intro y1 U;cbv;refine KJ O (gJ 0 [6] [[(17,true)]]) wf 10 ?_;intro g2 hg2;refine hg2 _ _ ?_;cbv;refine nz O ?_;cbv;refine jE O U (cZ hM) iU iU rfl rfl rfl rfl ?_;intro y3 U;cbv;refine hg2 _ _ ?_;cbv;refine nz O ?_;cbv;refine jE O U (cZ hM) iU iU rfl rfl rfl rfl ?_;intro y4 U;cbv;refine hg2 _ _ ?_;cbv;refine nz O ?_;cbv;refine jE O U (cZ hM) iU iU rfl rfl rfl rfl ?_;intro y5 U;cbv;refine hg2 _ _ ?_;cbv;refine nz O ?_;cbv;refine jE O U (cZ hM) iU iU rfl rfl rfl rfl ?_;intro y6 U;cbv;refine hg2 _ _ ?_;cbv;refine nz O ?_;cbv;refine jE O U (cZ hM) iU iU rfl rfl rfl rfl ?_;intro y7 U;cbv;refine hg2 _ _ ?_;cbv;refine nz O ?_;cbv;refine jE O U (cZ hM) iU iU rfl rfl rfl rfl ?_;intro y8 U;cbv;refine hg2 _ _ ?_;cbv;refine nz O ?_;cbv;refine jE O U (cZ hM) iU iU rfl rfl rfl rfl ?_;intro y9 U;cbv;refine hg2 _ _ ?_;cbv;refine nz O ?_;cbv;refine jE O U (cZ hM) iU iU rfl rfl rfl rfl ?_;intro y10 U;cbv;refine hg2 _ _ ?_;cbv;refine nz O ?_;cbv;cases U;exact hR _ _ _ ah ah rfl
end Go.Proofs.YtchmoabpofnbaaaGreat
namespace Go.Proofs.YtchmoabpofnbaaaGreat
open Go Go.Pv Proofs.Tryz
set_option maxRecDepth 100000
set_option maxHeartbeats 20000000
variable [GM]
attribute [local irreducible] bnd br jn pI eH iI kD gW qx sG divO jU jc jM jD jR kK kE
variable {M:gm}[HM M]
instance c93 {cards}{s}:CC M 93 (qj cards s) [lQ M cards,.agg (gG M s)] (λr=>kH M r):=by
 have hM:=HM.h (M:=M);refine⟨λr U=>?_⟩;refine EN (fZ [6]) func93 call93 ?_;intro S R O hR q;unfold qj at U;cbv;refine jC O U (cZ hM) (le_eq rfl) ?_;intro y1 U;cbv;refine KJ O (fZ [6]) wf 10 ?_;intro g2 hg2;refine hg2 _ _ ?_;cbv;refine nz O ?_;cbv;refine jE O U (cZ hM) iU iU rfl rfl rfl rfl ?_;intro y3 U;cbv;refine hg2 _ _ ?_;cbv;refine nz O ?_;cbv;refine jE O U (cZ hM) iU iU rfl rfl rfl rfl ?_;intro y4 U;cbv;refine hg2 _ _ ?_;cbv;refine nz O ?_;cbv;refine jE O U (cZ hM) iU iU rfl rfl rfl rfl ?_;intro y5 U;cbv;refine hg2 _ _ ?_;cbv;refine nz O ?_;cbv;refine jE O U (cZ hM) iU iU rfl rfl rfl rfl ?_;intro y6 U;cbv;refine hg2 _ _ ?_;cbv;refine nz O ?_;cbv;refine jE O U (cZ hM) iU iU rfl rfl rfl rfl ?_;intro y7 U;cbv;refine hg2 _ _ ?_;cbv;refine nz O ?_;cbv;refine jE O U (cZ hM) iU iU rfl rfl rfl rfl ?_;intro y8 U;cbv;refine hg2 _ _ ?_;cbv;refine nz O ?_;cbv;refine jE O U (cZ hM) iU iU rfl rfl rfl rfl ?_;intro y9 U;cbv;refine hg2 _ _ ?_;cbv;refine nz O ?_;cbv;refine jE O U (cZ hM) iU iU rfl rfl rfl rfl ?_;intro y10 U;cbv;refine hg2 _ _ ?_;cbv;refine nz O ?_;cbv;exact ahA
instance c99 {w}{stage}:CC M 99 (oD w stage) [.agg (jG M w),sI stage] (λr=>.Ed [.agg (jG M r.1),.sl 1 (mI M r.2) false]):=by
 have:=ct 7 [1,2,4] (λ_ s=>up [] [(0,(vR (jG M s)))]);have:=lo 5 [1,2,4,6,7] (λ_ (s:Int×(List Int))=>up [(6,.os 2 0 (M.n Int s.2)),(7,sI s.1)] [(2,(aR 1 (mI M s.2)))]);have:=ct 13 [1,2,4,6,7] (λ_ s=>up [(6,.os 2 0 (M.n Int s))] [(2,(aR 1 (mI M s)))]);have:=lo 12 [1,2,4,6,8,9,10] (λ_ (s:gB×(List Int)×Int×(List Int))=>up [(6,.sl 1 (mI M s.2.1) false),(8,.os 2 0 (M.n Int s.2.2.2)),(10,sI s.2.2.1)] [(0,(vR (jG M s.1))),(2,(aR 1 (mI M s.2.2.2)))]) [.tF 6,.tR 8];exact wA (fZ [7,13]) func99 call99
end Go.Proofs.YtchmoabpofnbaaaGreat
namespace Go.Proofs.YtchmoabpofnbaaaGreat
open Go Go.Pv
set_option maxRecDepth 100000
set_option maxHeartbeats 20000000
variable [GM]
attribute [local irreducible] bnd br jn pI eH iI kD gW qx sG divO jU jc jM jD jR kK kE
variable {M:gm}[HM M]
instance c165 {a}:CC M 165 (MN a) [.agg (jH M a)] (λr=>.sb r):=by
 have:=ct 2 [1,11] (λ_ s=>jf [(11,.sb s)]);have:=ct 6 [1,3] (λ_ s=>jf [(3,.sb s)]);have:=ct 19 [1,3] (λ_ (_:Unit)=>jf []);have:=ct 10 [1,3,43] (λ_ s=>jf [(43,.sb s)]);have:=ct 14 [1,3,53] (λ_ s=>jf [(53,.sb s)]);have:=ct 29 [1,3] (λ_ (_:Unit)=>jf []);have:=ct 24 [1,3,68] (λ_ s=>jf [(68,.sb s)]);have:=ct 39 [1,3] (λ_ (_:Unit)=>jf []);have:=ct 34 [1,3,83] (λ_ s=>jf [(83,.sb s)]);have:=ct 49 [1,3] (λ_ (_:Unit)=>jf []);have:=ct 50 [2] (λ_ s=>jf [(2,.sb s)]);exact wA (fZ [2,6,10,14,19,24,29,34,39,49,50]) Tryz.func165 Tryz.call165
end Go.Proofs.YtchmoabpofnbaaaGreat
