import Derived.Test.YtchmoabpofnbaaaGreatC84
import Derived.Test.YtchmoabpofnbaaaGreatC85
set_option linter.all false
namespace Go.Proofs.YtchmoabpofnbaaaGreat
open Go Go.Pv
set_option maxRecDepth 100000
set_option maxHeartbeats 20000000
variable [GM]
attribute [local irreducible] bnd br jn oL loopF iq jS gu pO rG divO jF iO jA jm jE jY jU
variable {M:fP}[HM M]
instance o93 {cards}{s}:CZ M 93 (ou cards s) [kH M cards,.agg (fV M s)] [] 0 (λr=>.os 0 0 (M.n eQ r)) (λr=>[(0,(aR 17 (fJ M r)))]) 1:=by
 have hM:=HM.h (M:=M);refine⟨λr U=>?_⟩;refine yX (T:=(Fg 0 [6] [[(17,true)]])) (gp 0 [6] [[(17,true)]]) wf Tryz.func93 rfl Tryz.call93 rfl ?_;intro S R hS hR;have q:=sf hM hS;unfold ou at U;cbv;refine jl hS U (cZ hM) (le_eq rfl) ?_;intro y1 U;cbv;refine J6 hS (gp 0 [6] [[(17,true)]]) wf 10 ?_;intro g2 hg2;refine hg2 _ _ ?_;cbv;refine mO hS ?_;cbv;refine iR hS U (cZ hM) gX gX rfl rfl rfl rfl ?_;intro y3 U;cbv;refine hg2 _ _ ?_;cbv;refine mO hS ?_;cbv;refine iR hS U (cZ hM) gX gX rfl rfl rfl rfl ?_;intro y4 U;cbv;refine hg2 _ _ ?_;cbv;refine mO hS ?_;cbv;refine iR hS U (cZ hM) gX gX rfl rfl rfl rfl ?_;intro y5 U;cbv;refine hg2 _ _ ?_;cbv;refine mO hS ?_;cbv;refine iR hS U (cZ hM) gX gX rfl rfl rfl rfl ?_;intro y6 U;cbv;refine hg2 _ _ ?_;cbv;refine mO hS ?_;cbv;refine iR hS U (cZ hM) gX gX rfl rfl rfl rfl ?_;intro y7 U;cbv;refine hg2 _ _ ?_;cbv;refine mO hS ?_;cbv;refine iR hS U (cZ hM) gX gX rfl rfl rfl rfl ?_;intro y8 U;cbv;refine hg2 _ _ ?_;cbv;refine mO hS ?_;cbv;refine iR hS U (cZ hM) gX gX rfl rfl rfl rfl ?_;intro y9 U;cbv;refine hg2 _ _ ?_;cbv;refine mO hS ?_;cbv;refine iR hS U (cZ hM) gX gX rfl rfl rfl rfl ?_;intro y10 U;cbv;refine hg2 _ _ ?_;cbv;refine mO hS ?_;cbv;cases U;exact hR _ _ _ ah ah rfl
end Go.Proofs.YtchmoabpofnbaaaGreat
namespace Go.Proofs.YtchmoabpofnbaaaGreat
open Go Go.Pv Proofs.Tryz
set_option maxRecDepth 100000
set_option maxHeartbeats 20000000
variable [GM]
attribute [local irreducible] bnd br jn oL loopF iq jS gu pO rG divO jF iO jA jm jE jY jU
variable {M:fP}[HM M]
instance c93 {cards}{s}:CC M 93 (ou cards s) [kH M cards,.agg (fV M s)] (λr=>iE M r):=by
 have hM:=HM.h (M:=M);refine⟨λr U=>?_⟩;refine CO (fO [6]) func93 call93 ?_;intro S R hS hR q;unfold ou at U;cbv;refine jl hS U (cZ hM) (le_eq rfl) ?_;intro y1 U;cbv;refine J6 hS (fO [6]) wf 10 ?_;intro g2 hg2;refine hg2 _ _ ?_;cbv;refine mO hS ?_;cbv;refine iR hS U (cZ hM) gX gX rfl rfl rfl rfl ?_;intro y3 U;cbv;refine hg2 _ _ ?_;cbv;refine mO hS ?_;cbv;refine iR hS U (cZ hM) gX gX rfl rfl rfl rfl ?_;intro y4 U;cbv;refine hg2 _ _ ?_;cbv;refine mO hS ?_;cbv;refine iR hS U (cZ hM) gX gX rfl rfl rfl rfl ?_;intro y5 U;cbv;refine hg2 _ _ ?_;cbv;refine mO hS ?_;cbv;refine iR hS U (cZ hM) gX gX rfl rfl rfl rfl ?_;intro y6 U;cbv;refine hg2 _ _ ?_;cbv;refine mO hS ?_;cbv;refine iR hS U (cZ hM) gX gX rfl rfl rfl rfl ?_;intro y7 U;cbv;refine hg2 _ _ ?_;cbv;refine mO hS ?_;cbv;refine iR hS U (cZ hM) gX gX rfl rfl rfl rfl ?_;intro y8 U;cbv;refine hg2 _ _ ?_;cbv;refine mO hS ?_;cbv;refine iR hS U (cZ hM) gX gX rfl rfl rfl rfl ?_;intro y9 U;cbv;refine hg2 _ _ ?_;cbv;refine mO hS ?_;cbv;refine iR hS U (cZ hM) gX gX rfl rfl rfl rfl ?_;intro y10 U;cbv;refine hg2 _ _ ?_;cbv;refine mO hS ?_;cbv;exact aj1
instance c99 {w}{stage}:CC M 99 (qP w stage) [.agg (jr M w),sI stage] (λr=>.Eu [.agg (jr M r.1),.sl 1 (mI M r.2) false]):=by
 have:=ct 7 [1,2,4] (λ_ s=>up [] [(0,(vR (jr M s)))]);have:=lo 5 [1,2,4,6,7] (λ_ (s:Int×(List Int))=>up [(6,.os 2 0 (M.n Int s.2)),(7,sI s.1)] [(2,(aR 1 (mI M s.2)))]);have:=ct 13 [1,2,4,6,7] (λ_ s=>up [(6,.os 2 0 (M.n Int s))] [(2,(aR 1 (mI M s)))]);have:=lo 12 [1,2,4,6,8,9,10] (λ_ (s:ik×(List Int)×Int×(List Int))=>up [(6,.sl 1 (mI M s.2.1) false),(8,.os 2 0 (M.n Int s.2.2.2)),(10,sI s.2.2.1)] [(0,(vR (jr M s.1))),(2,(aR 1 (mI M s.2.2.2)))]) [.tR 8,.tF 6];exact wA (fO [7,13]) func99 call99
end Go.Proofs.YtchmoabpofnbaaaGreat
namespace Go.Proofs.YtchmoabpofnbaaaGreat
open Go Go.Pv
set_option maxRecDepth 100000
set_option maxHeartbeats 20000000
variable [GM]
attribute [local irreducible] bnd br jn oL loopF iq jS gu pO rG divO jF iO jA jm jE jY jU
variable {M:fP}[HM M]
instance c165 {a}:CC M 165 (LC a) [.agg (jv M a)] (λr=>.sb r):=by
 have:=ct 2 [1,11] (λ_ s=>je [(11,.sb s)]);have:=ct 6 [1,3] (λ_ s=>je [(3,.sb s)]);have:=ct 19 [1,3] (λ_ (_:Unit)=>je []);have:=ct 10 [1,3,43] (λ_ s=>je [(43,.sb s)]);have:=ct 14 [1,3,53] (λ_ s=>je [(53,.sb s)]);have:=ct 29 [1,3] (λ_ (_:Unit)=>je []);have:=ct 24 [1,3,68] (λ_ s=>je [(68,.sb s)]);have:=ct 39 [1,3] (λ_ (_:Unit)=>je []);have:=ct 34 [1,3,83] (λ_ s=>je [(83,.sb s)]);have:=ct 49 [1,3] (λ_ (_:Unit)=>je []);have:=ct 50 [2] (λ_ s=>je [(2,.sb s)]);exact wA (fO [2,6,10,14,19,24,29,34,39,49,50]) Tryz.func165 Tryz.call165
end Go.Proofs.YtchmoabpofnbaaaGreat
