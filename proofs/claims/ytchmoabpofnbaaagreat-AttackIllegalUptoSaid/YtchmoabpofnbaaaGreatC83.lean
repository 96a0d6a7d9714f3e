import Derived.Test.YtchmoabpofnbaaaGreatC80
set_option linter.all false
namespace Go.Proofs.YtchmoabpofnbaaaGreat
open Go Go.Pv
set_option maxRecDepth 100000
set_option maxHeartbeats 20000000
variable [GM]
attribute [local irreducible] bnd br jn qE gK jv lJ jl rD uo divO kT jL kN kP lI lS lM
variable {M:iG}[HM M]
instance o93 {cards}{s}:CZ M 93 (qZ cards s) [oh M cards,.agg (iI M s)] [] 0 (λr=>.os 0 0 (M.n gG r)) (λr=>[(0,(aR 17 (iD M r)))]) 1:=by
 have hM:=HM.h (M:=M);refine⟨λr O=>?_⟩;refine AQ (T:=(GY 0 [6] [[(17,true)]])) (iV 0 [6] [[(17,true)]]) wf Tryz.func93 rfl Tryz.call93 rfl ?_;intro S R hS hR;have q:=sf hM hS;unfold qZ at O;cbv;refine jM hS O (cZ hM) (le_eq rfl) ?_;intro y1 O;cbv;refine MX hS (iV 0 [6] [[(17,true)]]) wf 10 ?_;intro g2 hg2;refine hg2 _ _ ?_;cbv;refine oU hS ?_;cbv;refine jT hS O (cZ hM) ji ji rfl rfl rfl rfl ?_;intro y3 O;cbv;refine hg2 _ _ ?_;cbv;refine oU hS ?_;cbv;refine jT hS O (cZ hM) ji ji rfl rfl rfl rfl ?_;intro y4 O;cbv;refine hg2 _ _ ?_;cbv;refine oU hS ?_;cbv;refine jT hS O (cZ hM) ji ji rfl rfl rfl rfl ?_;intro y5 O;cbv;refine hg2 _ _ ?_;cbv;refine oU hS ?_;cbv;refine jT hS O (cZ hM) ji ji rfl rfl rfl rfl ?_;intro y6 O;cbv;refine hg2 _ _ ?_;cbv;refine oU hS ?_;cbv;refine jT hS O (cZ hM) ji ji rfl rfl rfl rfl ?_;intro y7 O;cbv;refine hg2 _ _ ?_;cbv;refine oU hS ?_;cbv;refine jT hS O (cZ hM) ji ji rfl rfl rfl rfl ?_;intro y8 O;cbv;refine hg2 _ _ ?_;cbv;refine oU hS ?_;cbv;refine jT hS O (cZ hM) ji ji rfl rfl rfl rfl ?_;intro y9 O;cbv;refine hg2 _ _ ?_;cbv;refine oU hS ?_;cbv;refine jT hS O (cZ hM) ji ji rfl rfl rfl rfl ?_;intro y10 O;cbv;refine hg2 _ _ ?_;cbv;refine oU hS ?_;cbv;cases O;exact hR _ _ _ aj aj rfl
end Go.Proofs.YtchmoabpofnbaaaGreat
namespace Go.Proofs.YtchmoabpofnbaaaGreat
open Go Go.Pv Proofs.Tryz
set_option maxRecDepth 100000
set_option maxHeartbeats 20000000
variable [GM]
attribute [local irreducible] bnd br jn qE gK jv lJ jl rD uo divO kT jL kN kP lI lS lM
variable {M:iG}[HM M]
instance c93 {cards}{s}:CC M 93 (qZ cards s) [oh M cards,.agg (iI M s)] (λr=>lq M r):=by
 have hM:=HM.h (M:=M);refine⟨λr O=>?_⟩;refine ES (iO [6]) func93 call93 ?_;intro S R hS hR q;unfold qZ at O;cbv;refine jM hS O (cZ hM) (le_eq rfl) ?_;intro y1 O;cbv;refine MX hS (iO [6]) wf 10 ?_;intro g2 hg2;refine hg2 _ _ ?_;cbv;refine oU hS ?_;cbv;refine jT hS O (cZ hM) ji ji rfl rfl rfl rfl ?_;intro y3 O;cbv;refine hg2 _ _ ?_;cbv;refine oU hS ?_;cbv;refine jT hS O (cZ hM) ji ji rfl rfl rfl rfl ?_;intro y4 O;cbv;refine hg2 _ _ ?_;cbv;refine oU hS ?_;cbv;refine jT hS O (cZ hM) ji ji rfl rfl rfl rfl ?_;intro y5 O;cbv;refine hg2 _ _ ?_;cbv;refine oU hS ?_;cbv;refine jT hS O (cZ hM) ji ji rfl rfl rfl rfl ?_;intro y6 O;cbv;refine hg2 _ _ ?_;cbv;refine oU hS ?_;cbv;refine jT hS O (cZ hM) ji ji rfl rfl rfl rfl ?_;intro y7 O;cbv;refine hg2 _ _ ?_;cbv;refine oU hS ?_;cbv;refine jT hS O (cZ hM) ji ji rfl rfl rfl rfl ?_;intro y8 O;cbv;refine hg2 _ _ ?_;cbv;refine oU hS ?_;cbv;refine jT hS O (cZ hM) ji ji rfl rfl rfl rfl ?_;intro y9 O;cbv;refine hg2 _ _ ?_;cbv;refine oU hS ?_;cbv;refine jT hS O (cZ hM) ji ji rfl rfl rfl rfl ?_;intro y10 O;cbv;refine hg2 _ _ ?_;cbv;refine oU hS ?_;cbv;exact ahN
instance c165 {a}:CC M 165 (OT a) [.agg (kC M a)] (λr=>.sb r):=by
 have:=ct 2 [1,11] (λ_ s=>jO [(11,.sb s)]);have:=ct 6 [1,3] (λ_ s=>jO [(3,.sb s)]);have:=ct 19 [1,3] (λ_ (_:Unit)=>jO []);have:=ct 10 [1,3,43] (λ_ s=>jO [(43,.sb s)]);have:=ct 14 [1,3,53] (λ_ s=>jO [(53,.sb s)]);have:=ct 29 [1,3] (λ_ (_:Unit)=>jO []);have:=ct 24 [1,3,68] (λ_ s=>jO [(68,.sb s)]);have:=ct 39 [1,3] (λ_ (_:Unit)=>jO []);have:=ct 34 [1,3,83] (λ_ s=>jO [(83,.sb s)]);have:=ct 49 [1,3] (λ_ (_:Unit)=>jO []);have:=ct 50 [2] (λ_ s=>jO [(2,.sb s)]);exact wA (iO [2,6,10,14,19,24,29,34,39,49,50]) func165 call165
end Go.Proofs.YtchmoabpofnbaaaGreat
