import Derived.Test.YtchmoabpofnbaaaGreatC91
set_option linter.all false
namespace Go.Proofs.YtchmoabpofnbaaaGreat
open Go Go.Pv
set_option maxRecDepth 100000
set_option maxHeartbeats 20000000
variable [GM]
attribute [local irreducible] bnd br jn qE gK jv lJ jl rD uo divO kT jL kN kP lI lS lM
variable {M:iG}[HM M]
instance c32  : CC M 32 (Ac ) [] (λr=>.sb r):=by
 have hM:=HM.h (M:=M);refine⟨λr O=>?_⟩;refine ES ig Tryz.func32 Tryz.call32 ?_;intro S R hS hR q;unfold Ac at O;cbv;refine zn hS O (cI hM) ?_;intro y1 O;cbv;refine EF hS ?_;cbv;refine Je hS O (cI hM) ?_;intro y2 O;cbv;refine Je hS O (cI hM) ?_;intro y3 O;cbv;refine EF hS ?_;cbv;refine aiM hS [.sl 1 (mI M ([])) false] ji ?_;cbv;refine acD hS [.cF 0 0] O (cZ hM) (by subst hM;exact ji) (λ_=>bV) ?_;intro y4 O;cbv;refine Je hS O (cI hM) ?_;intro y5 O;cbv;refine MZ hS O (cZ hM) (by subst hM;exact ji) ji rfl rfl ?_;intro y6 O;cbv;refine ZY hS rfl ?_;cbv;refine jM hS O (cZ hM) Lr ?_;intro y7 O;cbv;refine zn hS O (cI hM) ?_;intro y8 O;cbv;refine zn hS O (cI hM) ?_;intro y9 O;cbv;refine jT hS O (cZ hM) ji ji rfl rfl rfl rfl ?_;intro y10 O;cbv;refine zn hS O (cI hM) ?_;intro y11 O;cbv;refine nZ ?_ ?_
 intro O;cbv;refine d_I ?_;intro x12 O;cbv;replace O:=adq O;refine nZ ?_ ?_
 intro O;cbv;refine zn hS O (cI hM) ?_;intro y14 O;cbv;refine nZ ?_ ?_
 intro O;cbv;refine Yb hS O (cI hM) ji ?_;intro y15 O;cbv;refine nZ ?_ ?_
 intro O;cbv;refine nZ ?_ ?_
 intro O;cbv;refine d_I ?_;intro x16 O;cbv;refine nZ ?_ ?_
 intro O;cbv;refine d_I ?_;intro x17 O;cbv;refine vP ?_ ?_
 intro O;cbv;refine vP ?_ ?_
 intro O;cbv;refine nZ ?_ ?_
 intro O;cbv;refine d_I ?_;intro x18 O;cbv;refine nZ ?_ ?_<;>exact d_R
 exact d_R
 exact d_R
 exact d_R
 exact d_R
 exact d_R
 exact d_R
 exact d_R
 exact d_R
 exact d_R
end Go.Proofs.YtchmoabpofnbaaaGreat
namespace Go.Proofs.YtchmoabpofnbaaaGreat
open Go Go.Pv
set_option maxRecDepth 100000
set_option maxHeartbeats 20000000
variable [GM]
attribute [local irreducible] bnd br jn qE gK jv lJ jl rD uo divO kT jL kN kP lI lS lM
variable {M:iG}[HM M]
instance c8 {cards}{s}{answers}:CC M 8 (rF cards s answers) [oh M cards,.agg (iF M s),.sl 1 (M.m (List Int) (eL M 1 (eI .i64)) answers) false] (λr=>.sb r):=by
 have hM:=HM.h (M:=M);refine⟨λr O=>?_⟩;refine ES (iO [2]) Tryz.func8 Tryz.call8 ?_;intro S R hS hR q;unfold rF at O;cbv;refine DR [] [0,2,4,17] (λs1=>f4 36 [oh M cards,.sl 1 (M.m (List Int) (eL M 1 (eI .i64)) answers) false,.lv 0 0,.sb s1] [vR (iF M s)]) O ?_ ?_
 intro Ik2 k2 hk2 O;cbv;refine zn hS O (cI hM) ?_;intro y4 O;cbv;refine nZ ?_ ?_
 exact vF
 intro O;cbv;refine zn hS O (cI hM) ?_;exact xZ
 intro s1 O;cbv;refine vP ?_ ?_
 intro O;cbv;refine zn hS O (cI hM) ?_;exact Z4
 intro O;cbv;refine EF hS ?_;cbv;refine acD hS [.cF 0 0] O (cZ hM) (le_eq rfl) (λ_=>bV) ?_;intro y7 O;cbv;refine MZ hS O (cZ hM) ji ji rfl rfl ?_;intro y8 O;cbv;refine vP ?_ ?_
 intro O;cbv;refine zn hS O (cI hM) ?_;exact Z4
 intro O;cbv;refine zn hS O (cI hM) ?_;intro y10 O;cbv;refine vP ?_ ?_
 intro O;cbv;refine zn hS O (cI hM) ?_;exact Z4
 exact d_R
end Go.Proofs.YtchmoabpofnbaaaGreat
