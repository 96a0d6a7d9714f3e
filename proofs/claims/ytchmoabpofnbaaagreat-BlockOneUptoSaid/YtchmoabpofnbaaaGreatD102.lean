import Derived.Test.YtchmoabpofnbaaaGreatD100
set_option linter.all false
namespace Go.Proofs.YtchmoabpofnbaaaGreat
open Go Go.Pv
set_option maxRecDepth 100000
set_option maxHeartbeats 20000000
variable [GM]
attribute [local irreducible] bnd br jn pI eH iI kD gW qx sG divO jU jc jM jD jR kK kE
variable {M:gm}[HM M]
instance c41  : CC M 41 (yK ) [] (λr=>.sb r):=by
 have hM:=HM.h (M:=M);refine⟨λr U=>?_⟩;refine EN fG Tryz.func41 Tryz.call41 ?_;intro S R O hR q;unfold yK at U;cbv;refine wo O U (cI hM) ?_;intro y1 U;cbv;refine Fa O ?_;cbv;refine LV O (e:=(eI .i64)) U ah ?_;intro x2 U;cbv;refine aeR O [.cF 0 0] U (cZ hM) dI (λ_=>aT) ?_;intro y3 U;cbv;refine VP O U (cZ hM) dI iU rfl rfl ?_;intro y4 U;cbv;refine Fa O ?_;cbv;refine akB O [sI 1,sI 0] ah ?_;cbv;refine aeR O [.cF 0 0] U (cZ hM) dI (λ_=>aT) ?_;intro y5 U;cbv;refine VP O U (cZ hM) dI iU rfl rfl ?_;intro y6 U;cbv;refine Fa O ?_;cbv;refine Kq O U (cI hM) ?_;intro y7 U;cbv;refine Kq O U (cI hM) ?_;intro y8 U;cbv;refine mP ?_ ?_
 intro U;cbv;refine xH ?_ ?_
 intro U;cbv;refine Kr ?_;intro x9 U;cbv;refine xH ?_ ?_
 intro U;cbv;refine Kr ?_;intro x10 U;cbv;refine mP ?_ ?_
 intro U;cbv;refine Kr ?_;intro x11 U;cbv;refine mP ?_ ?_
 intro U;cbv;refine mP ?_ ?_
 intro U;cbv;refine Kr ?_;intro x12 U;cbv;replace U:=afR U;exact ahA
 exact d_R
 exact d_R
 exact d_R
 exact d_R
 exact d_R
 exact d_R
end Go.Proofs.YtchmoabpofnbaaaGreat
