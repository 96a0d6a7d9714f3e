import Derived.Test.YtchmoabpofnbaaaGreatC100
import Derived.Test.YtchmoabpofnbaaaGreatC98
set_option linter.all false
namespace Go.Proofs.YtchmoabpofnbaaaGreat
open Go Go.Pv
set_option maxRecDepth 100000
set_option maxHeartbeats 20000000
variable [GM]
attribute [local irreducible] bnd br jn oL loopF iq jS gu pO rG divO jF iO jA jm jE jY jU
variable {M:fP}[HM M]
instance c32  : CC M 32 (uh ) [] (λr=>.sb r):=by
 have hM:=HM.h (M:=M);refine⟨λr U=>?_⟩;refine CO fG Tryz.func32 Tryz.call32 ?_;intro S R hS hR q;unfold uh at U;cbv;refine qZ hS U (cI hM) ?_;intro y1 U;cbv;refine CB hS ?_;cbv;refine GX hS U (cI hM) ?_;intro y2 U;cbv;refine GX hS U (cI hM) ?_;intro y3 U;cbv;refine CB hS ?_;cbv;refine age hS [.sl 1 (mI M ([]:List Int)) false] gX ?_;cbv;refine Zh hS [.cF 0 0] U (cZ hM) (by subst hM;exact gX) (λ_=>aW) ?_;intro y4 U;cbv;refine GX hS U (cI hM) ?_;intro y5 U;cbv;refine QL hS U (cZ hM) (by subst hM;exact gX) gX rfl rfl ?_;intro y6 U;cbv;refine aa8 hS rfl ?_;cbv;refine jl hS U (cZ hM) JB ?_;intro y7 U;cbv;refine qZ hS U (cI hM) ?_;intro y8 U;cbv;refine qZ hS U (cI hM) ?_;intro y9 U;cbv;refine iR hS U (cZ hM) gX gX rfl rfl rfl rfl ?_;intro y10 U;cbv;refine qZ hS U (cI hM) ?_;intro y11 U;cbv;refine kQ ?_ ?_
 intro U;cbv;refine zT ?_;intro x12 U;cbv;replace U:=aeI U;refine kQ ?_ ?_
 intro U;cbv;refine qZ hS U (cI hM) ?_;intro y14 U;cbv;refine kQ ?_ ?_
 intro U;cbv;refine Zf hS U (cI hM) gX ?_;intro y15 U;cbv;refine kQ ?_ ?_
 intro U;cbv;refine kQ ?_ ?_
 intro U;cbv;refine zT ?_;intro x16 U;cbv;refine kQ ?_ ?_
 intro U;cbv;refine zT ?_;intro x17 U;cbv;refine rf ?_ ?_
 intro U;cbv;refine rf ?_ ?_
 intro U;cbv;refine kQ ?_ ?_
 intro U;cbv;refine zT ?_;intro x18 U;cbv;refine kQ ?_ ?_<;>exact d_R
 exact d_R
 exact d_R
 exact d_R
 exact d_R
 exact d_R
 exact d_R
 exact d_R
 exact d_R
 exact d_R
end Go.Proofs.YtchmoabpofnbaaaGreat
set_option linter.all false
namespace Go.Proofs.YtchmoabpofnbaaaGreat
open Go Go.Pv
set_option maxRecDepth 100000
set_option maxHeartbeats 20000000
variable [GM]
attribute [local irreducible] bnd br jn oL loopF iq jS gu pO rG divO jF iO jA jm jE jY jU
variable {M:fP}[HM M]
instance c9 {cards}{s}{answer}:CC M 9 (uH cards s answer) [kH M cards,.agg (fD M s),.sl 1 (mI M answer) false] (λr=>.sb r):=by
 have hM:=HM.h (M:=M);refine⟨λr U=>?_⟩;refine CO (fO [2,18,24,36,47,54,58]) Tryz.func9 Tryz.call9 ?_;intro S R hS hR q;unfold uH at U;cbv;refine yE [] [0,2,4,26] (λs1=>f4 185 [kH M cards,.sl 1 (mI M answer) false,.lv 0 0,.sb s1] [vR (fD M s)]) U ?_ ?_
 intro Ik2 k2 hk2 U;cbv;refine qZ hS U (cI hM) ?_;intro y4 U;cbv;refine kQ ?_ ?_<;>exact pW
 intro s1 U;cbv;refine rf ?_ ?_
 intro U;cbv;refine qZ hS U (cI hM) ?_;exact SQ
 intro U;cbv;refine qZ hS U (cI hM) ?_;intro y6 U;cbv;refine qZ hS U (cI hM) ?_;intro y7 U;cbv;refine Gg (fO [2,18,24,36,47,54,58]) [.tO 9 3] [0,2,4,7,8,9,10] (λs8=>f4 185 [kH M cards,.sl 1 (mI M answer) false,.lv 0 0,iE M y6,jI M y7,.os 1 0 (S.fE (jq M s8.2)),sI s8.1] [vR (fD M s),aR 3 (jq M s8.2)]) U ?_;intro Ik9 k9 s8 hk9 U e he;subst he;unfold uG at U;cbv;refine kQ ?_ ?_
 intro U;cbv;refine yE [] [0,2,4,7,8,9,10,63] (λs11=>f4 185 [kH M cards,.sl 1 (mI M answer) false,.lv 0 0,iE M y6,jI M y7,.os 1 0 (S.fE (jq M s8.2)),sI s8.1,.sb s11] [vR (fD M s),aR 3 (jq M s8.2)]) U ?_ ?_
 intro Ik12 k12 hk12 U;cbv;refine zT ?_;intro x14 U;cbv;refine kQ ?_ ?_
 exact pW
 intro U;cbv;refine zT ?_;intro x15 U;cbv;refine kQ ?_ ?_
 exact pW
 intro U;cbv;refine zT ?_;intro x16 U;cbv;refine qZ hS U (cI hM) ?_;exact sK
 intro s11 U;cbv;refine rf ?_ ?_
 intro U;cbv;refine qZ hS U (cI hM) ?_;exact SQ
 intro U;cbv;refine zT ?_;intro x19 U;cbv;refine zT ?_;intro x20 U;cbv;refine nG hS U jJ ?_;exact pW
 intro U;cbv;refine yE [] [0,2,4,7,9,84] (λs21=>f4 185 [kH M cards,.sl 1 (mI M answer) false,.lv 0 0,iE M y6,.os 1 0 (S.fE (jq M s8.2)),.sb s21] [vR (fD M s),aR 3 (jq M s8.2)]) U ?_ ?_
 intro Ik22 k22 hk22 U;cbv;refine kQ ?_ ?_
 exact pW
 intro U;cbv;refine AV hS U (cI hM) JB (λ_=>rfl) ?_;exact sK
 intro s21 U;cbv;refine rf ?_ ?_
 intro U;cbv;refine qZ hS U (cI hM) ?_;exact SQ
 intro U;cbv;refine CB hS ?_;cbv;refine Zh hS [.cF 0 0] U (cZ hM) JB (λ_=>aW) ?_;intro y26 U;cbv;refine QL hS U (cZ hM) gX gX rfl rfl ?_;intro y27 U;cbv;refine kQ ?_ ?_
 exact d_R
 intro U;cbv;refine Gg (fO [2,18,24,36,47,54,58]) [] [4,7,9,11,13] (λs28=>f4 185 [.lv 0 0,iE M y6,.os 1 0 (S.fE (jq M s8.2)),.lv 2 0,sI s28] [vR (fD M s),aR 3 (jq M s8.2),vR (fD M y27.1)]) U ?_;intro Ik29 k29 s28 hk29 U e he;subst he;unfold uF at U;cbv;refine yE [] [4,7,9,11,13,107] (λs31=>f4 185 [.lv 0 0,iE M y6,.os 1 0 (S.fE (jq M s8.2)),.lv 2 0,sI s28,.sb s31] [vR (fD M s),aR 3 (jq M s8.2),vR (fD M y27.1)]) U ?_ ?_
 intro Ik32 k32 hk32 U;cbv;refine kQ ?_ ?_<;>exact pW
 intro s31 U;cbv;refine rf ?_ ?_
 intro U;cbv;refine zT ?_;intro x34 U;cbv;refine Gg (fO [2,18,24,36,47,54,58]) [] [4,7,9,11,13,14,15] (λs35=>f4 185 [.lv 0 0,iE M y6,.os 1 0 (S.fE (jq M s8.2)),.lv 2 0,sI s28,sI s35.1,sI s35.2] [vR (fD M s),aR 3 (jq M s8.2),vR (fD M y27.1)]) U ?_;intro Ik36 k36 s35 hk36 U e he;subst he;unfold yK at U;cbv;refine kQ ?_ ?_
 intro U;cbv;refine yE [] [4,7,9,11,13,14,15] (λs38=>f4 185 [.lv 0 0,iE M y6,.os 1 0 (S.fE (jq M s8.2)),.lv 2 0,sI s28,sI s38,sI s35.2] [vR (fD M s),aR 3 (jq M s8.2),vR (fD M y27.1)]) U ?_ ?_
 intro Ik39 k39 hk39 U;cbv;refine CB hS ?_;cbv;refine kM hS U jJ rfl ?_;intro j41 _ U;cbv;refine jc hS hM U rfl jJ ?_;intro x42 U;cbv;refine zT ?_;intro x43 U;cbv;refine kQ ?_ ?_
 intro U;cbv;refine kM hS U jJ rfl ?_;intro j44 _ U;cbv;refine jc hS hM U rfl jJ ?_;exact sK
 exact pW
 intro s38 U;cbv;exact sN
 intro U;cbv;refine CB hS ?_;cbv;refine zT ?_;intro x46 U;cbv;refine GX hS U (cI hM) ?_;intro y47 U;cbv;refine yE [] [4,7,9,11,13,14,16,157] (λs48=>f4 185 [.lv 0 0,iE M y6,.os 1 0 (S.fE (jq M s8.2)),.lv 2 0,sI s28,sI s35.1,.lv 3 0,.sb s48] [vR (fD M s),aR 3 (jq M s8.2),vR (fD M y27.1),vR (ja M y47.1)]) U ?_ ?_
 intro Ik49 k49 hk49 U;cbv;refine kQ ?_ ?_<;>exact pW
 intro s48 U;cbv;refine rf ?_ ?_
 exact d_R
 intro U;cbv;refine yE [] [4,7,9,11,13,183] (λs51=>f4 185 [.lv 0 0,iE M y6,.os 1 0 (S.fE (jq M s8.2)),.lv 2 0,sI s28,.sb s51] [vR (fD M s),aR 3 (jq M s8.2),vR (fD M y27.1)]) U ?_ ?_
 intro Ik52 k52 hk52 U;cbv;refine kQ ?_ ?_
 intro U;cbv;refine zT ?_;intro x54 U;cbv;refine kQ ?_ ?_
 intro U;cbv;refine kQ ?_ ?_
 intro U;cbv;refine zT ?_;intro x55 U;cbv;refine qZ hS U (cI hM) ?_;exact sK
 exact pW
 exact pW
 exact pW
 intro s51 U;cbv;refine rf ?_ ?_
 exact d_R
 exact pW
 intro U;cbv;refine qZ hS U (cI hM) ?_;exact SQ
instance c10 {cards}{s}:CC M 10 (rO cards s) [kH M cards,.agg (fD M s)] (λr=>.sb r):=by
 have hM:=HM.h (M:=M);refine⟨λr U=>?_⟩;refine CO (fO [2,18,34]) Tryz.func10 Tryz.call10 ?_;intro S R hS hR q;unfold rO at U;cbv;refine yE [] [0,3,37] (λs1=>f4 138 [kH M cards,.lv 0 0,.sb s1] [vR (fD M s)]) U ?_ ?_
 intro Ik2 k2 hk2 U;cbv;refine qZ hS U (cI hM) ?_;intro y4 U;cbv;refine kQ ?_ ?_
 exact pW
 intro U;cbv;refine kQ ?_ ?_
 exact pW
 intro U;cbv;refine zT ?_;intro x5 U;cbv;refine rf ?_ ?_
 exact pW
 intro U;cbv;refine zT ?_;exact sK
 intro s1 U;cbv;refine rf ?_ ?_
 intro U;cbv;refine qZ hS U (cI hM) ?_;exact SQ
 intro U;cbv;refine qZ hS U (cI hM) ?_;intro y8 U;cbv;refine qZ hS U (cI hM) ?_;intro y9 U;cbv;refine CB hS ?_;cbv;refine age hS [.sl 1 (mI M ([]:List Int)) false] gX ?_;cbv;refine Zh hS [.cF 0 0] U (cZ hM) (by subst hM;exact gX) (λ_=>aW) ?_;intro y10 U;cbv;refine QL hS U (cZ hM) gX gX rfl rfl ?_;intro y11 U;cbv;refine kQ ?_ ?_
 exact d_R
 intro U;cbv;refine Gg (fO [2,18,34]) [] [3,5,6,7,9] (λs12=>f4 138 [.lv 0 0,iE M y8,jI M y9,.lv 1 0,sI s12] [vR (fD M s),vR (fD M y11.1)]) U ?_;intro Ik13 k13 s12 hk13 U e he;subst he;unfold sJ at U;cbv;refine yE [] [3,5,6,7,9,66] (λs15=>f4 138 [.lv 0 0,iE M y8,jI M y9,.lv 1 0,sI s12,.sb s15] [vR (fD M s),vR (fD M y11.1)]) U ?_ ?_
 intro Ik16 k16 hk16 U;cbv;refine kQ ?_ ?_<;>exact pW
 intro s15 U;cbv;refine rf ?_ ?_
 intro U;cbv;refine CB hS ?_;cbv;refine zT ?_;intro x18 U;cbv;refine GX hS U (cI hM) ?_;intro y19 U;cbv;refine Gg (fO [2,18,34]) [] [3,5,6,7,9,10,11,12,13] (λs20=>f4 138 [.lv 0 0,iE M y8,jI M y9,.lv 1 0,sI s12,.lv 2 0,.sb y19.2,.sb s20.1,sI s20.2] [vR (fD M s),vR (fD M y11.1),vR (ja M y19.1)]) U ?_;intro Ik21 k21 s20 hk21 U e he;subst he;unfold wS at U;cbv;refine kQ ?_ ?_
 intro U;cbv;refine CB hS ?_;cbv;refine rf ?_ ?_
 exact pW
 intro U;cbv;refine zT ?_;intro x23 U;cbv;refine zT ?_;intro x24 U;cbv;refine kQ ?_ ?_
 intro U;cbv;refine zT ?_;intro x25 U;cbv;refine GX hS U (cI hM) ?_;exact sK
 exact pW
 intro U;cbv;refine yE [] [3,5,6,7,9,136] (λs27=>f4 138 [.lv 0 0,iE M y8,jI M y9,.lv 1 0,sI s12,.sb s27] [vR (fD M s),vR (fD M y11.1)]) U ?_ ?_
 intro Ik28 k28 hk28 U;cbv;refine CB hS ?_;cbv;refine kQ ?_ ?_
 exact pW
 intro U;cbv;refine rf ?_ ?_
 intro U;cbv;refine kQ ?_ ?_
 exact pW
 intro U;cbv;refine kQ ?_ ?_
 intro U;cbv;refine zT ?_;exact sK
 exact pW
 intro U;cbv;refine kQ ?_ ?_
 intro U;cbv;refine zT ?_;exact sK
 exact pW
 intro s27 U;cbv;refine rf ?_ ?_
 exact d_R
 exact pW
 intro U;cbv;refine qZ hS U (cI hM) ?_;exact SQ
end Go.Proofs.YtchmoabpofnbaaaGreat
