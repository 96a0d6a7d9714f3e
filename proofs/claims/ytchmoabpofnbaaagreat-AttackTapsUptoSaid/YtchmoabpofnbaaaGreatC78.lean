import Derived.Test.YtchmoabpofnbaaaGreatC72
import Derived.Test.YtchmoabpofnbaaaGreatC73
set_option linter.all false
namespace Go.Proofs.YtchmoabpofnbaaaGreat
open Go Go.Pv
set_option maxRecDepth 100000
set_option maxHeartbeats 20000000
variable [GM]
attribute [local irreducible] bnd br jn oL loopF iq jS gu pO rG divO jF iO jA jm jE jY jU
variable {M:fP}[HM M]
instance c182 {w}{i}{stage}:CC M 182 (xR w i stage) [.agg (jr M w),sI i,sI stage] (λr=>.agg (jr M r)):=by
 have hM:=HM.h (M:=M);refine⟨λr U=>?_⟩;refine CO (fO [31]) Tryz.func182 Tryz.call182 ?_;intro S R hS hR q;unfold xR at U;cbv;refine qZ hS U (cI hM) ?_;intro y1 U;cbv;refine kQ ?_ ?_
 exact d_R
 intro U;cbv;refine qZ hS U (cI hM) ?_;intro y2 U;cbv;refine qZ hS U (cI hM) ?_;intro y3 U;cbv;refine qZ hS U (cI hM) ?_;intro y4 U;cbv;refine nG hS U jJ ?_;intro U;cbv;refine nG hS U jJ ?_;intro U;cbv;refine nG hS U jJ ?_;intro U;cbv;refine nG hS U jJ ?_;intro U;cbv;refine kM hS U jJ rfl ?_;intro j5 _ U;cbv;refine JA hS (e:=eB) U ah ?_;intro x6 U;cbv;refine jc hS hM U rfl jJ ?_;intro x7 U;cbv;refine kM hS U jJ rfl ?_;intro j8 _ U;cbv;refine jc hS hM U rfl jJ ?_;intro x9 U;cbv;refine Gg (fO [31]) [] [1,2,3,6,7,8,9,10,11] (λs10=>f4 113 [sI i,sI stage,.lv 0 0,.lv 1 0,.sl 1 (mI M y2) false,.sl 1 (mI M y3) false,sI y4,.lv 2 0,sI s10.1] [vR (jr M w),vR [.sl 0 [] true,.sl 0 [] true,.sl 0 [] true,.sl 0 [] true,.sl 0 [] true,.sl 0 [] true,.sl 0 [] true,sI 0,sI 0,sI 0,.sb false,sI 0,sI 0,sI 0,sI 0,.si .u64 0,.sl 0 [] true,sI 0,sI 0,.sl 0 [] true,.sl 0 [] true,.sl 0 [] true,.sl 0 [] true,.sl 0 [] true],vR (fD M w.s++[.os 3 0 (S.fE (fJ M s10.2.1)),vg M w.l,.os 4 0 (S.fE (S.Gv (M.m Bool eB w.begun) (S.EX 0 j5) [.sb x6])),.os 5 0 (S.fE (S.Gv (M.m (List Int) (eL M 1 (eI .i64)) w.sets) (S.EX 0 j8) [.sl 1 (mI M y2) false])),.os 6 0 (S.fE (M.m Bool eB s10.2.2))]),aR 17 (fJ M s10.2.1),aR 1 (S.Gv (M.m Bool eB w.begun) (S.EX 0 j5) [.sb x6]),aR 1 (S.Gv (M.m (List Int) (eL M 1 (eI .i64)) w.sets) (S.EX 0 j8) [.sl 1 (mI M y2) false]),aR 1 (M.m Bool eB s10.2.2)]) U ?_
 intro Ik11 k11 s10 hk11 U e he;subst he;unfold BZ at U;cbv;refine kQ ?_ ?_
 intro U;cbv;refine yE [] [1,2,3,6,7,8,9,10,11] (λs13=>f4 113 [sI i,sI stage,.lv 0 0,.lv 1 0,.sl 1 (mI M y2) false,.sl 1 (mI M y3) false,sI y4,.lv 2 0,sI s10.1] [vR (jr M w),vR [.sl 0 [] true,.sl 0 [] true,.sl 0 [] true,.sl 0 [] true,.sl 0 [] true,.sl 0 [] true,.sl 0 [] true,sI 0,sI 0,sI 0,.sb false,sI 0,sI 0,sI 0,sI 0,.si .u64 0,.sl 0 [] true,sI 0,sI 0,.sl 0 [] true,.sl 0 [] true,.sl 0 [] true,.sl 0 [] true,.sl 0 [] true],vR (fD M w.s++[.os 3 0 (S.fE (fJ M s13.1)),vg M w.l,.os 4 0 (S.fE (S.Gv (M.m Bool eB w.begun) (S.EX 0 j5) [.sb x6])),.os 5 0 (S.fE (S.Gv (M.m (List Int) (eL M 1 (eI .i64)) w.sets) (S.EX 0 j8) [.sl 1 (mI M y2) false])),.os 6 0 (S.fE (M.m Bool eB s13.2))]),aR 17 (fJ M s13.1),aR 1 (S.Gv (M.m Bool eB w.begun) (S.EX 0 j5) [.sb x6]),aR 1 (S.Gv (M.m (List Int) (eL M 1 (eI .i64)) w.sets) (S.EX 0 j8) [.sl 1 (mI M y2) false]),aR 1 (M.m Bool eB s13.2)]) U ?_ ?_
 intro Ik14 k14 hk14 U;cbv;refine zT ?_;intro x16 U;cbv;refine qZ hS U (cI hM) ?_;intro y17 U;cbv;refine kQ ?_ ?_
 exact pW
 intro U;cbv;refine CB hS ?_;cbv;refine zT ?_;intro x18 U;cbv;refine zT ?_;intro x19 U;cbv;refine GX hS U (cI hM) ?_;intro y20 U;cbv;refine kM hS U jJ rfl ?_;intro j21 _ U;cbv;refine jc hS hM U rfl jJ ?_;intro x22 U;cbv;refine zT ?_;intro x23 U;cbv;refine qZ hS U (cI hM) ?_;intro y24 U;cbv;refine rf ?_ ?_
 intro U;cbv;refine kM hS U jJ rfl ?_;intro j25 _ U;cbv;refine JA hS (e:=eB) U ah ?_;intro x26 U;cbv;refine jc hS hM U rfl jJ ?_;exact sK
 exact pW
 intro s13 U;cbv;exact sN
 intro U;cbv;cases U;exact hR _ (d_l bG)
end Go.Proofs.YtchmoabpofnbaaaGreat
namespace Go.Proofs.YtchmoabpofnbaaaGreat
open Go Go.Pv Proofs.Tryz
set_option maxRecDepth 100000
set_option maxHeartbeats 20000000
variable [GM]
attribute [local irreducible] bnd br jn oL loopF iq jS gu pO rG divO jF iO jA jm jE jY jU
variable {M:fP}[HM M]
instance c198 {cards}{s}{all}{pe}{used}:CC M 198 (FK cards s all pe used) [kH M cards,.agg (fD M s),iE M all,.agg (jC M pe),jI M used] (λr=>jI M r):=by
 have hM:=HM.h (M:=M);refine⟨λr U=>?_⟩;refine CO fG func198 call198 ?_;intro S R hS hR q;unfold FK at U;cbv;refine jl hS U (cZ hM) (le_eq rfl) ?_;intro y1 U;cbv;refine ai7 hS [(3,false),(0,true)] rfl ?_;cbv;refine iR hS U (cZ hM) ah ah rfl rfl rfl rfl ?_;exact SQ
instance c374 {c}{w}:CC M 374 (BK c w) [.agg (nH M c),.agg (jy M w)] (λr=>.sl 1 (mI M r) false):=by
 have:=ct 8 [2,3,22] (λ_ s=>je [(22,.sb s)]);have:=ct 22 [2,5,52] (λ_ s=>je [(52,.sb s)]);exact wA (fO [8,22]) func374 call374
instance c333 {w}{i}{stage}:CC M 333 (lV w i stage) [.pp (yO M w),sI i,sI stage] (λr=>.agg (ny M r)):=by
 exact wA fG func333 call333
instance c382 {l}:CC M 382 (Q7 l) [PZ M l] (λr=>.sb r):=by
 exact wA fG func382 call382
end Go.Proofs.YtchmoabpofnbaaaGreat
