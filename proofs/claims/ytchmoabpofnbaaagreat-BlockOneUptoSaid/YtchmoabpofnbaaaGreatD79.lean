import Derived.Test.YtchmoabpofnbaaaGreatD73
import Derived.Test.YtchmoabpofnbaaaGreatD74
set_option linter.all false
namespace Go.Proofs.YtchmoabpofnbaaaGreat
open Go Go.Pv
set_option maxRecDepth 100000
set_option maxHeartbeats 20000000
variable [GM]
attribute [local irreducible] bnd br jn pI eH iI kD gW qx sG divO jU jc jM jD jR kK kE
variable {M:gm}[HM M]
instance c182 {w}{i}{stage}:CC M 182 (su w i stage) [.agg (jG M w),sI i,sI stage] (λr=>.agg (jG M r)):=by
 have hM:=HM.h (M:=M);refine⟨λr U=>?_⟩;refine EN (fZ [31]) Tryz.func182 Tryz.call182 ?_;intro S R O hR q;unfold su at U;cbv;refine wo O U (cI hM) ?_;intro y1 U;cbv;refine mP ?_ ?_
 exact d_R
 intro U;cbv;refine wo O U (cI hM) ?_;intro y2 U;cbv;refine wo O U (cI hM) ?_;intro y3 U;cbv;refine wo O U (cI hM) ?_;intro y4 U;cbv;refine nM O U jW ?_;intro U;cbv;refine nM O U jW ?_;intro U;cbv;refine nM O U jW ?_;intro U;cbv;refine nM O U jW ?_;intro U;cbv;refine lh O U jW rfl ?_;intro j5 _ U;cbv;refine LV O (e:=eB) U ah ?_;intro x6 U;cbv;refine jv O hM U rfl jW ?_;intro x7 U;cbv;refine lh O U jW rfl ?_;intro j8 _ U;cbv;refine jv O hM U rfl jW ?_;intro x9 U;cbv;refine Ji (fZ [31]) [] [1,2,3,6,7,8,9,10,11] (λs10=>f4 113 [sI i,sI stage,.lv 0 0,.lv 1 0,.sl 1 (mI M y2) false,.sl 1 (mI M y3) false,sI y4,.lv 2 0,sI s10.1] [vR (jG M w),vR [.sl 0 [] true,.sl 0 [] true,.sl 0 [] true,.sl 0 [] true,.sl 0 [] true,.sl 0 [] true,.sl 0 [] true,sI 0,sI 0,sI 0,.sb false,sI 0,sI 0,sI 0,sI 0,.si .u64 0,.sl 0 [] true,sI 0,sI 0,.sl 0 [] true,.sl 0 [] true,.sl 0 [] true,.sl 0 [] true,.sl 0 [] true],vR (fM M w.s++[.os 3 0 (S.fE (fQ M s10.2.1)),vW M w.l,.os 4 0 (S.fE (S.Hg (M.m Bool eB w.begun) (S.FY 0 j5) [.sb x6])),.os 5 0 (S.fE (S.Hg (M.m (List Int) (eL M 1 (eI .i64)) w.sets) (S.FY 0 j8) [.sl 1 (mI M y2) false])),.os 6 0 (S.fE (M.m Bool eB s10.2.2))]),aR 17 (fQ M s10.2.1),aR 1 (S.Hg (M.m Bool eB w.begun) (S.FY 0 j5) [.sb x6]),aR 1 (S.Hg (M.m (List Int) (eL M 1 (eI .i64)) w.sets) (S.FY 0 j8) [.sl 1 (mI M y2) false]),aR 1 (M.m Bool eB s10.2.2)]) U ?_
 intro Ik11 k11 s10 hk11 U e he;subst he;unfold sW at U;cbv;refine mP ?_ ?_
 intro U;cbv;refine DJ [] [1,2,3,6,7,8,9,10,11] (λs13=>f4 113 [sI i,sI stage,.lv 0 0,.lv 1 0,.sl 1 (mI M y2) false,.sl 1 (mI M y3) false,sI y4,.lv 2 0,sI s10.1] [vR (jG M w),vR [.sl 0 [] true,.sl 0 [] true,.sl 0 [] true,.sl 0 [] true,.sl 0 [] true,.sl 0 [] true,.sl 0 [] true,sI 0,sI 0,sI 0,.sb false,sI 0,sI 0,sI 0,sI 0,.si .u64 0,.sl 0 [] true,sI 0,sI 0,.sl 0 [] true,.sl 0 [] true,.sl 0 [] true,.sl 0 [] true,.sl 0 [] true],vR (fM M w.s++[.os 3 0 (S.fE (fQ M s13.1)),vW M w.l,.os 4 0 (S.fE (S.Hg (M.m Bool eB w.begun) (S.FY 0 j5) [.sb x6])),.os 5 0 (S.fE (S.Hg (M.m (List Int) (eL M 1 (eI .i64)) w.sets) (S.FY 0 j8) [.sl 1 (mI M y2) false])),.os 6 0 (S.fE (M.m Bool eB s13.2))]),aR 17 (fQ M s13.1),aR 1 (S.Hg (M.m Bool eB w.begun) (S.FY 0 j5) [.sb x6]),aR 1 (S.Hg (M.m (List Int) (eL M 1 (eI .i64)) w.sets) (S.FY 0 j8) [.sl 1 (mI M y2) false]),aR 1 (M.m Bool eB s13.2)]) U ?_ ?_
 intro Ik14 k14 hk14 U;cbv;refine Kr ?_;intro x16 U;cbv;refine wo O U (cI hM) ?_;intro y17 U;cbv;refine mP ?_ ?_
 exact tY
 intro U;cbv;refine Fa O ?_;cbv;refine Kr ?_;intro x18 U;cbv;refine Kr ?_;intro x19 U;cbv;refine Kq O U (cI hM) ?_;intro y20 U;cbv;refine lh O U jW rfl ?_;intro j21 _ U;cbv;refine jv O hM U rfl jW ?_;intro x22 U;cbv;refine Kr ?_;intro x23 U;cbv;refine wo O U (cI hM) ?_;intro y24 U;cbv;refine xH ?_ ?_
 intro U;cbv;refine lh O U jW rfl ?_;intro j25 _ U;cbv;refine LV O (e:=eB) U ah ?_;intro x26 U;cbv;refine jv O hM U rfl jW ?_;exact yX
 exact tY
 intro s13 U;cbv;exact uj
 intro U;cbv;cases U;exact hR _ (d_l aZ)
end Go.Proofs.YtchmoabpofnbaaaGreat
namespace Go.Proofs.YtchmoabpofnbaaaGreat
open Go Go.Pv Proofs.Tryz
set_option maxRecDepth 100000
set_option maxHeartbeats 20000000
variable [GM]
attribute [local irreducible] bnd br jn pI eH iI kD gW qx sG divO jU jc jM jD jR kK kE
variable {M:gm}[HM M]
instance c198 {cards}{s}{all}{pe}{used}:CC M 198 (GH cards s all pe used) [lQ M cards,.agg (fM M s),kH M all,.agg (jT M pe),pX M used] (λr=>pX M r):=by
 have hM:=HM.h (M:=M);refine⟨λr U=>?_⟩;refine EN fG func198 call198 ?_;intro S R O hR q;unfold GH at U;cbv;refine jC O U (cZ hM) (le_eq rfl) ?_;intro y1 U;cbv;refine akC O [(3,false),(0,true)] rfl ?_;cbv;refine jE O U (cZ hM) ah ah rfl rfl rfl rfl ?_;exact adz
instance c374 {c}{w}:CC M 374 (C9 c w) [.agg (nY M c),.agg (jK M w)] (λr=>.sl 1 (mI M r) false):=by
 have:=ct 8 [2,3,22] (λ_ s=>jf [(22,.sb s)]);have:=ct 22 [2,5,52] (λ_ s=>jf [(52,.sb s)]);exact wA (fZ [8,22]) func374 call374
instance c333 {w}{i}{stage}:CC M 333 (mD w i stage) [.pp (zO M w),sI i,sI stage] (λr=>.agg (nR M r)):=by
 exact wA fG func333 call333
instance c382 {l}:CC M 382 (SC l) [OH M l] (λr=>.sb r):=by
 exact wA fG func382 call382
end Go.Proofs.YtchmoabpofnbaaaGreat
