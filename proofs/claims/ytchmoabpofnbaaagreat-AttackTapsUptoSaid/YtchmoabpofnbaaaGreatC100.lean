import Derived.Test.YtchmoabpofnbaaaGreatC97
set_option linter.all false
namespace Go.Proofs.YtchmoabpofnbaaaGreat
open Go Go.Pv
set_option maxRecDepth 100000
set_option maxHeartbeats 20000000
variable [GM]
attribute [local irreducible] bnd br jn oL loopF iq jS gu pO rG divO jF iO jA jm jE jY jU
variable {M:fP}[HM M]
instance c30 {cards}{s}:CC M 30 (vF cards s) [kH M cards,.agg (fD M s)] (λr=>.sb r):=by
 have:=ct 2 [0,3,58] (λ_ s=>je [(58,.sb s)]);have:=lo 4 [0,3,5] (λ_ s=>je [(5,sI s)]);exact wA (fO [2]) Tryz.func30 Tryz.call30
theorem s33 {M:fP}(hM:M=ku){k:fH}{cards:List gq}{s:GState}{r:GState×Bool×fH}(U:nK k cards s=some r):Pv.FnS Tryz.prog glF 33 [.lv 0 0,kH M cards,.agg (fD M s)] [(0,(vR (jL M k)))] 1 (λuu ss nn=>uu=.Eu [.agg (fD M r.1),.sb r.2.1]/\ss=[(0,(vR (jL M r.2.2)))]/\nn=1):=by
 haveI:HM M:=⟨hM⟩
 refine yX (T:=(Fg 1 [31,45] [])) (gp 1 [31,45] []) wf Tryz.func33 rfl Tryz.call33 rfl ?_;intro S R hS hR;have q:=sf hM hS;unfold nK at U;cbv;refine qZ hS U (cI hM) ?_;intro y1 U;cbv;refine qZ hS U (cI hM) ?_;intro y2 U;cbv;refine iR hS U (cZ hM) gX gX rfl rfl rfl rfl ?_;intro y3 U;cbv;refine uj hS U (cZ hM) ah ah rfl rfl rfl rfl ?_;intro y4 he U;have q:=And.intro q (mY ajk he).symm;cbv;refine Gg (gp 1 [31,45] []) [.tR 33,.tO 11 3] [0,1,5,6,8,9,11,33,34,35] (λs5=>f4 100 [.lv 0 0,kH M cards,.lv 1 0,.lv 2 0,iE M y1,jI M y2,.os 3 0 (S.fE (jq M s5.2.1)),.os 4 0 (S.fE (mI M s5.2.2)),sI (S.yf (M.n Int y3.1)),sI s5.1] [vR (jL M y3.2),vR (fD M s),vR [.sl 0 [] true,.sl 0 [] true,.sl 0 [] true,.sl 0 [] true,.sl 0 [] true,.sl 0 [] true,.sl 0 [] true,sI 0,sI 0,sI 0,.sb false,sI 0,sI 0,sI 0,sI 0,.si .u64 0,.sl 0 [] true,sI 0,sI 0],aR 3 (jq M s5.2.1),aR 1 (mI M s5.2.2)]) U ?_;intro Ik6 k6 s5 hk6 U e he;subst he;unfold oV at U;cbv;refine kQ ?_ ?_
 intro U;cbv;refine kM hS U jJ rfl ?_;intro j8 _ U;cbv;refine jc hS hM U rfl jJ ?_;intro x9 U;cbv;refine zT ?_;intro x10 U;cbv;refine nG hS U jJ ?_;exact pW
 intro U;cbv;refine yE [.tF 11] [0,1,5,6,8,11] (λs11=>f4 100 [.lv 0 0,kH M cards,.lv 1 0,.lv 2 0,iE M y1,jI M s11] [vR (jL M y3.2),vR (fD M s),vR [.sl 0 [] true,.sl 0 [] true,.sl 0 [] true,.sl 0 [] true,.sl 0 [] true,.sl 0 [] true,.sl 0 [] true,sI 0,sI 0,sI 0,.sb false,sI 0,sI 0,sI 0,sI 0,.si .u64 0,.sl 0 [] true,sI 0,sI 0]]) U ?_ ?_
 intro Ik12 k12 hk12 U;cbv;refine AV hS U (cI hM) JB (λ_=>rfl) ?_;intro y14 U;cbv;refine kQ ?_ ?_
 intro U;cbv;refine kQ ?_ ?_
 intro U;cbv;refine qZ hS U (cI hM) ?_;intro y15 U;cbv;cases U;exact hR _ _ _ gX gX rfl
 intro U;cbv;refine qZ hS U (cI hM) ?_;exact sK
 exact pW
 intro s11 U;cbv;refine qZ hS U (cI hM) ?_;intro y17 U;cbv;refine Gg (gp 1 [31,45] []) [] [0,1,5,6,8,11,14,63,64,65] (λs18=>f4 100 [.lv 0 0,kH M cards,.lv 1 0,.lv 2 0,iE M y1,jI M s11,.lv 3 0,jI M s11,sI (S.len (jq M s11)),sI s18.2.2] [vR (jL M s18.1),vR (fD M s18.2.1),vR [.sl 0 [] true,.sl 0 [] true,.sl 0 [] true,.sl 0 [] true,.sl 0 [] true,.sl 0 [] true,.sl 0 [] true,sI 0,sI 0,sI 0,.sb false,sI 0,sI 0,sI 0,sI 0,.si .u64 0,.sl 0 [] true,sI 0,sI 0],vR (fD M s)]) U ?_;intro Ik19 k19 s18 hk19 U e he;subst he;unfold ug at U;cbv;refine kQ ?_ ?_
 intro U;cbv;refine yE [] [0,1,5,6,8,11,14,63,64,65] (λs21=>f4 100 [.lv 0 0,kH M cards,.lv 1 0,.lv 2 0,iE M y1,jI M s11,.lv 3 0,jI M s11,sI (S.len (jq M s11)),sI s18.2.2] [vR (jL M s21.1),vR (fD M s21.2),vR [.sl 0 [] true,.sl 0 [] true,.sl 0 [] true,.sl 0 [] true,.sl 0 [] true,.sl 0 [] true,.sl 0 [] true,sI 0,sI 0,sI 0,.sb false,sI 0,sI 0,sI 0,sI 0,.si .u64 0,.sl 0 [] true,sI 0,sI 0],vR (fD M s)]) U ?_ ?_
 intro Ik22 k22 hk22 U;cbv;refine zT ?_;intro x24 U;cbv;refine qZ hS U (cI hM) ?_;intro y25 U;cbv;refine kQ ?_ ?_
 intro U;cbv;refine iR hS U (cZ hM) gX gX rfl rfl rfl rfl ?_;exact sK
 exact pW
 intro s21 U;cbv;exact sN
 intro U;cbv;refine Gg (gp 1 [31,45] []) [] [0,1,5,6,83,84,85] (λs27=>f4 100 [.lv 0 0,kH M cards,.lv 1 0,.lv 2 0,jI M s11,sI (S.len (jq M s11)),sI s27.2.2] [vR (jL M s27.1),vR (fD M s27.2.1),vR [.sl 0 [] true,.sl 0 [] true,.sl 0 [] true,.sl 0 [] true,.sl 0 [] true,.sl 0 [] true,.sl 0 [] true,sI 0,sI 0,sI 0,.sb false,sI 0,sI 0,sI 0,sI 0,.si .u64 0,.sl 0 [] true,sI 0,sI 0]]) U ?_;intro Ik28 k28 s27 hk28 U e he;subst he;unfold BP at U;cbv;refine kQ ?_ ?_
 intro U;cbv;refine zT ?_;intro x30 U;cbv;refine iR hS U (cZ hM) gX gX rfl rfl rfl rfl ?_;exact sK
 intro U;cbv;cases U;exact hR _ _ _ gX gX rfl
instance is33 {k}{cards}{s}:CZ M 33 (nK k cards s) [.lv 0 0,kH M cards,.agg (fD M s)] [(0,(vR (jL M k)))] 1 (λr=>.Eu [.agg (fD M r.1),.sb r.2.1]) (λr=>[(0,(vR (jL M r.2.2)))]) 1:=⟨λ_ h=>s33 HM.h h⟩
end Go.Proofs.YtchmoabpofnbaaaGreat
