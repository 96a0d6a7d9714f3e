import Derived.Test.YtchmoabpofnbaaaGreatC97
set_option linter.all false
namespace Go.Proofs.YtchmoabpofnbaaaGreat
open Go Go.Pv
set_option maxRecDepth 100000
set_option maxHeartbeats 20000000
variable [GM]
attribute [local irreducible] bnd br jn oL loopF iq jS gu pO rG divO jF iO jA jm jE jY jU
variable {M:fP}[HM M]
theorem ami {M:fP}(hM:M=ku){k:fH}{J:List gq}{s:GState}{r:GState×Bool×fH}(U:xe k J s=some r):Pv.FnS Tryz.prog glF 33 [.lv 0 0,kH M J,.agg (fD M s)] [(0,(vR ([.os 1 0 (M.n (List Int) k.answers),sI k.used]++(jD M k.pending++[.sb k.waits,.sb k.bad])))),(1,(aR 1 (M.m (List Int) (eL M 1 (eI .i64)) k.answers)))] 2 (λuu ss nn=>uu=.Eu [.agg (fD M r.1),.sb r.2.1]/\ss=[(0,(vR ([.os 1 0 (M.n (List Int) r.2.2.answers),sI r.2.2.used]++(jD M r.2.2.pending++[.sb r.2.2.waits,.sb r.2.2.bad])))),(1,(aR 1 (M.m (List Int) (eL M 1 (eI .i64)) r.2.2.answers)))]/\nn=2):=by
 haveI:HM M:=⟨hM⟩
 refine xw (T:=(Fg 2 [31,45] [])) (gp 2 [31,45] []) wf Tryz.func33 rfl Tryz.call33 rfl [] ?_;intro S R hS hR;have q:=sf hM hS;unfold xe at U;cbv;refine qZ hS U (cI hM) ?_;intro y1 U;cbv;refine qZ hS U (cI hM) ?_;intro y2 U;cbv;refine iR hS U (cZ hM) gX gX rfl rfl rfl rfl ?_;intro y3 U;cbv;refine uj hS U (cZ hM) ah ah rfl rfl rfl rfl ?_;intro y4 t U;have q:=And.intro q (mY ajk t).symm;cbv;refine Gg (gp 2 [31,45] []) [.tR 33,.tO 11 3] [0,1,5,6,8,9,11,33,34,35] (λs5=>f4 100 [.lv 0 0,kH M J,.lv 2 0,.lv 3 0,iE M y1,jI M y2,.os 4 0 (S.fE (jq M s5.2.1)),.os 5 0 (S.fE (mI M s5.2.2)),sI (S.yf (M.n Int y3.1)),sI s5.1] [vR ([.os 1 0 (S.fE (M.m (List Int) (eL M 1 (eI .i64)) y3.2.answers)),sI y3.2.used]++(jD M y3.2.pending++[.sb y3.2.waits,.sb y3.2.bad])),aR 1 (M.m (List Int) (eL M 1 (eI .i64)) y3.2.answers),vR (fD M s),vR [.sl 0 [] true,.sl 0 [] true,.sl 0 [] true,.sl 0 [] true,.sl 0 [] true,.sl 0 [] true,.sl 0 [] true,sI 0,sI 0,sI 0,.sb false,sI 0,sI 0,sI 0,sI 0,.si .u64 0,.sl 0 [] true,sI 0,sI 0],aR 3 (jq M s5.2.1),aR 1 (mI M s5.2.2)]) U ?_;intro Ik6 k6 s5 hk6 U e t;subst t;unfold Ep at U;cbv;refine kQ ?_ ?_
 intro U;cbv;refine kM hS U jJ rfl ?_;intro j8 _ U;cbv;refine jc hS hM U rfl jJ ?_;intro x9 U;cbv;refine zT ?_;intro x10 U;cbv;refine nG hS U jJ ?_;exact pW
 intro U;cbv;refine yE [.tF 11] [0,1,5,6,8,11] (λI=>f4 100 [.lv 0 0,kH M J,.lv 2 0,.lv 3 0,iE M y1,jI M I] [vR ([.os 1 0 (S.fE (M.m (List Int) (eL M 1 (eI .i64)) y3.2.answers)),sI y3.2.used]++(jD M y3.2.pending++[.sb y3.2.waits,.sb y3.2.bad])),aR 1 (M.m (List Int) (eL M 1 (eI .i64)) y3.2.answers),vR (fD M s),vR [.sl 0 [] true,.sl 0 [] true,.sl 0 [] true,.sl 0 [] true,.sl 0 [] true,.sl 0 [] true,.sl 0 [] true,sI 0,sI 0,sI 0,.sb false,sI 0,sI 0,sI 0,sI 0,.si .u64 0,.sl 0 [] true,sI 0,sI 0]]) U ?_ ?_
 intro Ik12 k12 hk12 U;cbv;refine AV hS U (cI hM) JB (λ_=>rfl) ?_;intro y14 U;cbv;refine kQ ?_ ?_
 intro U;cbv;refine kQ ?_ ?_
 intro U;cbv;refine qZ hS U (cI hM) ?_;intro y15 U;cbv;cases U;exact hR _ _ _ gX gX rfl
 intro U;cbv;refine qZ hS U (cI hM) ?_;exact sK
 exact pW
 intro I U;cbv;refine qZ hS U (cI hM) ?_;intro y17 U;cbv;refine Gg (gp 2 [31,45] []) [] [0,1,5,6,8,11,14,63,64,65] (λC=>f4 100 [.lv 0 0,kH M J,.lv 2 0,.lv 3 0,iE M y1,jI M I,.lv 4 0,jI M I,sI (S.len (jq M I)),sI C.2] [vR ([.os 1 0 (S.fE (M.m (List Int) (eL M 1 (eI .i64)) y3.2.answers)),sI y3.2.used]++(jD M y3.2.pending++[.sb y3.2.waits,.sb y3.2.bad])),aR 1 (M.m (List Int) (eL M 1 (eI .i64)) y3.2.answers),vR (fD M C.1),vR [.sl 0 [] true,.sl 0 [] true,.sl 0 [] true,.sl 0 [] true,.sl 0 [] true,.sl 0 [] true,.sl 0 [] true,sI 0,sI 0,sI 0,.sb false,sI 0,sI 0,sI 0,sI 0,.si .u64 0,.sl 0 [] true,sI 0,sI 0],vR (fD M s)]) U ?_;intro Ik19 k19 C hk19 U e t;subst t;unfold Eo at U;cbv;refine kQ ?_ ?_
 intro U;cbv;refine yE [] [0,1,5,6,8,11,14,63,64,65] (λs21=>f4 100 [.lv 0 0,kH M J,.lv 2 0,.lv 3 0,iE M y1,jI M I,.lv 4 0,jI M I,sI (S.len (jq M I)),sI C.2] [vR ([.os 1 0 (S.fE (M.m (List Int) (eL M 1 (eI .i64)) y3.2.answers)),sI y3.2.used]++(jD M y3.2.pending++[.sb y3.2.waits,.sb y3.2.bad])),aR 1 (M.m (List Int) (eL M 1 (eI .i64)) y3.2.answers),vR (fD M s21),vR [.sl 0 [] true,.sl 0 [] true,.sl 0 [] true,.sl 0 [] true,.sl 0 [] true,.sl 0 [] true,.sl 0 [] true,sI 0,sI 0,sI 0,.sb false,sI 0,sI 0,sI 0,sI 0,.si .u64 0,.sl 0 [] true,sI 0,sI 0],vR (fD M s)]) U ?_ ?_
 intro Ik22 k22 hk22 U;cbv;refine zT ?_;intro x24 U;cbv;refine qZ hS U (cI hM) ?_;intro y25 U;cbv;refine kQ ?_ ?_
 intro U;cbv;refine iR hS U (cZ hM) gX gX rfl rfl rfl rfl ?_;exact sK
 exact pW
 intro s21 U;cbv;exact sN
 intro U;cbv;refine Gg (gp 2 [31,45] []) [] [0,1,5,6,83,84,85] (λg=>f4 100 [.lv 0 0,kH M J,.lv 2 0,.lv 3 0,jI M I,sI (S.len (jq M I)),sI g.2] [vR ([.os 1 0 (S.fE (M.m (List Int) (eL M 1 (eI .i64)) y3.2.answers)),sI y3.2.used]++(jD M y3.2.pending++[.sb y3.2.waits,.sb y3.2.bad])),aR 1 (M.m (List Int) (eL M 1 (eI .i64)) y3.2.answers),vR (fD M g.1),vR [.sl 0 [] true,.sl 0 [] true,.sl 0 [] true,.sl 0 [] true,.sl 0 [] true,.sl 0 [] true,.sl 0 [] true,sI 0,sI 0,sI 0,.sb false,sI 0,sI 0,sI 0,sI 0,.si .u64 0,.sl 0 [] true,sI 0,sI 0]]) U ?_;intro Ik28 k28 g hk28 U e t;subst t;unfold En at U;cbv;refine kQ ?_ ?_
 intro U;cbv;refine zT ?_;intro x30 U;cbv;refine iR hS U (cZ hM) gX gX rfl rfl rfl rfl ?_;exact sK
 intro U;cbv;cases U;exact hR _ _ _ gX gX rfl
instance am8 {k}{cards}{s}:CZ M 33 (xe k cards s) [.lv 0 0,kH M cards,.agg (fD M s)] [(0,(vR ([.os 1 0 (M.n (List Int) k.answers),sI k.used]++(jD M k.pending++[.sb k.waits,.sb k.bad])))),(1,(aR 1 (M.m (List Int) (eL M 1 (eI .i64)) k.answers)))] 2 (λr=>.Eu [.agg (fD M r.1),.sb r.2.1]) (λr=>[(0,(vR ([.os 1 0 (M.n (List Int) r.2.2.answers),sI r.2.2.used]++(jD M r.2.2.pending++[.sb r.2.2.waits,.sb r.2.2.bad])))),(1,(aR 1 (M.m (List Int) (eL M 1 (eI .i64)) r.2.2.answers)))]) 2:=⟨λ_ h=>ami HM.h h⟩
end Go.Proofs.YtchmoabpofnbaaaGreat
