import Derived.Test.YtlacmdnhabblcaaGreatB21
set_option linter.all false
namespace Go.Proofs.YtlacmdnhabblcaaGreat
open Go Go.Pv Proofs.Tryz
set_option maxRecDepth 100000
set_option maxHeartbeats 2000000
section
variable {M:kM}(hM:M=jT)
include hM
theorem c342 {pe:jX}{specs:Int}{r:Bool}(O:Ya pe specs=some r):iI 342 [.agg (mf M pe),sI specs] (λu=>u=.sb r):=by
 refine jB (je [12,13,14,23,29,35,41,47]) func342 call342 ?_;intro S R hS hR;have q:=sf hM hS;unfold Ya at O;cbv;refine jK hS O (λ_=>c406 hM) ?_;intro y1 O;cbv;refine jc ?_ ?_
 exact jr
 intro O;cbv;replace O:=pO O;refine jk hS [] [2,5] (λs3=>f3 138 [(2,.lv 0 0),(5,.sb s3)] [vR (mf M pe)]) O ?_ ?_
 intro Ik4 k4 hk4 O;cbv;refine jK hS O (λ_=>acV hM) ?_;intro y6 O;cbv;refine jA hS O rfl ?_ ?_
 intro O;cbv;refine jK hS O (λ_=>c408 hM) ?_;exact lu
 exact jv
 intro s3 O;cbv;refine jk hS [] [2,5,6] (λs8=>f3 138 [(2,.lv 0 0),(5,.sb s3),(6,.sb s8)] [vR (mf M pe)]) O ?_ ?_
 intro Ik9 k9 hk9 O;cbv;refine jc ?_ ?_
 exact jv
 intro O;cbv;refine jK hS O (λ_=>acV hM) ?_;intro y11 O;cbv;refine jA hS O rfl ?_ ?_
 intro O;cbv;refine jc ?_ ?_<;>exact jv
 exact jv
 intro s8 O;cbv;refine jk hS [] [2,5,6,7] (λs12=>f3 138 [(2,.lv 0 0),(5,.sb s3),(6,.sb s8),(7,.sb s12)] [vR (mf M pe)]) O ?_ ?_
 intro Ik13 k13 hk13 O;cbv;refine jc ?_ ?_
 exact jv
 intro O;cbv;refine jK hS O (λ_=>acV hM) ?_;intro y15 O;cbv;refine jA hS O rfl ?_ ?_
 intro O;cbv;refine jK hS O (λ_=>aoB hM) ?_;exact lu
 exact jv
 intro s12 O;cbv;refine jk hS [] [2,5,6,7,8] (λs17=>f3 138 [(2,.lv 0 0),(5,.sb s3),(6,.sb s8),(7,.sb s12),(8,.sb s17)] [vR (mf M pe)]) O ?_ ?_
 intro Ik18 k18 hk18 O;cbv;refine jK hS O (λ_=>acV hM) ?_;intro y20 O;cbv;refine jA hS O rfl ?_ ?_
 intro O;cbv;refine jK hS O (λ_=>c183 hM) ?_;exact lu
 exact jv
 intro s17 O;cbv;replace O:=pO O;refine jk hS [] [2,5,6,7,8,9] (λs23=>f3 138 [(2,.lv 0 0),(5,.sb s3),(6,.sb s8),(7,.sb s12),(8,.sb s17),(9,.sb s23)] [vR (mf M pe)]) O ?_ ?_
 intro Ik24 k24 hk24 O;cbv;refine jK hS O (λ_=>acV hM) ?_;intro y26 O;cbv;refine jA hS O rfl ?_ ?_
 intro O;cbv;refine jK hS O (λ_=>c410 hM) ?_;exact lu
 exact jv
 intro s23 O;cbv;refine jk hS [] [2,5,6,7,8,9,10] (λs28=>f3 138 [(2,.lv 0 0),(5,.sb s3),(6,.sb s8),(7,.sb s12),(8,.sb s17),(9,.sb s23),(10,.sb s28)] [vR (mf M pe)]) O ?_ ?_
 intro Ik29 k29 hk29 O;cbv;refine jK hS O (λ_=>acV hM) ?_;intro y31 O;cbv;refine jA hS O rfl ?_ ?_
 intro O;cbv;refine jK hS O (λ_=>c411 hM) ?_;exact lu
 exact jv
 intro s28 O;cbv;replace O:=pO O;refine jk hS [] [2,5,6,7,8,9,10,11] (λs34=>f3 138 [(2,.lv 0 0),(5,.sb s3),(6,.sb s8),(7,.sb s12),(8,.sb s17),(9,.sb s23),(10,.sb s28),(11,.sb s34)] [vR (mf M pe)]) O ?_ ?_
 intro Ik35 k35 hk35 O;cbv;refine jK hS O (λ_=>acV hM) ?_;intro y37 O;cbv;refine jA hS O rfl ?_ ?_
 intro O;cbv;refine jc ?_ ?_
 intro O;cbv;refine jK hS O (λ_=>c412 hM) ?_;exact lu
 exact jv
 exact jv
 intro s34 O;cbv;replace O:=pO O;refine jk hS [] [5,6,7,8,9,10,11,12] (λs40=>f3 138 [(5,.sb s3),(6,.sb s8),(7,.sb s12),(8,.sb s17),(9,.sb s23),(10,.sb s28),(11,.sb s34),(12,.sb s40)] []) O ?_ ?_
 intro Ik41 k41 hk41 O;cbv;refine jK hS O (λ_=>acV hM) ?_;intro y43 O;cbv;refine jA hS O rfl ?_ ?_
 intro O;cbv;refine jK hS O (λ_=>c413 hM) ?_;exact lu
 exact jv
 intro s40 O;cbv;refine jA hS O rfl ?_ ?_
 intro O;cbv;refine jA hS O rfl ?_ ?_
 intro O;cbv;refine jA hS O rfl ?_ ?_
 intro O;cbv;refine jA hS O rfl ?_ ?_
 intro O;cbv;refine jA hS O rfl ?_ ?_
 intro O;cbv;refine jA hS O rfl ?_ ?_
 intro O;cbv;refine jA hS O rfl ?_ ?_<;>exact jr
 exact jr
 exact jr
 exact jr
 exact jr
 exact jr
 exact jr
theorem c202 {w:jP}{i:Int}{j:Int}{stage:Int}{r:Bool}(O:LC w i j stage=some r):iI 202 [.agg (kL M w),sI i,sI j,sI stage] (λu=>u=.sb r):=by
 refine jB jm func202 call202 ?_;intro S R hS hR;have q:=sf hM hS;unfold LC at O;cbv;refine jc ?_ ?_
 exact jr
 intro O;cbv;refine jK hS O (λ_=>c138 hM) ?_;intro y1 O;cbv;refine rD hS ?_;cbv;refine rZ hS O (λ_=>akQ hM) ?_;intro y2 O;cbv;refine rZ hS O (λ_=>akQ hM) ?_;intro y3 O;cbv;refine jc ?_ ?_
 exact jr
 intro O;cbv;refine rZ hS O (λ_=>am4 hM) ?_;intro y4 O;cbv;refine rZ hS O (λ_=>am4 hM) ?_;intro y5 O;cbv;refine rZ hS O (λ_=>c32 hM) ?_;intro y6 O;cbv;refine jc ?_ ?_
 exact jr
 intro O;cbv;refine rZ hS O (λ_=>c206 hM) ?_;intro y7 O;cbv;refine rZ hS O (λ_=>c206 hM) ?_;intro y8 O;cbv;refine rZ hS O (λ_=>c32 hM) ?_;exact kS
end
section
variable {M:kM}(hM:M=jT)
include hM
theorem c137 {w:jP}{left:List Int}{stage:Int}{r:Int}(O:PL w left stage=some r):iI 137 [.agg (kL M w),.sl 1 (mI M left) false,sI stage] (λu=>u=sI r):=by
 refine jB (aaW [] 2) func137 call137 ?_;intro S R hS hR;have q:=sf hM hS;have q1:=sfh1 hM hS;have q2:=sfh2 hM hS;unfold PL at O;cbv;refine akw hS (aaW [] 2) wf [] [1,2,3,7,8,9] (λs1 (g3:(Nat->Hdr))=>f3 76 [(1,.sl 1 (mI M left) false),(2,sI stage),(3,.lv 0 0),(7,.os 1 0 (S.jD (mI M s1.2.1))),(8,.os 2 0 (S.jD (M.h g3 (List Bool) (eO M 1 eB) s1.2.2))),(9,sI s1.1)] [vR (kL M w),aR 1 (mI M s1.2.1),some (.pU 1 (M.h g3 (List Bool) (eO M 1 eB) s1.2.2))]) ((λ_=>hd0)) O bM ?_;intro Ik2 k2 s1 g3 hk2 O e he;subst he;unfold Jv at O;cbv;refine jA hS O aC ?_ ?_
 ·intro O;cbv;refine kV ?_;intro x4 O;cbv;refine jM hS O aC ?_;intro O;cbv;refine ZP hS O aC aC ?_;intro j5 O;cbv;refine Dw hS (e:=eB) O (by (try simp only[q1])<;>(try simp only[q2,eO,q]);repeat' constructor) ?_;intro x6 O;cbv;refine l_nu hS ?_;intro h7;cbv;refine jM hS O aC ?_;intro O;cbv;exact⟨_,((M.up g3 s1.2.2.length h7)),O,by rw[hk2]<;>(conv=>lhs;cbv)<;>(try simp only[q1])<;>(try simp only[q2,eO,q])<;>(try rfl)<;>(try simp only[eL,q])<;>(try rfl)⟩
 intro O;cbv;refine adY hS (aaW [] 2) wf [] [1,2,3,7,8,10] (λs8=>f3 76 [(1,.sl 1 (mI M left) false),(2,sI stage),(3,.lv 0 0),(7,.os 1 0 (S.jD (mI M s1.2.1))),(8,.os 2 0 (S.jD (M.h g3 (List Bool) (eO M 1 eB) s8.2))),(10,sI s8.1)] [vR (kL M w),aR 1 (mI M s1.2.1),some (.pU 1 (M.h g3 (List Bool) (eO M 1 eB) s8.2))]) O bM ?_;intro Ik9 k9 s8 hk9 O e he;subst he;unfold Ju at O;cbv;refine jA hS O aC ?_ ?_
 intro O;cbv;refine adY hS (aaW [] 2) wf [] [1,2,3,7,8,10,11] (λs11=>f3 76 [(1,.sl 1 (mI M left) false),(2,sI stage),(3,.lv 0 0),(7,.os 1 0 (S.jD (mI M s1.2.1))),(8,.os 2 0 (S.jD (M.h g3 (List Bool) (eO M 1 eB) s11.2))),(10,sI s8.1),(11,sI s11.1)] [vR (kL M w),aR 1 (mI M s1.2.1),some (.pU 1 (M.h g3 (List Bool) (eO M 1 eB) s11.2))]) O bM ?_;intro Ik12 k12 s11 hk12 O e he;subst he;unfold Jt at O;cbv;refine jA hS O aC ?_ ?_
 intro O;cbv;refine rD hS ?_;cbv;refine kV ?_;intro x14 O;cbv;refine wM hS O aC rfl ?_;intro j15 _ O;cbv;refine ahX hS hM O rfl aC ?_;intro x16 O;cbv;refine kV ?_;intro x17 O;cbv;refine kV ?_;intro x18 O;cbv;refine kV ?_;intro x19 O;cbv;refine rZ hS O (λ_=>c202 hM) ?_;intro y20 O;cbv;refine wM hS O aC rfl ?_;intro j21 _ O;cbv;refine ami hS aH ?_;cbv;refine ahX hS hM O rfl aC ?_;intro x22 O;cbv;refine amh hS rfl ?_;cbv;refine qJ hS hM O rfl rfl ?_;intro x23 O;cbv;exact⟨_,O,by rw[hk12]<;>(conv=>lhs;cbv)<;>(try simp only[q1])<;>(try simp only[q2,eO,q])<;>(try rfl)<;>(try simp only[eL,q])<;>(try rfl)⟩
 intro O;cbv;exact⟨_,O,by rw[hk9]<;>(conv=>lhs;cbv)<;>(try simp only[q1])<;>(try simp only[q2,eO,q])<;>(try rfl)<;>(try simp only[eL,q])<;>(try rfl)⟩
 intro O;cbv;refine tN hS O (λ_=>c203 hM) (le_eq aC) (λ_=>rfl) ?_;exact kS
theorem c263 {l:List jX}{n:Int}{r:Bool}(O:EY l n=some r):iI 263 [.sl 64 (M.m jX (mf M) l) false,sI n] (λu=>u=.sb r):=by
 refine jB jm func263 call263 ?_;intro S R hS hR;have q:=sf hM hS;unfold EY at O;cbv;refine kE hS jm wf [] [0,1,5] (λs1=>f3 27 [(0,.sl 64 (M.m jX (mf M) l) false),(1,sI n),(5,sI s1)] []) O ?_;intro Ik2 k2 s1 hk2 O e he;subst he;unfold Ii at O;cbv;refine jc ?_ ?_
 intro O;cbv;refine kV ?_;intro x4 O;cbv;refine jK hS O (λ_=>c342 hM) ?_;intro y5 O;cbv;refine jc ?_ ?_
 exact jr
 exact jv
 intro O;cbv;refine jc ?_ ?_<;>exact jr
end
section
variable {M:kM}(hM:M=jT)
include hM
theorem akS {a:kF}{r:Bool}(O:Ph a=some r):iI 188 [.agg (lD M a)] (λu=>u=.sb r):=by
 refine jB (je [2,6,10,14,19,24,29,34,39,49,50]) func188 call188 ?_;intro S R hS hR;have q:=sf hM hS;unfold Ph at O;cbv;refine jk hS [] [1,11] (λs1=>f3 117 [(1,.lv 0 0),(11,.sb s1)] [vR (lD M a)]) O ?_ ?_
 intro Ik2 k2 hk2 O;cbv;refine jc ?_ ?_<;>exact jv
 intro s1 O;cbv;refine jA hS O rfl ?_ ?_
 exact jr
 intro O;cbv;refine jk hS [] [1,3] (λU=>f3 117 [(1,.lv 0 0),(3,.sb U)] [vR (lD M a)]) O ?_ ?_
 intro Ik5 k5 hk5 O;cbv;refine jc ?_ ?_
 exact jv
 intro O;cbv;refine jc ?_ ?_<;>exact jv
 intro U O;cbv;refine jk hS [] [1,3] (λs7=>f3 117 [(1,.lv 0 0),(3,.sb U)] [vR (lD M a)]) O ?_ ?_
 intro Ik8 k8 hk8 O;cbv;refine jc ?_ ?_
 intro O;cbv;refine jk hS [] [1,3,43] (λI=>f3 117 [(1,.lv 0 0),(3,.sb U),(43,.sb I)] [vR (lD M a)]) O ?_ ?_
 intro Ik11 k11 hk11 O;cbv;refine jK hS O (λ_=>YN hM) ?_;intro y13 O;cbv;refine jc ?_ ?_
 exact jv
 intro O;cbv;refine jc ?_ ?_
 exact jv
 intro O;cbv;refine jK hS O (λ_=>am5 hM) ?_;exact lu
 intro I O;cbv;refine jA hS O rfl ?_ ?_
 exact jr
 exact jv
 intro O;cbv;refine jk hS [] [1,3,53] (λC=>f3 117 [(1,.lv 0 0),(3,.sb U),(53,.sb C)] [vR (lD M a)]) O ?_ ?_
 intro Ik16 k16 hk16 O;cbv;replace O:=pO O;refine jc ?_ ?_<;>exact jv
 intro C O;cbv;refine jA hS O rfl ?_ ?_
 exact jr
 exact jv
 intro s7 O;cbv;refine jk hS [] [1,3] (λs19=>f3 117 [(1,.lv 0 0),(3,.sb U)] [vR (lD M a)]) O ?_ ?_
 intro Ik20 k20 hk20 O;cbv;refine jc ?_ ?_
 intro O;cbv;refine jK hS O (λ_=>c259 hM) ?_;intro y22 O;cbv;refine jc ?_ ?_
 exact jr
 exact jv
 intro O;cbv;refine jk hS [] [1,3,68] (λg=>f3 117 [(1,.lv 0 0),(3,.sb U),(68,.sb g)] [vR (lD M a)]) O ?_ ?_
 intro Ik24 k24 hk24 O;cbv;replace O:=pO O;refine jc ?_ ?_<;>exact jv
 intro g O;cbv;refine jA hS O rfl ?_ ?_
 exact jr
 exact jv
 intro s19 O;cbv;refine jk hS [] [1,3] (λs27=>f3 117 [(1,.lv 0 0),(3,.sb U)] [vR (lD M a)]) O ?_ ?_
 intro Ik28 k28 hk28 O;cbv;refine jc ?_ ?_
 intro O;cbv;refine jK hS O (λ_=>c260 hM) ?_;intro y30 O;cbv;refine jc ?_ ?_
 exact jr
 exact jv
 intro O;cbv;refine jk hS [] [1,3,83] (λJ=>f3 117 [(1,.lv 0 0),(3,.sb U),(83,.sb J)] [vR (lD M a)]) O ?_ ?_
 intro Ik32 k32 hk32 O;cbv;replace O:=pO O;refine jc ?_ ?_<;>exact jv
 intro J O;cbv;refine jA hS O rfl ?_ ?_
 exact jr
 exact jv
 intro s27 O;cbv;refine jk hS [] [1,3] (λs35=>f3 117 [(1,.lv 0 0),(3,.sb U)] [vR (lD M a)]) O ?_ ?_
 intro Ik36 k36 hk36 O;cbv;refine jc ?_ ?_
 intro O;cbv;refine jK hS O (λ_=>c261 hM) ?_;intro y38 O;cbv;refine jc ?_ ?_
 exact jr
 exact jv
 intro O;cbv;replace O:=pO O;refine jc ?_ ?_
 exact jr
 exact jv
 intro s35 O;cbv;refine jA hS O rfl ?_ ?_
 intro O;cbv;refine jk hS [] [2] (λT=>f3 117 [(2,.sb T)] []) O ?_ ?_
 intro Ik41 k41 hk41 O;cbv;refine jK hS O (λ_=>c262 hM) ?_;intro y43 O;cbv;refine jA hS O rfl ?_ ?_
 intro O;cbv;refine qU hS O (λ_=>c263 hM) xB ?_;exact lu
 exact jv
 intro T O;cbv;exact tu
 intro O;cbv;refine jc ?_ ?_<;>exact jr
theorem c61 {w:jP}{stage:Int}{r:jP×(List Int)}(O:rJ w stage=some r):iI 61 [.agg (kL M w),sI stage] (λu=>u=.IX [.agg (kL M r.1),.sl 1 (mI M r.2) false]):=by
 refine jB (je [7,13]) func61 call61 ?_;intro S R hS hR;have q:=sf hM hS;unfold rJ at O;cbv;refine jk hS [] [1,2,4] (λs1=>f3 60 [(1,sI stage),(2,.lv 0 0),(4,.lv 1 0)] [vR (kL M s1),vR [.sl 0 [] true,.sl 0 [] true,.sl 0 [] true,.sl 0 [] true,.sl 0 [] true,.sl 0 [] true,.sl 0 [] true,sI 0,sI 0,sI 0,.sb false,sI 0,sI 0,sI 0,sI 0,.si .u64 0,.sl 0 [] true,sI 0,sI 0,.sl 0 [] true,.sl 0 [] true,.sl 0 [] true,.sl 0 [] true,.sl 0 [] true]]) O ?_ ?_
 intro Ik2 k2 hk2 O;cbv;refine jc ?_ ?_
 intro O;cbv;refine jK hS O (λ_=>c135 hM) ?_;exact lu
 exact jv
 intro s1 O;cbv;refine kE hS (je [7,13]) wf [] [1,2,4,6,7] (λs5=>f3 60 [(1,sI stage),(2,.lv 0 0),(4,.lv 1 0),(6,.os 2 0 (S.jD (mI M s5.2))),(7,sI s5.1)] [vR (kL M s1),vR [.sl 0 [] true,.sl 0 [] true,.sl 0 [] true,.sl 0 [] true,.sl 0 [] true,.sl 0 [] true,.sl 0 [] true,sI 0,sI 0,sI 0,.sb false,sI 0,sI 0,sI 0,sI 0,.si .u64 0,.sl 0 [] true,sI 0,sI 0,.sl 0 [] true,.sl 0 [] true,.sl 0 [] true,.sl 0 [] true,.sl 0 [] true],aR 1 (mI M s5.2)]) O ?_;intro Ik6 k6 s5 hk6 O e he;subst he;unfold Ew at O;cbv;refine jc ?_ ?_
 intro O;cbv;refine jk hS [] [1,2,4,6,7] (λs8=>f3 60 [(1,sI stage),(2,.lv 0 0),(4,.lv 1 0),(6,.os 2 0 (S.jD (mI M s8))),(7,sI s5.1)] [vR (kL M s1),vR [.sl 0 [] true,.sl 0 [] true,.sl 0 [] true,.sl 0 [] true,.sl 0 [] true,.sl 0 [] true,.sl 0 [] true,sI 0,sI 0,sI 0,.sb false,sI 0,sI 0,sI 0,sI 0,.si .u64 0,.sl 0 [] true,sI 0,sI 0,.sl 0 [] true,.sl 0 [] true,.sl 0 [] true,.sl 0 [] true,.sl 0 [] true],aR 1 (mI M s8)]) O ?_ ?_
 intro Ik9 k9 hk9 O;cbv;refine kV ?_;intro x11 O;cbv;refine jK hS O (λ_=>c136 hM) ?_;intro y12 O;cbv;refine jA hS O rfl ?_ ?_
 intro O;cbv;refine jM hS O lS ?_;exact jv
 exact jv
 intro s8 O;cbv;exact ng
 intro O;cbv;refine kE hS (je [7,13]) wf [.tR 8,.tF 6] [1,2,4,6,8,9,10] (λs13=>f3 60 [(1,sI stage),(2,.lv 0 0),(4,.lv 1 0),(6,.sl 1 (mI M s13.2.1) false),(8,.os 2 0 (S.jD (mI M s13.2.2.2))),(9,sI (S.Kv (S.jD (mI M s5.2)))),(10,sI s13.2.2.1)] [vR (kL M s13.1),vR [.sl 0 [] true,.sl 0 [] true,.sl 0 [] true,.sl 0 [] true,.sl 0 [] true,.sl 0 [] true,.sl 0 [] true,sI 0,sI 0,sI 0,.sb false,sI 0,sI 0,sI 0,sI 0,.si .u64 0,.sl 0 [] true,sI 0,sI 0,.sl 0 [] true,.sl 0 [] true,.sl 0 [] true,.sl 0 [] true,.sl 0 [] true],aR 1 (mI M s13.2.2.2)]) O ?_;intro Ik14 k14 s13 hk14 O e he;subst he;unfold JV at O;cbv;refine jc ?_ ?_
 intro O;cbv;refine jK hS O (λ_=>c137 hM) ?_;intro y16 O;cbv;refine jM hS O lS ?_;intro O;cbv;refine jK hS O (λ_=>c138 hM) ?_;intro y17 O;cbv;refine jK hS O (λ_=>c139 hM) ?_;exact lu
 exact jr
end
end Go.Proofs.YtlacmdnhabblcaaGreat
