import Derived.Test.YtlacmdnhabblcaaGreatB15
set_option linter.all false
namespace Go.Proofs.YtlacmdnhabblcaaGreat
open Go Go.Pv Proofs.Tryz
set_option maxRecDepth 100000
set_option maxHeartbeats 2000000
section
variable {M:kM}(hM:M=jT)
include hM
theorem c22 {s:iT}{all:List iM}{p:Int}{r:List iL}(O:yu s all p=some r):iI 22 [.agg (jb M s),.sl 17 (M.m iM (iY M) all) false,sI p] (λu=>u=.sl 3 (M.m iL (iQ M) r) false):=by
 refine jB (je [9,12,19,22]) func22 call22 ?_;intro S R hS hR;have q:=sf hM hS;unfold yu at O;cbv;refine kE hS (je [9,12,19,22]) wf [.tO 7 3] [1,2,3,7,8] (λs1=>f3 76 [(1,.sl 17 (M.m iM (iY M) all) false),(2,sI p),(3,.lv 0 0),(7,.os 1 0 (S.jD (M.m iL (iQ M) s1.2))),(8,sI s1.1)] [vR (jb M s),aR 3 (M.m iL (iQ M) s1.2)]) O ?_;intro Ik2 k2 s1 hk2 O e he;subst he;unfold Az at O;cbv;refine jc ?_ ?_
 intro O;cbv;refine jk hS [.tO 7 3] [1,2,3,7,8] (λs4=>f3 76 [(1,.sl 17 (M.m iM (iY M) all) false),(2,sI p),(3,.lv 0 0),(7,.os 1 0 (S.jD (M.m iL (iQ M) s4))),(8,sI s1.1)] [vR (jb M s),aR 3 (M.m iL (iQ M) s4)]) O ?_ ?_
 intro Ik5 k5 hk5 O;cbv;refine kV ?_;intro x7 O;cbv;refine jk hS [] [1,2,3,7,8,9,34] (λs8=>f3 76 [(1,.sl 17 (M.m iM (iY M) all) false),(2,sI p),(3,.lv 0 0),(7,.os 1 0 (S.jD (M.m iL (iQ M) s1.2))),(8,sI s1.1),(9,.lv 2 0),(34,.sb s8)] [vR (jb M s),aR 3 (M.m iL (iQ M) s1.2),vR (ja M x7)]) O ?_ ?_
 intro Ik9 k9 hk9 O;cbv;refine jc ?_ ?_
 exact jv
 intro O;cbv;refine jK hS O (λ_=>c63 hM) ?_;exact lu
 intro s8 O;cbv;refine jA hS O rfl ?_ ?_
 exact jv
 intro O;cbv;refine kE hS (je [9,12,19,22]) wf [.tO 7 3] [1,2,3,7,8,9,10] (λs12=>f3 76 [(1,.sl 17 (M.m iM (iY M) all) false),(2,sI p),(3,.lv 0 0),(7,.os 1 0 (S.jD (M.m iL (iQ M) s12.2))),(8,sI s1.1),(9,.lv 2 0),(10,sI s12.1)] [vR (jb M s),aR 3 (M.m iL (iQ M) s12.2),vR (ja M x7)]) O ?_;intro Ik13 k13 s12 hk13 O e he;subst he;unfold Aw at O;cbv;refine jc ?_ ?_
 intro O;cbv;refine jk hS [.tO 7 3] [1,2,3,7,8,9,10] (λs15=>f3 76 [(1,.sl 17 (M.m iM (iY M) all) false),(2,sI p),(3,.lv 0 0),(7,.os 1 0 (S.jD (M.m iL (iQ M) s15))),(8,sI s1.1),(9,.lv 2 0),(10,sI s12.1)] [vR (jb M s),aR 3 (M.m iL (iQ M) s15),vR (ja M x7)]) O ?_ ?_
 intro Ik16 k16 hk16 O;cbv;refine kV ?_;intro x18 O;cbv;refine jk hS [] [1,2,3,7,8,9,10,11,66] (λs19=>f3 76 [(1,.sl 17 (M.m iM (iY M) all) false),(2,sI p),(3,.lv 0 0),(7,.os 1 0 (S.jD (M.m iL (iQ M) s12.2))),(8,sI s1.1),(9,.lv 2 0),(10,sI s12.1),(11,.lv 3 0),(66,.sb s19)] [vR (jb M s),aR 3 (M.m iL (iQ M) s12.2),vR (ja M x7),vR (ja M x18)]) O ?_ ?_
 intro Ik20 k20 hk20 O;cbv;refine rD hS ?_;cbv;refine jc ?_ ?_
 intro O;cbv;refine jc ?_ ?_
 intro O;cbv;refine rZ hS O (λ_=>c63 hM) ?_;intro y22 O;cbv;refine rZ hS O (λ_=>c63 hM) ?_;intro y23 O;cbv;refine rZ hS O (λ_=>c17 hM) ?_;exact lu
 exact jv
 exact jv
 intro s19 O;cbv;refine jA hS O rfl ?_ ?_
 intro O;cbv;refine Dw hS (e:=(iQ M)) O oW ?_;intro x25 O;cbv;refine jM hS O lS ?_;exact jv
 exact jv
 intro s15 O;cbv;exact ng
 exact jv
 intro s4 O;cbv;exact ng
 exact jr
theorem c276 {left:List Int}{needs:List (List Bool)}{r:List Int}(O:LD left needs=some r):iI 276 [.sl 1 (mI M left) false,.sl 1 (M.m (List Bool) (eL M 1 eB) needs) false] (λu=>u=.sl 1 (mI M r) false):=by
 refine jB (je [11,19,20]) func276 call276 ?_;intro S R hS hR;have q:=sf hM hS;unfold LD at O;cbv;refine jK hS O (λ_=>c353 hM) ?_;intro y1 O;cbv;refine kE hS (je [11,19,20]) wf [.tO 6 1] [1,5,6,7] (λs2=>f3 63 [(1,.sl 1 (M.m (List Bool) (eL M 1 eB) needs) false),(5,.sl 1 (mI M y1) false),(6,.os 0 0 (S.jD (mI M s2.2))),(7,sI s2.1)] [aR 1 (mI M s2.2)]) O ?_;intro Ik3 k3 s2 hk3 O e he;subst he;unfold Gq at O;cbv;refine jc ?_ ?_
 intro O;cbv;refine jk hS [.tO 6 1] [1,5,6,7] (λs5=>f3 63 [(1,.sl 1 (M.m (List Bool) (eL M 1 eB) needs) false),(5,.sl 1 (mI M y1) false),(6,.os 0 0 (S.jD (mI M s5))),(7,sI s2.1)] [aR 1 (mI M s5)]) O ?_ ?_
 intro Ik6 k6 hk6 O;cbv;refine kE hS (je [11,19,20]) wf [] [1,5,6,7,8,9] (λs8=>f3 63 [(1,.sl 1 (M.m (List Bool) (eL M 1 eB) needs) false),(5,.sl 1 (mI M y1) false),(6,.os 0 0 (S.jD (mI M s2.2))),(7,sI s2.1),(8,.sb s8.1),(9,sI s8.2)] [aR 1 (mI M s2.2)]) O ?_;intro Ik9 k9 s8 hk9 O e he;subst he;unfold Gp at O;cbv;refine jc ?_ ?_
 intro O;cbv;refine jk hS [] [1,5,6,7,8,9] (λs11=>f3 63 [(1,.sl 1 (M.m (List Bool) (eL M 1 eB) needs) false),(5,.sl 1 (mI M y1) false),(6,.os 0 0 (S.jD (mI M s2.2))),(7,sI s2.1),(8,.sb s11),(9,sI s8.2)] [aR 1 (mI M s2.2)]) O ?_ ?_
 intro Ik12 k12 hk12 O;cbv;refine jk hS [] [1,5,6,7,8,9,53] (λs14=>f3 63 [(1,.sl 1 (M.m (List Bool) (eL M 1 eB) needs) false),(5,.sl 1 (mI M y1) false),(6,.os 0 0 (S.jD (mI M s2.2))),(7,sI s2.1),(8,.sb s8.1),(9,sI s8.2),(53,.sb s14)] [aR 1 (mI M s2.2)]) O ?_ ?_
 intro Ik15 k15 hk15 O;cbv;refine rD hS ?_;cbv;refine jc ?_ ?_
 intro O;cbv;refine kV ?_;intro x17 O;cbv;refine kV ?_;intro x18 O;cbv;refine rZ hS O (λ_=>amT hM) ?_;intro y19 O;cbv;refine jA hS O rfl ?_ ?_
 intro O;cbv;refine kV ?_;intro x20 O;cbv;refine rZ hS O (λ_=>c356 hM) ?_;intro y21 O;cbv;refine kV ?_;intro x22 O;cbv;refine rZ hS O (λ_=>amS hM) ?_;exact lu
 exact jv
 exact jv
 intro s14 O;cbv;refine jA hS O rfl ?_ ?_<;>exact jv
 intro s11 O;cbv;exact ng
 intro O;cbv;refine jA hS O rfl ?_ ?_
 intro O;cbv;refine kV ?_;intro x24 O;cbv;refine jM hS O lS ?_;exact jv
 exact jv
 intro s5 O;cbv;exact ng
 exact jr
theorem c466 {c:oH}{r:ByteArray}(O:O9 c=some r):iI 466 [.agg (pV M c)] (λu=>u=.str r):=by
 refine jB (je [21,22,28]) func466 call466 ?_;intro S R hS hR;have q:=sf hM hS;unfold O9 at O;cbv;refine jK hS O (λ_=>agr hM) ?_;intro y1 O;cbv;refine jc ?_ ?_
 exact jr
 intro O;cbv;refine kE hS (je [21,22,28]) wf [] [1,3,4] (λs2=>f3 47 [(1,.lv 0 0),(3,.str s2.1),(4,sI s2.2)] [vR (pV M c)]) O ?_;intro Ik3 k3 s2 hk3 O e he;subst he;unfold Jo at O;cbv;refine jc ?_ ?_
 intro O;cbv;refine qK hS O rfl rfl ?_;exact lu
 intro O;cbv;refine jk hS [] [1,3] (λs6=>f3 47 [(1,.lv 0 0),(3,.str s6)] [vR (pV M c)]) O ?_ ?_
 intro Ik7 k7 hk7 O;cbv;refine jc ?_ ?_
 intro O;cbv;refine jK hS O (λ_=>ags hM) ?_;intro y9 O;cbv;refine qK hS O rfl rfl ?_;exact lu
 exact jv
 intro s6 O;cbv;refine kE hS (je [21,22,28]) wf [] [1,3,5] (λs11=>f3 47 [(1,.lv 0 0),(3,.str s11.1),(5,sI s11.2)] [vR (pV M c)]) O ?_;intro Ik12 k12 s11 hk12 O e he;subst he;unfold Jn at O;cbv;refine nJ hS ?_;cbv;refine jc ?_ ?_
 intro O;cbv;refine kE hS (je [21,22,28]) wf [] [1,3,5,6] (λs14=>f3 47 [(1,.lv 0 0),(3,.str s14.1),(5,sI s11.2),(6,sI s14.2)] [vR (pV M c)]) O ?_;intro Ik15 k15 s14 hk15 O e he;subst he;unfold O8 at O;cbv;refine jk hS [] [1,3,5,6,35] (λs17=>f3 47 [(1,.lv 0 0),(3,.str s14.1),(5,sI s11.2),(6,sI s14.2),(35,.sb s17)] [vR (pV M c)]) O ?_ ?_
 intro Ik18 k18 hk18 O;cbv;obtain⟨j20,hj20,ej20,O⟩:=oz O;refine tZ hS rfl ⟨j20,hj20,ej20,?_⟩;rcases lt5 hj20 with rfl|rfl|rfl|rfl|rfl
 exact gU
 exact gU
 exact gU
 exact gU
 cbv;exact ng
 intro s17 O;cbv;refine jA hS O rfl ?_ ?_
 intro O;cbv;refine aok hS O rfl rfl lS ?_;intro x21 O;cbv;refine qK hS O rfl rfl ?_;exact lu
 exact jv
 intro O;cbv;refine jc ?_ ?_<;>exact jr
end
section
variable {M:kM}(hM:M=jT)
include hM
theorem aoL {mask:Int}{r:ByteArray}(O:KU mask=some r):iI 350 [sI mask] (λu=>u=.str r):=by
 refine jB (je [10,13,21,23]) func350 call350 ?_;intro S R hS hR;have q:=sf hM hS;unfold KU at O;cbv;refine jK hS O (λ_=>aoD hM) ?_;intro y1 O;cbv;refine jc ?_ ?_
 exact jr
 intro O;cbv;refine kE hS (je [10,13,21,23]) wf [] [0,3,4] (λU=>f3 28 [(0,sI U.1),(3,.str U.2.1),(4,sI U.2.2)] []) O ?_;intro Ik3 k3 U hk3 O e he;subst he;unfold OY at O;cbv;refine nJ hS ?_;cbv;refine jc ?_ ?_
 intro O;cbv;refine jk hS [] [0,3,4] (λJ=>f3 28 [(0,sI J.1),(3,.str J.2),(4,sI U.2.2)] []) O ?_ ?_
 intro Ik6 k6 hk6 O;cbv;refine jk hS [] [0,3,4] (λI=>f3 28 [(0,sI U.1),(3,.str I),(4,sI U.2.2)] []) O ?_ ?_
 intro Ik9 k9 hk9 O;cbv;refine xW hS O rfl rfl ?_;intro x11 O;cbv;refine jc ?_ ?_
 intro O;cbv;refine jk hS [] [0,3,4] (λT=>f3 28 [(0,sI U.1),(3,.str T),(4,sI U.2.2)] []) O ?_ ?_
 intro C k13 g O;cbv;refine jc ?_ ?_
 intro O;cbv;refine qK hS O rfl rfl ?_;exact lu
 exact jv
 intro T O;cbv;refine jK hS O (λ_=>aoH hM) ?_;intro y16 O;cbv;refine qK hS O rfl rfl ?_;exact lu
 exact jv
 intro I O;cbv;refine xW hS O rfl rfl ?_;exact lu
 intro J O;cbv;exact ng
 intro O;cbv;refine jc ?_ ?_<;>exact jr
theorem c198 {c:jI}{r:iM}(O:Fe c=some r):iI 198 [.agg (lJ M c)] (λu=>u=.agg (iY M r)):=by
 refine jB jm func198 call198 ?_;intro S R hS hR;have q:=sf hM hS;unfold Fe at O;cbv;refine rD hS ?_;cbv;refine rZ hS O (λ_=>c274 hM) ?_;intro y1 O;cbv;refine jM hS O lS ?_;intro O;cbv;refine kE hS jm wf [.cO 2 15 72] [1,2,3,4] (λs2=>f3 50 [(1,.lv 0 0),(2,.lv 1 0),(3,.lv 2 0),(4,sI s2.1)] [vR (lJ M c),vR [.str (bs []),sI 0,sI 0,sI 0,sI 0,sI 0,sI 0,sI 0,sI 0,sI 0,sI 0,.sl 0 [] true,sI 0,sI 0,sI 0,.sl 0 [] true,sI 0],vR [.str c.name,sI c.cost.generic,sI c.cost.x,sI c.cost.color.a0,sI c.cost.color.a1,sI c.cost.color.a2,sI c.cost.color.a3,sI c.cost.color.a4,sI (S.bin .or .i64 y1 c.color),sI c.line.OV,sI c.line.types,.os 3 0 (S.jD (S.app (S.sub ([]) 0 0) (M.m ByteArray eS c.line.subs))),sI c.power,sI c.jE,sI c.keys,.os 4 0 (S.jD (M.m kF (lD M) s2.2)),sI 0],aR 1 (S.app (S.sub ([]) 0 0) (M.m ByteArray eS c.line.subs)),aR 72 (M.m kF (lD M) s2.2)]) O ?_;intro Ik3 k3 s2 hk3 O e he;subst he;unfold BJ at O;cbv;refine jc ?_ ?_
 intro O;cbv;refine rD hS ?_;cbv;refine kV ?_;intro x5 O;cbv;refine rZ hS O (λ_=>c275 hM) ?_;intro y6 O;cbv;refine jM hS O lS ?_;exact jv
 exact jr
theorem c16 {b:iW}{tb:iM}{a:iW}{ta:iM}{r:Bool}(O:LH b tb a ta=some r):iI 16 [.agg (ja M b),.agg (iY M tb),.agg (ja M a),.agg (iY M ta)] (λu=>u=.sb r):=by
 refine jB (je [4]) func16 call16 ?_;intro S R hS hR;have q:=sf hM hS;unfold LH at O;cbv;refine jk hS [] [5,7,9,28] (λs1=>f3 43 [(5,.lv 0 0),(7,.lv 1 0),(9,.fn 55 []),(28,.sb s1)] [vR (iY M tb),vR (iY M ta)]) O ?_ ?_
 intro Ik2 k2 hk2 O;cbv;refine jc ?_ ?_
 exact jv
 intro O;cbv;refine jA hS O rfl ?_ ?_
 exact jv
 intro O;cbv;refine jK hS O (λ_=>c55 hM) ?_;intro y4 O;cbv;refine jA hS O rfl ?_ ?_
 exact jv
 intro O;cbv;refine jK hS O (λ_=>c55 hM) ?_;exact lu
 intro s1 O;cbv;refine jA hS O rfl ?_ ?_
 exact jr
 intro O;cbv;refine jK hS O (λ_=>c55 hM) ?_;intro y6 O;cbv;refine jc ?_ ?_
 exact jr
 intro O;cbv;refine jK hS O (λ_=>c55 hM) ?_;intro y7 O;cbv;refine jA hS O rfl ?_ ?_
 exact jr
 intro O;cbv;refine jK hS O (λ_=>c55 hM) ?_;exact kS
theorem c430 {c:oH}{x:Int}{r:Int}(O:Lr c x=some r):iI 430 [.agg (pV M c),sI x] (λu=>u=sI r):=by
 refine jB (je [10]) func430 call430 ?_;intro S R hS hR;have q:=sf hM hS;unfold Lr at O;cbv;refine jK hS O (λ_=>agr hM) ?_;intro y1 O;cbv;refine jc ?_ ?_
 exact jr
 intro O;cbv;refine GU hS (je [10]) wf 7 ?_;intro g2 hg2;refine hg2 _ _ ?_;cbv;refine nJ hS ?_;cbv;refine jK hS O (λ_=>Yf hM) ?_;intro y3 O;cbv;refine hg2 _ _ ?_;cbv;refine nJ hS ?_;cbv;refine jK hS O (λ_=>Yf hM) ?_;intro y4 O;cbv;refine hg2 _ _ ?_;cbv;refine nJ hS ?_;cbv;refine jK hS O (λ_=>Yf hM) ?_;intro y5 O;cbv;refine hg2 _ _ ?_;cbv;refine nJ hS ?_;cbv;refine jK hS O (λ_=>Yf hM) ?_;intro y6 O;cbv;refine hg2 _ _ ?_;cbv;refine nJ hS ?_;cbv;refine jK hS O (λ_=>Yf hM) ?_;intro y7 O;cbv;refine hg2 _ _ ?_;cbv;refine nJ hS ?_;cbv;refine jc ?_ ?_
 intro O;cbv;refine jK hS O (λ_=>aoI hM) ?_;intro y8 O;cbv;refine jK hS O (λ_=>Yf hM) ?_;exact kS
 intro O;cbv;refine jK hS O (λ_=>aoI hM) ?_;intro y10 O;cbv;refine jK hS O (λ_=>Yf hM) ?_;exact kS
theorem c345 {a:List jX}{b:List jX}{r:Bool}(O:BH a b=some r):iI 345 [.sl 64 (M.m jX (mf M) a) false,.sl 64 (M.m jX (mf M) b) false] (λu=>u=.sb r):=by
 refine jB jm func345 call345 ?_;intro S R hS hR;have q:=sf hM hS;unfold BH at O;cbv;refine jc ?_ ?_
 exact jr
 intro O;cbv;refine kE hS jm wf [] [0,1,5] (λs1=>f3 27 [(0,.sl 64 (M.m jX (mf M) a) false),(1,.sl 64 (M.m jX (mf M) b) false),(5,sI s1)] []) O ?_;intro Ik2 k2 s1 hk2 O e he;subst he;unfold FP at O;cbv;refine jc ?_ ?_
 intro O;cbv;refine rD hS ?_;cbv;refine kV ?_;intro x4 O;cbv;refine kV ?_;intro x5 O;cbv;refine rZ hS O (λ_=>c414 hM) ?_;intro y6 O;cbv;refine jc ?_ ?_
 exact jr
 exact jv
 exact jr
theorem aiF {s:ByteArray}{r:Bool}(O:yO s=some r):iI 256 [.str s] (λu=>u=.sb r):=by
 refine jB jm func256 call256 ?_;intro S R hS hR;have q:=sf hM hS;unfold yO at O;cbv;refine jK hS O (λ_=>c183 hM) ?_;intro y1 O;cbv;refine jA hS O rfl ?_ ?_
 intro O;cbv;refine jK hS O (λ_=>c331 hM) ?_;intro U O;cbv;refine jK hS O (λ_=>amR hM) ?_;intro y3 O;cbv;refine jc ?_ ?_
 intro O;cbv;refine jK hS O (λ_=>aoF hM) ?_;intro y4 O;cbv;refine jK hS O (λ_=>amR hM) ?_;exact kS
 exact jr
 exact jr
theorem amZ {name:ByteArray}{b:xX}{r:ByteArray}(O:uM name b=some r):iI 426 [.str name,.agg (Nc M b)] (λu=>u=.str r):=by
 refine jB jm func426 call426 ?_;intro S R hS hR;have q:=sf hM hS;unfold uM at O;cbv;refine jc ?_ ?_
 exact jr
 intro O;cbv;refine jK hS O (λ_=>c469 hM) ?_;intro y1 O;cbv;refine rD hS ?_;cbv;refine kV ?_;intro T O;cbv;refine qK hS O rfl rfl ?_;intro U O;cbv;refine rZ hS O (λ_=>ags hM) ?_;intro y4 O;cbv;refine qK hS O rfl rfl ?_;exact kS
theorem c194 {s:iT}{o:iW}{r:Bool}(O:Il s o=some r):iI 194 [.agg (jb M s),.agg (ja M o)] (λu=>u=.sb r):=by
 refine jB jm func194 call194 ?_;intro S R hS hR;have q:=sf hM hS;unfold Il at O;cbv;refine jc ?_ ?_
 intro O;cbv;refine jK hS O (λ_=>c269 hM) ?_;exact kS
 intro O;cbv;refine rD hS ?_;cbv;refine rZ hS O (λ_=>c270 hM) ?_;intro y2 O;cbv;refine rZ hS O (λ_=>amP hM) ?_;exact kS
theorem am0 {mask:Int}{r:ByteArray}(O:uK mask=some r):iI 348 [sI mask] (λu=>u=.str r):=by
 refine jB jm func348 call348 ?_;intro S R hS hR;have q:=sf hM hS;unfold uK at O;cbv;refine jc ?_ ?_
 exact jr
 intro O;cbv;refine jc ?_ ?_
 exact jr
 intro O;cbv;refine jK hS O (λ_=>aoF hM) ?_;intro y1 O;cbv;refine jK hS O (λ_=>c415 hM) ?_;exact kS
theorem aoM {s:List iL}{U:iL}{r:Bool}(O:jZ s (λa0=>uO a0 U)=some r):iI 64 [.sl 3 (M.m iL (iQ M) s) false,.fn 65 [.pp (iQ M U)]] (λu=>u=.sb r):=by
 refine jB jm func64 call64 ?_;intro S R hS hR;have q:=sf hM hS;unfold jZ at O;cbv;refine jK hS O (λ_=>amY hM) ?_;exact kS
end
section
variable {M:kM}(hM:M=jT)
include hM
theorem aoN {s:iT}{id:Int}{r:iW×Bool}(O:DK s id=some r):iI 264 [.agg (jb M s),sI id] (λu=>u=.IX [.agg (ja M r.1),.sb r.2]):=by
 refine jB jm func264 call264 ?_;intro S R hS hR;have q:=sf hM hS;unfold DK at O;cbv;refine jK hS O (λ_=>c117 hM) ?_;exact kS
theorem c199 {c:UQ Int}{r:Int}(O:Lm c=some r):iI 199 [.agg [sI c.a0,sI c.a1,sI c.a2]] (λu=>u=sI r):=by
 refine jB jm func199 call199 ?_;intro S R hS hR;have q:=sf hM hS;unfold Lm at O;cbv;refine jK hS O (λ_=>c76 hM) ?_;exact kS
end
end Go.Proofs.YtlacmdnhabblcaaGreat
