import Derived.Test.YtlacmdnhabblcaaGreatB48
import Derived.Test.YtlacmdnhabblcaaGreatB92
set_option linter.all false
namespace Go.Proofs.YtlacmdnhabblcaaGreat
open Go Go.Pv Proofs.Tryz
set_option maxRecDepth 100000
set_option maxHeartbeats 2000000
section
variable {M:kM}(hM:M=jT)
include hM
theorem c28 {need:List Int}{l:List Int}{sum:Int}{trample:Bool}{r:Bool}(O:He need l sum trample=some r):iI 28 [.sl 1 (mI M need) false,.sl 1 (mI M l) false,sI sum,.sb trample] (λu=>u=.sb r):=by
 refine jB (je [9,21,22,28]) func28 call28 ?_;intro S R hS hR;have q:=sf hM hS;unfold He at O;cbv;refine jk hS [] [0,1,2,9] (λs1=>f3 76 [(0,.sl 1 (mI M need) false),(1,.sl 1 (mI M l) false),(2,sI sum),(9,sI s1)] []) O ?_ ?_
 intro Ik2 k2 hk2 O;cbv;refine jA hS O rfl ?_ ?_<;>exact jv
 intro s1 O;cbv;refine jc ?_ ?_
 exact jr
 intro O;cbv;refine kE hS (je [9,21,22,28]) wf [] [0,1,10,11,12] (λs4=>f3 76 [(0,.sl 1 (mI M need) false),(1,.sl 1 (mI M l) false),(10,sI s4.1),(11,.sb s4.2.1),(12,sI s4.2.2)] []) O ?_;intro Ik5 k5 s4 hk5 O e he;subst he;unfold wG at O;cbv;refine jc ?_ ?_
 intro O;cbv;refine jk hS [] [0,1,10,11,12] (λs7=>f3 76 [(0,.sl 1 (mI M need) false),(1,.sl 1 (mI M l) false),(10,sI s7.1),(11,.sb s7.2),(12,sI s4.2.2)] []) O ?_ ?_
 intro Ik8 k8 hk8 O;cbv;refine jk hS [] [0,1,10,11,12,52] (λs10=>f3 76 [(0,.sl 1 (mI M need) false),(1,.sl 1 (mI M l) false),(10,sI s4.1),(11,.sb s4.2.1),(12,sI s4.2.2),(52,.sb s10)] []) O ?_ ?_
 intro Ik11 k11 hk11 O;cbv;refine kV ?_;intro x13 O;cbv;refine jc ?_ ?_
 exact jv
 intro O;cbv;refine kV ?_;intro x14 O;cbv;refine jc ?_ ?_
 exact jv
 intro O;cbv;refine kV ?_;intro x15 O;cbv;refine jc ?_ ?_<;>exact jv
 intro s10 O;cbv;refine jA hS O rfl ?_ ?_
 exact jr
 intro O;cbv;refine kV ?_;intro x16 O;cbv;refine jk hS [] [0,1,10,11,12,73] (λs17=>f3 76 [(0,.sl 1 (mI M need) false),(1,.sl 1 (mI M l) false),(10,sI (S.bin .sub .i64 s4.1 x16)),(11,.sb s4.2.1),(12,sI s4.2.2),(73,.sb s17)] []) O ?_ ?_
 intro Ik18 k18 hk18 O;cbv;refine rD hS ?_;cbv;refine jc ?_ ?_
 intro O;cbv;refine kV ?_;intro x20 O;cbv;refine kV ?_;exact lu
 exact jv
 intro s17 O;cbv;refine jA hS O rfl ?_ ?_<;>exact jv
 intro s7 O;cbv;exact ng
 exact jr
end
section
variable {M:kM}(hM:M=jT)
include hM
theorem c34 {s:iT}{a:Int}{r:List Int}(O:zf s a=some r):iI 34 [.agg (jb M s),sI a] (λu=>u=.sl 1 (mI M r) false):=by
 refine jB (je [9,10]) func34 call34 ?_;intro S R hS hR;have q:=sf hM hS;unfold zf at O;cbv;refine kE hS (je [9,10]) wf [.tO 5 1] [1,2,5,6] (λs1=>f3 41 [(1,sI a),(2,.lv 0 0),(5,.os 1 0 (S.jD (mI M s1.2))),(6,sI s1.1)] [vR (jb M s),aR 1 (mI M s1.2)]) O ?_;intro Ik2 k2 s1 hk2 O e he;subst he;unfold FU at O;cbv;refine jc ?_ ?_
 intro O;cbv;refine jk hS [.tO 5 1] [1,2,5,6] (λs4=>f3 41 [(1,sI a),(2,.lv 0 0),(5,.os 1 0 (S.jD (mI M s4))),(6,sI s1.1)] [vR (jb M s),aR 1 (mI M s4)]) O ?_ ?_
 intro Ik5 k5 hk5 O;cbv;refine jk hS [] [1,2,5,6,30] (λs7=>f3 41 [(1,sI a),(2,.lv 0 0),(5,.os 1 0 (S.jD (mI M s1.2))),(6,sI s1.1),(30,.sb s7)] [vR (jb M s),aR 1 (mI M s1.2)]) O ?_ ?_
 intro Ik8 k8 hk8 O;cbv;refine kV ?_;intro x10 O;cbv;refine jc ?_ ?_
 intro O;cbv;refine kV ?_;exact lu
 exact jv
 intro s7 O;cbv;refine jA hS O rfl ?_ ?_
 intro O;cbv;refine kV ?_;intro x12 O;cbv;refine jM hS O lS ?_;exact jv
 exact jv
 intro s4 O;cbv;exact ng
 exact jr
theorem ajy {a:List Int}{n:Int}{r:Bool}(O:yF a n=some r):iI 286 [.sl 1 (mI M a) false,sI n] (λu=>u=.sb r):=by
 refine jB (je [8]) func286 call286 ?_;intro S R hS hR;have q:=sf hM hS;unfold yF at O;cbv;refine kE hS (je [8]) wf [] [0,1,5] (λU=>f3 40 [(0,.sl 1 (mI M a) false),(1,sI n),(5,sI U)] []) O ?_;intro Ik2 k2 U g O e he;subst he;unfold Qe at O;cbv;refine jc ?_ ?_
 intro O;cbv;refine jk hS [] [0,1,5,25] (λT=>f3 40 [(0,.sl 1 (mI M a) false),(1,sI n),(5,sI U),(25,.sb T)] []) O ?_ ?_
 intro Ik5 k5 hk5 O;cbv;refine kV ?_;intro x7 O;cbv;refine jc ?_ ?_
 exact jv
 intro O;cbv;refine kV ?_;exact lu
 intro T O;cbv;refine jA hS O rfl ?_ ?_
 exact jr
 intro O;cbv;refine kE hS (je [8]) wf [] [0,1,5,6] (λJ=>f3 40 [(0,.sl 1 (mI M a) false),(1,sI n),(5,sI U),(6,sI J)] []) O ?_;intro I k10 J C O e he;subst he;unfold Qd at O;cbv;refine jc ?_ ?_
 intro O;cbv;refine rD hS ?_;cbv;refine kV ?_;intro x12 O;cbv;refine kV ?_;intro x13 O;cbv;refine jc ?_ ?_
 exact jr
 exact jv
 exact jv
 exact jr
theorem c93 {a:jY}{b:jY}{r:Bool}(O:yG a b=some r):iI 93 [.agg (mg M a),.agg (mg M b)] (λu=>u=.sb r):=by
 refine jB jm func93 call93 ?_;intro S R hS hR;have q:=sf hM hS;unfold yG at O;cbv;refine jc ?_ ?_
 exact jr
 intro O;cbv;refine kE hS jm wf [] [2,3,5] (λs1=>f3 71 [(2,.lv 0 0),(3,.lv 1 0),(5,sI s1)] [vR (mg M a),vR (mg M b)]) O ?_;intro Ik2 k2 s1 hk2 O e he;subst he;unfold xx at O;cbv;refine jc ?_ ?_
 intro O;cbv;refine rD hS ?_;cbv;refine kV ?_;intro x4 O;cbv;refine kV ?_;intro x5 O;cbv;replace O:=pO O;refine jc ?_ ?_
 exact jr
 exact jv
 intro O;cbv;refine jc ?_ ?_
 intro O;cbv;refine jc ?_ ?_
 intro O;cbv;refine jc ?_ ?_
 intro O;cbv;refine jc ?_ ?_
 intro O;cbv;refine jc ?_ ?_<;>exact jr
 exact jr
 exact jr
 exact jr
 exact jr
theorem apB {c:jY}{a:List Int}{r:Bool}(O:QL c a=some r):iI 287 [.agg (mg M c),.sl 1 (mI M a) false] (λu=>u=.sb r):=by
 refine jB jm func287 call287 ?_;intro S R hS hR;have q:=sf hM hS;unfold QL at O;cbv;refine kE hS jm wf [] [1,2,5] (λU=>f3 37 [(1,.sl 1 (mI M a) false),(2,.lv 0 0),(5,sI U)] [vR (mg M c)]) O ?_;intro I k2 U J O e he;subst he;unfold Uu at O;cbv;refine jc ?_ ?_
 intro O;cbv;refine kE hS jm wf [] [1,2,5,6] (λT=>f3 37 [(1,.sl 1 (mI M a) false),(2,.lv 0 0),(5,sI U),(6,sI T)] [vR (mg M c)]) O ?_;intro g k5 T C O e he;subst he;unfold Ut at O;cbv;refine jc ?_ ?_
 intro O;cbv;refine rD hS ?_;cbv;refine kV ?_;intro x7 O;cbv;refine kV ?_;intro x8 O;cbv;refine kV ?_;intro x9 O;cbv;refine kV ?_;intro x10 O;cbv;refine jc ?_ ?_
 exact jr
 exact jv
 exact jv
 exact jr
end
section
variable {M:kM}(hM:M=jT)
include hM
theorem c41 {a:List iZ}{b:List iZ}{r:Bool}(O:yH a b=some r):iI 41 [.sl 15 (M.m iZ (jC M) a) false,.sl 15 (M.m iZ (jC M) b) false] (λu=>u=.sb r):=by
 refine jB jm func41 call41 ?_;intro S R hS hR;have q:=sf hM hS;unfold yH at O;cbv;refine jc ?_ ?_
 exact jr
 intro O;cbv;refine kE hS jm wf [] [0,1,5] (λs1=>f3 26 [(0,.sl 15 (M.m iZ (jC M) a) false),(1,.sl 15 (M.m iZ (jC M) b) false),(5,sI s1)] []) O ?_;intro Ik2 k2 s1 hk2 O e he;subst he;unfold xy at O;cbv;refine jc ?_ ?_
 intro O;cbv;refine rD hS ?_;cbv;refine kV ?_;intro x4 O;cbv;refine kV ?_;intro x5 O;cbv;replace O:=pO O;refine jc ?_ ?_
 exact jr
 exact jv
 exact jr
theorem c86 {t:iM}{first:Bool}{r:Bool}(O:Ha t first=some r):iI 86 [.agg (iY M t),.sb first] (λu=>u=.sb r):=by
 refine jB (je [2]) func86 call86 ?_;intro S R hS hR;have q:=sf hM hS;unfold Ha at O;cbv;refine jk hS [] [1,2,16] (λs1=>f3 35 [(1,.sb first),(2,.lv 0 0),(16,.sb s1)] [vR (iY M t)]) O ?_ ?_
 intro Ik2 k2 hk2 O;cbv;refine jc ?_ ?_<;>exact jv
 intro s1 O;cbv;refine jA hS O rfl ?_ ?_
 exact jr
 intro O;cbv;refine jA hS O rfl ?_ ?_
 intro O;cbv;refine jc ?_ ?_<;>exact jr
 intro O;cbv;refine jc ?_ ?_<;>exact jr
end
section
variable {M:kM}(hM:M=jT)
include hM
theorem c90 {s:iT}{id:Int}{r:Int}(O:CY s id=some r):iI 90 [.agg (jb M s),sI id] (λu=>u=sI r):=by
 refine jB jm func90 call90 ?_;intro S R hS hR;have q:=sf hM hS;unfold CY at O;cbv;refine kE hS jm wf [] [1,2,5] (λs1=>f3 22 [(1,sI id),(2,.lv 0 0),(5,sI s1)] [vR (jb M s)]) O ?_;intro Ik2 k2 s1 hk2 O e he;subst he;unfold Md at O;cbv;refine jc ?_ ?_
 intro O;cbv;refine kV ?_;intro x4 O;cbv;refine jc ?_ ?_
 exact jr
 exact jv
 exact jr
theorem apC {n:Int}{r:List Int}(O:QK n=some r):iI 285 [sI n] (λu=>u=.sl 1 (mI M r) false):=by
 refine jB jm func285 call285 ?_;intro S R hS hR;have q:=sf hM hS;unfold QK at O;cbv;refine kE hS jm wf [.tO 3 1] [0,3,4] (λU=>f3 15 [(0,sI n),(3,.os 0 0 (S.jD (mI M U.2))),(4,sI U.1)] [aR 1 (mI M U.2)]) O ?_;intro J k2 U T O e he;subst he;unfold Us at O;cbv;refine jc ?_ ?_
 intro O;cbv;refine jM hS O lS ?_;exact jv
 exact jr
theorem anO {kind:Int}{r:Bool}(O:Ed kind=some r):iI 284 [sI kind] (λu=>u=.sb r):=by
 refine jB jm func284 call284 ?_;intro S R hS hR;have q:=sf hM hS;unfold Ed at O;cbv;refine jc ?_ ?_
 exact jr
 intro O;cbv;refine jc ?_ ?_
 exact jr
 intro O;cbv;refine jc ?_ ?_
 exact jr
 intro O;cbv;refine jc ?_ ?_<;>exact jr
theorem c87 {all:List iM}{i:Int}{r:iM}(O:pG all i=some r):iI 87 [.sl 17 (M.m iM (iY M) all) false,sI i] (λu=>u=.agg (iY M r)):=by
 refine jB jm func87 call87 ?_;intro S R hS hR;have q:=sf hM hS;unfold pG at O;cbv;refine jc ?_ ?_
 exact gZ
 intro O;cbv;refine jc ?_ ?_
 exact gZ
 intro O;cbv;refine kV ?_;exact kS
theorem c152 {l:List iL}{r:List iL}(O:lY l=some r):iI 152 [.sl 3 (M.m iL (iQ M) l) false] (λu=>u=.sl 3 (M.m iL (iQ M) r) false):=by
 refine jB jm func152 call152 ?_;intro S R hS hR;have q:=sf hM hS;unfold lY at O;cbv;refine jM hS O lS ?_;exact jr
theorem c88 {source:Int}{object:Int}{l9:Int}{n:Int}{r:iZ}(O:NY source object l9 n=some r):iI 88 [sI source,sI object,sI l9,sI n] (λu=>u=.agg (jC M r)):=by
 refine jB jm func88 call88 ?_;intro S R hS hR;have q:=sf hM hS;unfold NY at O;cbv;exact tu
theorem c78 {l:List Int}{r:List Int}(O:yD l=some r):iI 78 [.sl 1 (mI M l) false] (λu=>u=.sl 1 (mI M r) false):=by
 refine jB jm func78 call78 ?_;intro S R hS hR;have q:=sf hM hS;unfold yD at O;cbv;refine jM hS O lS ?_;exact jr
end
section
variable {M:kM}(hM:M=jT)
include hM
theorem apD {c:jY}{r:jY}(O:zJ c=some r):iI 153 [.agg (mg M c)] (λu=>u=.agg (mg M r)):=by
 refine jB jm func153 call153 ?_;intro S R hS hR;have q:=sf hM hS;unfold zJ at O;cbv;refine jM hS O lS ?_;exact jr
theorem c96 {k:jy}{r:Int}(O:IU k=some r):iI 96 [.pp (mQ M k)] (λu=>u=sI r):=by
 refine jB jm func96 call96 ?_;intro S R hS hR;have q:=sf hM hS;unfold IU at O;cbv;exact tu
theorem c97 {k:jV}{r:Int}(O:IV k=some r):iI 97 [.pp (mD M k)] (λu=>u=sI r):=by
 refine jB jm func97 call97 ?_;intro S R hS hR;have q:=sf hM hS;unfold IV at O;cbv;exact tu
theorem c94 {k:jy}{r:Bool}(O:Kq k=some r):iI 94 [.pp (mQ M k)] (λu=>u=.sb r):=by
 refine jB jm func94 call94 ?_;intro S R hS hR;have q:=sf hM hS;unfold Kq at O;cbv;exact tu
theorem c95 {k:jV}{r:Bool}(O:Kr k=some r):iI 95 [.pp (mD M k)] (λu=>u=.sb r):=by
 refine jB jm func95 call95 ?_;intro S R hS hR;have q:=sf hM hS;unfold Kr at O;cbv;exact tu
end
end Go.Proofs.YtlacmdnhabblcaaGreat
