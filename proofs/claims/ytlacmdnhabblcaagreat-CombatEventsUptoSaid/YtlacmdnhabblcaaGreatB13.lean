import Derived.Test.YtlacmdnhabblcaaGreatB11
set_option linter.all false
namespace Go.Proofs.YtlacmdnhabblcaaGreat
open Go Go.Pv Proofs.Tryz
set_option maxRecDepth 100000
set_option maxHeartbeats 2000000
section
variable {M:kM}(hM:M=jT)
include hM
theorem c190 {l:List jI}{name:ByteArray}{r:Bool}(O:Le l name=some r):iI 190 [.sl 17 (M.m jI (lJ M) l) false,.str name] (λu=>u=.sb r):=by
 refine jB (je [8]) func190 call190 ?_;intro S R hS hR;have q:=sf hM hS;unfold Le at O;cbv;refine kE hS (je [8]) wf [] [0,1,5] (λs1=>f3 26 [(0,.sl 17 (M.m jI (lJ M) l) false),(1,.str name),(5,sI s1)] []) O ?_;intro Ik2 k2 s1 hk2 O e he;subst he;unfold Np at O;cbv;refine jc ?_ ?_
 intro O;cbv;refine jk hS [] [0,1,5,25] (λs4=>f3 26 [(0,.sl 17 (M.m jI (lJ M) l) false),(1,.str name),(5,sI s1),(25,.sb s4)] []) O ?_ ?_
 intro Ik5 k5 hk5 O;cbv;refine kV ?_;intro x7 O;cbv;refine jc ?_ ?_
 intro O;cbv;refine kV ?_;exact lu
 exact jv
 intro s4 O;cbv;refine jA hS O rfl ?_ ?_
 exact jr
 exact jv
 exact jr
theorem c339 {pr:rf}{r:Bool}(O:La pr=some r):iI 339 [.agg (vP M pr)] (λu=>u=.sb r):=by
 refine jB (je [2,6]) func339 call339 ?_;intro S R hS hR;have q:=sf hM hS;unfold La at O;cbv;refine jk hS [] [1,10] (λs1=>f3 30 [(1,.lv 0 0),(10,.sb s1)] [vR (vP M pr)]) O ?_ ?_
 intro Ik2 k2 hk2 O;cbv;refine jc ?_ ?_<;>exact jv
 intro s1 O;cbv;refine jA hS O rfl ?_ ?_
 exact jr
 intro O;cbv;refine jk hS [] [1,18] (λs4=>f3 30 [(1,.lv 0 0),(18,.sb s4)] [vR (vP M pr)]) O ?_ ?_
 intro Ik5 k5 hk5 O;cbv;refine jc ?_ ?_<;>exact jv
 intro s4 O;cbv;refine jA hS O rfl ?_ ?_
 intro O;cbv;refine jc ?_ ?_<;>exact jr
 exact jr
theorem c20 {a:List iL}{b:List iL}{r:Bool}(O:Iy a b=some r):iI 20 [.sl 3 (M.m iL (iQ M) a) false,.sl 3 (M.m iL (iQ M) b) false] (λu=>u=.sb r):=by
 refine jB jm func20 call20 ?_;intro S R hS hR;have q:=sf hM hS;unfold Iy at O;cbv;refine jc ?_ ?_
 exact jr
 intro O;cbv;refine kE hS jm wf [] [0,1,12,13] (λs1=>f3 26 [(0,.sl 3 (M.m iL (iQ M) a) false),(1,.sl 3 (M.m iL (iQ M) b) false),(12,sI (S.len (M.m iL (iQ M) a))),(13,sI s1)] []) O ?_;intro Ik2 k2 s1 hk2 O e he;subst he;unfold Ey at O;cbv;refine jc ?_ ?_
 intro O;cbv;refine rD hS ?_;cbv;refine kV ?_;intro x4 O;cbv;refine kV ?_;intro x5 O;cbv;replace O:=pO O;refine jc ?_ ?_
 exact jr
 exact jv
 exact jr
theorem amP {l:List Int}{n:Int}{r:Int}(O:DL l n=some r):iI 265 [.sl 1 (mI M l) false,sI n] (λu=>u=sI r):=by
 refine jB (je [9]) func265 call265 ?_;intro S R hS hR;have q:=sf hM hS;unfold DL at O;cbv;refine kE hS (je [9]) wf [] [0,1,5,6] (λU=>f3 22 [(0,.sl 1 (mI M l) false),(1,sI n),(5,sI U.1),(6,sI U.2)] []) O ?_;intro I k2 U J O e he;subst he;unfold Nq at O;cbv;refine jc ?_ ?_
 intro O;cbv;refine jk hS [] [0,1,5,6] (λT=>f3 22 [(0,.sl 1 (mI M l) false),(1,sI n),(5,sI T),(6,sI U.2)] []) O ?_ ?_
 intro g k5 C O;cbv;refine kV ?_;intro x7 O;cbv;refine jc ?_ ?_<;>exact jv
 intro T O;cbv;exact ng
 exact jr
theorem aow {a:List nN}{b:List nN}{r:Bool}(O:yQ a b=some r):iI 344 [.sl 20 (M.m nN (rE M) a) false,.sl 20 (M.m nN (rE M) b) false] (λu=>u=.sb r):=by
 refine jB jm func344 call344 ?_;intro S R hS hR;have q:=sf hM hS;unfold yQ at O;cbv;refine jc ?_ ?_
 exact jr
 intro O;cbv;refine kE hS jm wf [] [0,1,5] (λU=>f3 26 [(0,.sl 20 (M.m nN (rE M) a) false),(1,.sl 20 (M.m nN (rE M) b) false),(5,sI U)] []) O ?_;intro J k2 U T O e he;subst he;unfold FO at O;cbv;refine jc ?_ ?_
 intro O;cbv;refine rD hS ?_;cbv;refine kV ?_;intro I O;cbv;refine kV ?_;intro C O;cbv;replace O:=pO O;refine jc ?_ ?_
 exact jr
 exact jv
 exact jr
theorem c32 {a:List Int}{b:List Int}{r:Bool}(O:Lu a b=some r):iI 32 [.sl 1 (mI M a) false,.sl 1 (mI M b) false] (λu=>u=.sb r):=by
 refine jB jm func32 call32 ?_;intro S R hS hR;have q:=sf hM hS;unfold Lu at O;cbv;refine jc ?_ ?_
 exact jr
 intro O;cbv;refine kE hS jm wf [] [0,1,5] (λs1=>f3 26 [(0,.sl 1 (mI M a) false),(1,.sl 1 (mI M b) false),(5,sI s1)] []) O ?_;intro Ik2 k2 s1 hk2 O e he;subst he;unfold Jr at O;cbv;refine jc ?_ ?_
 intro O;cbv;refine rD hS ?_;cbv;refine kV ?_;intro x4 O;cbv;refine kV ?_;intro x5 O;cbv;refine jc ?_ ?_
 exact jr
 exact jv
 exact jr
theorem c141 {s:List iL}{v:iL}{r:Int}(O:rV s v=some r):iI 141 [.sl 3 (M.m iL (iQ M) s) false,.agg (iQ M v)] (λu=>u=sI r):=by
 refine jB jm func141 call141 ?_;intro S R hS hR;have q:=sf hM hS;unfold rV at O;cbv;refine kE hS jm wf [] [0,3,7,8] (λs1=>f3 19 [(0,.sl 3 (M.m iL (iQ M) s) false),(3,.lv 0 0),(7,sI (S.len (M.m iL (iQ M) s))),(8,sI s1)] [vR (iQ M v)]) O ?_;intro Ik2 k2 s1 hk2 O e he;subst he;unfold su at O;cbv;refine jc ?_ ?_
 intro O;cbv;refine rD hS ?_;cbv;refine kV ?_;intro x4 O;cbv;replace O:=pO O;refine jc ?_ ?_
 exact jr
 exact jv
 exact jr
theorem aox {u:Int}{r:ByteArray}(O:DD u=some r):iI 428 [.si .u64 u] (λu=>u=.str r):=by
 refine jB jm func428 call428 ?_;intro S R hS hR;have q:=sf hM hS;unfold DD at O;cbv;refine xW hS O rfl rfl ?_;intro x1 O;cbv;refine aly hS hM O ⟨5,by kernel_rfl,by kernel_rfl⟩ lS ?_;intro x2 O;cbv;refine xW hS O rfl rfl ?_;intro I O;cbv;refine kE hS jm wf [] [0,3] (λU=>f3 25 [(0,.si .u64 U.1),(3,.str U.2)] []) O ?_;intro J k5 U T O e he;subst he;unfold JR at O;cbv;refine jc ?_ ?_
 intro O;cbv;refine xW hS O rfl rfl ?_;intro g O;cbv;refine aly hS hM O ⟨5,by kernel_rfl,by kernel_rfl⟩ lS ?_;intro x8 O;cbv;refine qK hS O rfl rfl ?_;intro C O;cbv;refine xW hS O rfl rfl ?_;exact lu
 exact jr
theorem amQ {b:xX}{r:Bool}(O:DC b=some r):iI 334 [.agg (Nc M b)] (λu=>u=.sb r):=by
 refine jB (je [2]) func334 call334 ?_;intro S R hS hR;have q:=sf hM hS;unfold DC at O;cbv;refine jk hS [] [1,20] (λU=>f3 29 [(1,.lv 0 0),(20,.sb U)] [vR (Nc M b)]) O ?_ ?_
 intro J k2 T O;cbv;refine jc ?_ ?_
 exact jv
 intro O;cbv;refine jc ?_ ?_
 exact jv
 intro O;cbv;refine jc ?_ ?_<;>exact jv
 intro U O;cbv;refine jA hS O rfl ?_ ?_
 exact jr
 intro O;cbv;refine jc ?_ ?_<;>exact jr
theorem c67 {l:List iL}{o:iL}{r:Bool}(O:Ye l o=some r):iI 67 [.sl 3 (M.m iL (iQ M) l) false,.agg (iQ M o)] (λu=>u=.sb r):=by
 refine jB jm func67 call67 ?_;intro S R hS hR;have q:=sf hM hS;unfold Ye at O;cbv;refine kE hS jm wf [] [0,3,5] (λs1=>f3 18 [(0,.sl 3 (M.m iL (iQ M) l) false),(3,.lv 0 0),(5,sI s1)] [vR (iQ M o)]) O ?_;intro Ik2 k2 s1 hk2 O e he;subst he;unfold QD at O;cbv;refine jc ?_ ?_
 intro O;cbv;refine rD hS ?_;cbv;refine kV ?_;intro x4 O;cbv;replace O:=pO O;refine jc ?_ ?_
 exact jr
 exact jv
 exact jr
theorem aoy {s:List Int}{v:Int}{r:Int}(O:slices_Index_int s v=some r):iI 225 [.sl 1 (mI M s) false,sI v] (λu=>u=sI r):=by
 refine jB jm func225 call225 ?_;intro S R hS hR;have q:=sf hM hS;unfold slices_Index_int at O;cbv;refine kE hS jm wf [] [0,1,7,8] (λU=>f3 19 [(0,.sl 1 (mI M s) false),(1,sI v),(7,sI (S.len (mI M s))),(8,sI U)] []) O ?_;intro J k2 U T O e he;subst he;unfold vk at O;cbv;refine jc ?_ ?_
 intro O;cbv;refine kV ?_;intro I O;cbv;refine jc ?_ ?_
 exact jr
 exact jv
 exact jr
theorem aef {l:List ByteArray}{s:ByteArray}{r:List ByteArray}(O:Bq l s=some r):Pv.FW Tryz.prog JE 423 [.os 0 0 (M.n ByteArray l),.str s] [(0,(aR 1 (M.m ByteArray eS l)))] 1 (λu s n=>u=.os 1 0 (M.n ByteArray r)/\s=[(0,none),(1,(aR 1 (M.m ByteArray eS r)))]/\n=2):=by
 refine qw (T:=(Bg 1 [] [[(1,true)]])) (mG 1 [] [[(1,true)]]) wf func423 rfl call423 rfl ?_;intro S R hS hR;have q:=sf hM hS;unfold Bq at O;cbv;refine jc ?_ ?_
 exact gY
 intro O;cbv;refine jM hS O lS ?_;intro O;cbv;cases O;exact hR _ _ _ aj aj rfl
theorem c196 {l:List Int}{r:Bool}(O:Yc l=some r):iI 196 [.sl 1 (mI M l) false] (λu=>u=.sb r):=by
 refine jB jm func196 call196 ?_;intro S R hS hR;have q:=sf hM hS;unfold Yc at O;cbv;refine kE hS jm wf [] [0,3] (λs1=>f3 20 [(0,.sl 1 (mI M l) false),(3,sI s1)] []) O ?_;intro Ik2 k2 s1 hk2 O e he;subst he;unfold U6 at O;cbv;refine jc ?_ ?_
 intro O;cbv;refine rD hS ?_;cbv;refine acp hS hM O rfl lS ?_;intro x4 O;cbv;refine kV ?_;intro x5 O;cbv;refine jc ?_ ?_
 exact jr
 exact jv
 exact jr
theorem c126 {l:List jI}{name:ByteArray}{r:Int}(O:Po l name=some r):iI 126 [.sl 17 (M.m jI (lJ M) l) false,.str name] (λu=>u=sI r):=by
 refine jB jm func126 call126 ?_;intro S R hS hR;have q:=sf hM hS;unfold Po at O;cbv;refine kE hS jm wf [] [0,1,5] (λs1=>f3 20 [(0,.sl 17 (M.m jI (lJ M) l) false),(1,.str name),(5,sI s1)] []) O ?_;intro Ik2 k2 s1 hk2 O e he;subst he;unfold Pn at O;cbv;refine jc ?_ ?_
 intro O;cbv;refine kV ?_;intro x4 O;cbv;refine jc ?_ ?_
 exact jr
 exact jv
 exact jr
end
section
variable {M:kM}(hM:M=jT)
include hM
theorem amR {l:List ByteArray}{s:ByteArray}{r:Int}(O:Dz l s=some r):iI 330 [.sl 1 (M.m ByteArray eS l) false,.str s] (λu=>u=sI r):=by
 refine jB jm func330 call330 ?_;intro S R hS hR;have q:=sf hM hS;unfold Dz at O;cbv;refine kE hS jm wf [] [0,1,5] (λU=>f3 19 [(0,.sl 1 (M.m ByteArray eS l) false),(1,.str s),(5,sI U)] []) O ?_;intro J k2 U T O e he;subst he;unfold Nh at O;cbv;refine jc ?_ ?_
 intro O;cbv;refine kV ?_;intro I O;cbv;refine jc ?_ ?_
 exact jr
 exact jv
 exact jr
theorem c281 {l:List Int}{n:Int}{r:Int}(O:Lp l n=some r):iI 281 [.sl 1 (mI M l) false,sI n] (λu=>u=sI r):=by
 refine jB jm func281 call281 ?_;intro S R hS hR;have q:=sf hM hS;unfold Lp at O;cbv;refine kE hS jm wf [] [0,1,5] (λs1=>f3 19 [(0,.sl 1 (mI M l) false),(1,sI n),(5,sI s1)] []) O ?_;intro Ik2 k2 s1 hk2 O e he;subst he;unfold Gn at O;cbv;refine jc ?_ ?_
 intro O;cbv;refine kV ?_;intro x4 O;cbv;refine jc ?_ ?_
 exact jr
 exact jv
 exact jr
theorem c173 {s:iT}{id:Int}{r:Int}(O:DJ s id=some r):iI 173 [.agg (jb M s),sI id] (λu=>u=sI r):=by
 refine jB jm func173 call173 ?_;intro S R hS hR;have q:=sf hM hS;unfold DJ at O;cbv;refine kE hS jm wf [] [1,2,5] (λs1=>f3 22 [(1,sI id),(2,.lv 0 0),(5,sI s1)] [vR (jb M s)]) O ?_;intro Ik2 k2 s1 hk2 O e he;subst he;unfold BD at O;cbv;refine jc ?_ ?_
 intro O;cbv;refine kV ?_;intro x4 O;cbv;refine jc ?_ ?_
 exact jr
 exact jv
 exact jr
theorem aoz {s:iT}{id:Int}{r:Int}(O:DR s id=some r):iI 278 [.agg (jb M s),sI id] (λu=>u=sI r):=by
 refine jB jm func278 call278 ?_;intro S R hS hR;have q:=sf hM hS;unfold DR at O;cbv;refine kE hS jm wf [] [1,2,5] (λU=>f3 22 [(1,sI id),(2,.lv 0 0),(5,sI U)] [vR (jb M s)]) O ?_;intro J k2 U T O e he;subst he;unfold Nw at O;cbv;refine jc ?_ ?_
 intro O;cbv;refine kV ?_;intro I O;cbv;refine jc ?_ ?_
 exact jr
 exact jv
 exact jr
theorem amS {l:List Int}{i:Int}{r:Bool}(O:NC l i=some r):iI 355 [.sl 1 (mI M l) false,sI i] (λu=>u=.sb r):=by
 refine jB jm func355 call355 ?_;intro S R hS hR;have q:=sf hM hS;unfold NC at O;cbv;refine kE hS jm wf [] [0,1,5] (λU=>f3 18 [(0,.sl 1 (mI M l) false),(1,sI i),(5,sI U)] []) O ?_;intro J k2 U T O e he;subst he;unfold Nz at O;cbv;refine jc ?_ ?_
 intro O;cbv;refine kV ?_;intro I O;cbv;refine jc ?_ ?_
 exact jr
 exact jv
 exact jr
theorem c406 {op:Int}{r:ByteArray}(O:O4 op=some r):iI 406 [sI op] (λu=>u=.str r):=by
 refine jB (je [2]) func406 call406 ?_;intro S R hS hR;have q:=sf hM hS;unfold O4 at O;cbv;refine jk hS [] [0,9] (λs1=>f3 16 [(0,sI op),(9,.sb s1)] []) O ?_ ?_
 intro Ik2 k2 hk2 O;cbv;refine jc ?_ ?_<;>exact jv
 intro s1 O;cbv;refine jA hS O rfl ?_ ?_
 exact jr
 intro O;cbv;refine wM hS O rfl lS ?_;intro j4 _ O;cbv;refine qJ hS hM (e:=eS) O lS lS ?_;exact kS
theorem amT {needs:List (List Bool)}{i:Int}{j:Int}{r:Bool}(O:Iu needs i j=some r):iI 354 [.sl 1 (M.m (List Bool) (eL M 1 eB) needs) false,sI i,sI j] (λu=>u=.sb r):=by
 refine jB jm func354 call354 ?_;intro S R hS hR;have q:=sf hM hS;unfold Iu at O;cbv;refine jc ?_ ?_
 intro O;cbv;refine kV ?_;intro U O;cbv;refine jc ?_ ?_
 intro O;cbv;refine kV ?_;intro T O;cbv;refine kV ?_;exact kS
 exact jr
 exact jr
theorem amU {i:Int}{r:ByteArray}(O:Ig i=some r):iI 417 [sI i] (λu=>u=.str r):=by
 refine jB jm func417 call417 ?_;intro S R hS hR;have q:=sf hM hS;unfold Ig at O;cbv;refine jc ?_ ?_
 exact jr
 intro O;cbv;refine jc ?_ ?_
 exact jr
 intro O;cbv;refine jc ?_ ?_
 exact jr
 intro O;cbv;refine jc ?_ ?_
 exact jr
 intro O;cbv;refine jc ?_ ?_<;>exact jr
theorem aoA {when:Int}{r:Bool}(O:DF when=some r):iI 336 [sI when] (λu=>u=.sb r):=by
 refine jB jm func336 call336 ?_;intro S R hS hR;have q:=sf hM hS;unfold DF at O;cbv;refine jc ?_ ?_
 exact jr
 intro O;cbv;refine jc ?_ ?_
 exact jr
 intro O;cbv;refine jc ?_ ?_
 exact jr
 intro O;cbv;refine jc ?_ ?_
 exact jr
 intro O;cbv;refine jc ?_ ?_<;>exact jr
theorem c467 {p:rQ Int}{r:oH}(O:Pg p=some r):iI 467 [.agg [sI p.a0,sI p.a1,sI p.a2,sI p.a3,sI p.a4,sI p.a5]] (λu=>u=.agg (pV M r)):=by
 refine jB (je [6]) func467 call467 ?_;intro S R hS hR;have q:=sf hM hS;unfold Pg at O;cbv;refine GU hS (je [6]) wf 7 ?_;intro g1 hg1;refine hg1 _ _ ?_;cbv;refine nJ hS ?_;cbv;refine hg1 _ _ ?_;cbv;refine nJ hS ?_;cbv;refine hg1 _ _ ?_;cbv;refine nJ hS ?_;cbv;refine hg1 _ _ ?_;cbv;refine nJ hS ?_;cbv;refine hg1 _ _ ?_;cbv;refine nJ hS ?_;cbv;refine hg1 _ _ ?_;cbv;refine nJ hS ?_;cbv;exact tu
theorem amV {mask:Int}{i:Int}{r:Bool}(O:Nj mask i=some r):iI 257 [sI mask,sI i] (λu=>u=.sb r):=by
 refine jB jm func257 call257 ?_;intro S R hS hR;have q:=sf hM hS;unfold Nj at O;cbv;refine kE hS jm wf [] [0,1,5] (λU=>f3 16 [(0,sI U.1),(1,sI i),(5,sI U.2)] []) O ?_;intro J k2 U T O e he;subst he;unfold Ry at O;cbv;refine jc ?_ ?_
 intro O;cbv;refine xW hS O rfl rfl ?_;exact lu
 intro O;cbv;refine xW hS O rfl rfl ?_;exact kS
theorem aiC {mask:Int}{i:Int}{r:Bool}(O:Gi mask i=some r):iI 424 [sI mask,sI i] (λu=>u=.sb r):=by
 refine jB jm func424 call424 ?_;intro S R hS hR;have q:=sf hM hS;unfold Gi at O;cbv;refine kE hS jm wf [] [0,1,5] (λU=>f3 16 [(0,sI U.1),(1,sI i),(5,sI U.2)] []) O ?_;intro J k2 U T O e he;subst he;unfold Rz at O;cbv;refine jc ?_ ?_
 intro O;cbv;refine xW hS O rfl rfl ?_;exact lu
 intro O;cbv;refine xW hS O rfl rfl ?_;exact kS
theorem amW {b:xX}{n:Int}{r:Bool}(O:DU b n=some r):iI 429 [.agg (Nc M b),sI n] (λu=>u=.sb r):=by
 refine jB jm func429 call429 ?_;intro S R hS hR;have q:=sf hM hS;unfold DU at O;cbv;refine jc ?_ ?_
 exact jr
 intro O;cbv;refine jc ?_ ?_
 exact jr
 intro O;cbv;refine jc ?_ ?_
 exact jr
 intro O;cbv;refine jc ?_ ?_<;>exact jr
theorem c363 {all:List iM}{i:Int}{r:iM}(O:Yd all i=some r):iI 363 [.sl 17 (M.m iM (iY M) all) false,sI i] (λu=>u=.agg (iY M r)):=by
 refine jB jm func363 call363 ?_;intro S R hS hR;have q:=sf hM hS;unfold Yd at O;cbv;refine jc ?_ ?_
 exact gZ
 intro O;cbv;refine jc ?_ ?_
 exact gZ
 intro O;cbv;refine kV ?_;exact kS
theorem aoB {kind:Int}{r:ByteArray}(O:Ld kind=some r):iI 409 [sI kind] (λu=>u=.str r):=by
 refine jB jm func409 call409 ?_;intro S R hS hR;have q:=sf hM hS;unfold Ld at O;cbv;refine jc ?_ ?_
 exact jr
 intro O;cbv;refine jc ?_ ?_
 exact jr
 intro O;cbv;refine jc ?_ ?_<;>exact jr
theorem c357 {control:Int}{you:Int}{w:Int}{r:Bool}(O:TQ control you w=some r):iI 357 [sI control,sI you,sI w] (λu=>u=.sb r):=by
 refine jB jm func357 call357 ?_;intro S R hS hR;have q:=sf hM hS;unfold TQ at O;cbv;refine jc ?_ ?_
 exact jr
 intro O;cbv;refine jc ?_ ?_<;>exact jr
theorem c358 {id:Int}{source:Int}{w:Int}{r:Bool}(O:PI id source w=some r):iI 358 [sI id,sI source,sI w] (λu=>u=.sb r):=by
 refine jB jm func358 call358 ?_;intro S R hS hR;have q:=sf hM hS;unfold PI at O;cbv;refine jc ?_ ?_
 exact jr
 intro O;cbv;refine jc ?_ ?_<;>exact jr
theorem c62 {all:List iM}{i:Int}{r:iM}(O:pq all i=some r):iI 62 [.sl 17 (M.m iM (iY M) all) false,sI i] (λu=>u=.agg (iY M r)):=by
 refine jB jm func62 call62 ?_;intro S R hS hR;have q:=sf hM hS;unfold pq at O;cbv;refine jc ?_ ?_
 intro O;cbv;refine kV ?_;exact kS
 intro O;cbv;cases O;exact hR _ oW
theorem c63 {all:List iM}{i:Int}{r:iM}(O:wC all i=some r):iI 63 [.sl 17 (M.m iM (iY M) all) false,sI i] (λu=>u=.agg (iY M r)):=by
 refine jB jm func63 call63 ?_;intro S R hS hR;have q:=sf hM hS;unfold wC at O;cbv;refine jc ?_ ?_
 intro O;cbv;refine kV ?_;exact kS
 intro O;cbv;cases O;exact hR _ oW
theorem amX {stamps:List Int}{i:Int}{r:Int}(O:DW stamps i=some r):iI 277 [.sl 1 (mI M stamps) false,sI i] (λu=>u=sI r):=by
 refine jB jm func277 call277 ?_;intro S R hS hR;have q:=sf hM hS;unfold DW at O;cbv;refine jc ?_ ?_
 intro O;cbv;refine kV ?_;exact kS
 exact jr
theorem c359 {nC:Bool}{w:Int}{r:Bool}(O:TR nC w=some r):iI 359 [.sb nC,sI w] (λu=>u=.sb r):=by
 refine jB jm func359 call359 ?_;intro S R hS hR;have q:=sf hM hS;unfold TR at O;cbv;refine jc ?_ ?_
 exact jr
 intro O;cbv;refine jc ?_ ?_<;>exact jr
theorem aoC {mask:Int}{r:Bool}(O:Am mask=some r):iI 347 [sI mask] (λu=>u=.sb r):=by
 refine jB jm func347 call347 ?_;intro S R hS hR;have q:=sf hM hS;unfold Am at O;cbv;refine jc ?_ ?_
 intro O;cbv;refine jc ?_ ?_<;>exact jr
 exact jr
theorem c146 {n:Int}{r:Int}(O:qc n=some r):iI 146 [sI n] (λu=>u=sI r):=by
 refine jB jm func146 call146 ?_;intro S R hS hR;have q:=sf hM hS;unfold qc at O;cbv;refine jc ?_ ?_
 exact jr
 intro O;cbv;refine jc ?_ ?_<;>exact jr
theorem TT {n:Int}{least:Int}{most:Int}{r:Bool}(O:vT n least most=some r):iI 128 [sI n,sI least,sI most] (λu=>u=.sb r):=by
 refine jB jm func128 call128 ?_;intro S R hS hR;have q:=sf hM hS;unfold vT at O;cbv;refine jc ?_ ?_<;>exact jr
theorem c57 {mask:Int}{bit:Int}{r:Bool}(O:zN mask bit=some r):iI 57 [sI mask,sI bit] (λu=>u=.sb r):=by
 refine jB jm func57 call57 ?_;intro S R hS hR;have q:=sf hM hS;unfold zN at O;cbv;refine xW hS O rfl rfl ?_;intro x1 O;cbv;refine xW hS O rfl rfl ?_;exact kS
theorem c465 {kind:Int}{r:Bool}(O:Bv kind=some r):iI 465 [sI kind] (λu=>u=.sb r):=by
 refine jB jm func465 call465 ?_;intro S R hS hR;have q:=sf hM hS;unfold Bv at O;cbv;refine jc ?_ ?_<;>exact jr
theorem c189 {c:jI}{r:Bool}(O:Pj c=some r):iI 189 [.agg (lJ M c)] (λu=>u=.sb r):=by
 refine jB jm func189 call189 ?_;intro S R hS hR;have q:=sf hM hS;unfold Pj at O;cbv;refine jc ?_ ?_<;>exact jr
theorem aiD {l:List Int}{r:List Int}(O:BG l=some r):iI 343 [.sl 1 (mI M l) false] (λu=>u=.sl 1 (mI M r) false):=by
 refine jB jm func343 call343 ?_;intro S R hS hR;have q:=sf hM hS;unfold BG at O;cbv;refine jM hS O lS ?_;exact jr
theorem aoD {mask:Int}{r:Bool}(O:OW mask=some r):iI 186 [sI mask] (λu=>u=.sb r):=by
 refine jB jm func186 call186 ?_;intro S R hS hR;have q:=sf hM hS;unfold OW at O;cbv;refine jc ?_ ?_<;>exact jr
theorem c416 {mask:Int}{r:Bool}(O:X5 mask=some r):iI 416 [sI mask] (λu=>u=.sb r):=by
 refine jB jm func416 call416 ?_;intro S R hS hR;have q:=sf hM hS;unfold X5 at O;cbv;refine jc ?_ ?_<;>exact jr
theorem aoE {c:Int}{r:Bool}(O:QA c=some r):iI 255 [.si .u8 c] (λu=>u=.sb r):=by
 refine jB jm func255 call255 ?_;intro S R hS hR;have q:=sf hM hS;unfold QA at O;cbv;refine jc ?_ ?_<;>exact jr
end
end Go.Proofs.YtlacmdnhabblcaaGreat
