import Derived.Test.YtlacmdnhabblcaaGreatB14
set_option linter.all false
namespace Go.Proofs.YtlacmdnhabblcaaGreat
open Go Go.Pv Proofs.Tryz
set_option maxRecDepth 100000
set_option maxHeartbeats 2000000
section
variable {M:kM}(hM:M=jT)
include hM
theorem c415 {l:List ByteArray}{mask:Int}{pby:ByteArray}{r:ByteArray}(O:Ie l mask pby=some r):iI 415 [.sl 1 (M.m ByteArray eS l) false,sI mask,.str pby] (λu=>u=.str r):=by
 refine jB (je [9,17]) func415 call415 ?_;intro S R hS hR;have q:=sf hM hS;unfold Ie at O;cbv;refine kE hS (je [9,17]) wf [] [0,1,2,7,8] (λs1=>f3 30 [(0,.sl 1 (M.m ByteArray eS l) false),(1,sI mask),(2,.str pby),(7,.str s1.1),(8,sI s1.2)] []) O ?_;intro Ik2 k2 s1 hk2 O e he;subst he;unfold Eo at O;cbv;refine jc ?_ ?_
 intro O;cbv;refine jk hS [] [0,1,2,7,8] (λs4=>f3 30 [(0,.sl 1 (M.m ByteArray eS l) false),(1,sI mask),(2,.str pby),(7,.str s4),(8,sI s1.2)] []) O ?_ ?_
 intro Ik5 k5 hk5 O;cbv;refine jK hS O (λ_=>amV hM) ?_;intro y7 O;cbv;refine jA hS O rfl ?_ ?_
 intro O;cbv;refine jk hS [] [0,1,2,7,8] (λs8=>f3 30 [(0,.sl 1 (M.m ByteArray eS l) false),(1,sI mask),(2,.str pby),(7,.str s8),(8,sI s1.2)] []) O ?_ ?_
 intro Ik9 k9 hk9 O;cbv;refine jc ?_ ?_
 intro O;cbv;refine qK hS O rfl rfl ?_;exact lu
 exact jv
 intro s8 O;cbv;refine kV ?_;intro x12 O;cbv;refine qK hS O rfl rfl ?_;exact lu
 exact jv
 intro s4 O;cbv;exact ng
 exact jr
theorem c17 {b:iW}{tb:iM}{a:iW}{ta:iM}{r:Bool}(O:TS b tb a ta=some r):iI 17 [.agg (ja M b),.agg (iY M tb),.agg (ja M a),.agg (iY M ta)] (λu=>u=.sb r):=by
 refine jB (je [2]) func17 call17 ?_;intro S R hS hR;have q:=sf hM hS;unfold TS at O;cbv;refine jk hS [] [5,7,27] (λs1=>f3 42 [(5,.lv 0 0),(7,.lv 1 0),(27,.sb s1)] [vR (iY M tb),vR (iY M ta)]) O ?_ ?_
 intro Ik2 k2 hk2 O;cbv;refine jK hS O (λ_=>c57 hM) ?_;intro y4 O;cbv;refine jc ?_ ?_
 exact jv
 intro O;cbv;refine jA hS O rfl ?_ ?_
 exact jv
 intro O;cbv;refine jK hS O (λ_=>c57 hM) ?_;intro y5 O;cbv;refine jA hS O rfl ?_ ?_
 exact jv
 intro O;cbv;refine jK hS O (λ_=>c57 hM) ?_;exact lu
 intro s1 O;cbv;refine jA hS O rfl ?_ ?_
 exact jr
 intro O;cbv;refine jK hS O (λ_=>c57 hM) ?_;intro y7 O;cbv;refine jc ?_ ?_
 exact jr
 intro O;cbv;refine jK hS O (λ_=>c57 hM) ?_;intro y8 O;cbv;refine jA hS O rfl ?_ ?_
 exact jr
 intro O;cbv;refine jK hS O (λ_=>c57 hM) ?_;exact kS
theorem c414 {a:jX}{b:jX}{r:Bool}(O:PD a b=some r):iI 414 [.agg (mf M a),.agg (mf M b)] (λu=>u=.sb r):=by
 refine jB jm func414 call414 ?_;intro S R hS hR;have q:=sf hM hS;unfold PD at O;cbv;refine jc ?_ ?_
 intro O;cbv;replace O:=pO O;refine jc ?_ ?_
 intro O;cbv;replace O:=pO O;refine jc ?_ ?_
 intro O;cbv;refine jc ?_ ?_
 intro O;cbv;refine jc ?_ ?_
 intro O;cbv;refine jc ?_ ?_
 intro O;cbv;replace O:=pO O;refine jc ?_ ?_
 intro O;cbv;replace O:=pO O;refine jc ?_ ?_
 intro O;cbv;refine jK hS O (λ_=>aow hM) ?_;exact kS
 exact jr
 exact jr
 exact jr
 exact jr
 exact jr
 exact jr
 exact jr
 exact jr
theorem c210 {f:jJ}{stage:Int}{r:Bool}(O:Lt f stage=some r):iI 210 [.agg (kP M f),sI stage] (λu=>u=.sb r):=by
 refine jB (je [8]) func210 call210 ?_;intro S R hS hR;have q:=sf hM hS;unfold Lt at O;cbv;refine kE hS (je [8]) wf [] [1,2,5] (λs1=>f3 31 [(1,sI stage),(2,.lv 0 0),(5,sI s1)] [vR (kP M f)]) O ?_;intro Ik2 k2 s1 hk2 O e he;subst he;unfold Ny at O;cbv;refine jc ?_ ?_
 intro O;cbv;refine jk hS [] [1,2,5,30] (λs4=>f3 31 [(1,sI stage),(2,.lv 0 0),(5,sI s1),(30,.sb s4)] [vR (kP M f)]) O ?_ ?_
 intro Ik5 k5 hk5 O;cbv;refine kV ?_;intro x7 O;cbv;refine jc ?_ ?_
 intro O;cbv;refine kV ?_;intro x8 O;cbv;refine jK hS O (λ_=>c201 hM) ?_;exact lu
 exact jv
 intro s4 O;cbv;refine jA hS O rfl ?_ ?_
 exact jr
 exact jv
 exact jr
theorem akQ {w:jP}{i:Int}{r:Bool}(O:yg w i=some r):iI 204 [.agg (kL M w),sI i] (λu=>u=.sb r):=by
 refine jB (je [2]) func204 call204 ?_;intro S R hS hR;have q:=sf hM hS;unfold yg at O;cbv;refine jk hS [] [1,2,18] (λU=>f3 38 [(1,sI i),(2,.lv 0 0),(18,.sb U)] [vR (kL M w)]) O ?_ ?_
 intro J k2 T O;cbv;refine kV ?_;intro C O;cbv;refine jA hS O rfl ?_ ?_
 exact jv
 intro O;cbv;refine kV ?_;exact lu
 intro U O;cbv;refine jA hS O rfl ?_ ?_
 exact jr
 intro O;cbv;refine rD hS ?_;cbv;refine kV ?_;intro g O;cbv;refine rZ hS O (λ_=>aoz hM) ?_;intro I O;cbv;refine jc ?_ ?_
 exact jr
 intro O;cbv;refine kV ?_;exact kS
theorem akR {w:jP}{i:Int}{r:Int}(O:Gm w i=some r):iI 207 [.agg (kL M w),sI i] (λu=>u=sI r):=by
 refine jB (je [4]) func207 call207 ?_;intro S R hS hR;have q:=sf hM hS;unfold Gm at O;cbv;refine rD hS ?_;cbv;refine kV ?_;intro C O;cbv;refine rZ hS O (λ_=>aoz hM) ?_;intro T O;cbv;refine jk hS [] [1,2,5,24] (λU=>f3 37 [(1,sI i),(2,.lv 0 0),(5,sI T),(24,.sb U)] [vR (kL M w)]) O ?_ ?_
 intro J k4 hk4 O;cbv;refine kV ?_;intro I O;cbv;refine jA hS O rfl ?_ ?_<;>exact jv
 intro U O;cbv;refine jA hS O rfl ?_ ?_
 intro O;cbv;refine kV ?_;exact kS
 intro O;cbv;refine kV ?_;exact kS
theorem amY {s:List iL}{U:iL}{r:Int}(O:mi s (λa0=>uO a0 U)=some r):iI 140 [.sl 3 (M.m iL (iQ M) s) false,.fn 65 [.pp (iQ M U)]] (λu=>u=sI r):=by
 refine jB jm func140 call140 ?_;intro S R hS hR;have q:=sf hM hS;unfold mi at O;cbv;refine kE hS jm wf [] [0,1,7,8] (λT=>f3 19 [(0,.sl 3 (M.m iL (iQ M) s) false),(1,.fn 65 [.pp (iQ M U)]),(7,sI (S.len (M.m iL (iQ M) s))),(8,sI T)] []) O ?_;intro I k2 T J O e he;subst he;unfold nU at O;cbv;refine jc ?_ ?_
 intro O;cbv;refine kV ?_;intro C O;cbv;refine jK hS O (λ_=>c65 hM) ?_;intro g O;cbv;refine jA hS O rfl ?_ ?_
 exact jr
 exact jv
 exact jr
theorem c68 {s:iT}{all:List iM}{id:Int}{r:Bool}(O:Iz s all id=some r):iI 68 [.agg (jb M s),.sl 17 (M.m iM (iY M) all) false,sI id] (λu=>u=.sb r):=by
 refine jB jm func68 call68 ?_;intro S R hS hR;have q:=sf hM hS;unfold Iz at O;cbv;refine kE hS jm wf [] [1,2,3,7] (λs1=>f3 28 [(1,.sl 17 (M.m iM (iY M) all) false),(2,sI id),(3,.lv 0 0),(7,sI s1)] [vR (jb M s)]) O ?_;intro Ik2 k2 s1 hk2 O e he;subst he;unfold ED at O;cbv;refine jc ?_ ?_
 intro O;cbv;refine kV ?_;intro x4 O;cbv;refine jc ?_ ?_
 intro O;cbv;refine jK hS O (λ_=>c63 hM) ?_;intro y5 O;cbv;refine jK hS O (λ_=>c57 hM) ?_;exact kS
 exact jv
 exact jr
theorem c136 {f:jJ}{stage:Int}{r:Bool}(O:Fg f stage=some r):iI 136 [.agg (kP M f),sI stage] (λu=>u=.sb r):=by
 refine jB jm func136 call136 ?_;intro S R hS hR;have q:=sf hM hS;unfold Fg at O;cbv;refine kE hS jm wf [] [1,2,5] (λs1=>f3 22 [(1,sI stage),(2,.lv 0 0),(5,sI s1)] [vR (kP M f)]) O ?_;intro Ik2 k2 s1 hk2 O e he;subst he;unfold Iq at O;cbv;refine jc ?_ ?_
 intro O;cbv;refine kV ?_;intro x4 O;cbv;refine jK hS O (λ_=>c201 hM) ?_;intro y5 O;cbv;refine jc ?_ ?_
 exact jr
 exact jv
 exact jr
end
section
variable {M:kM}(hM:M=jT)
include hM
theorem acV {op:Int}{field:Int}{r:Bool}(O:wP op field=some r):iI 407 [sI op,.si .u8 field] (λu=>u=.sb r):=by
 refine jB jm func407 call407 ?_;intro S R hS hR;have q:=sf hM hS;unfold wP at O;cbv;refine jK hS O (λ_=>c464 hM) ?_;intro y1 O;cbv;refine kE hS jm wf [] [1,5,6] (λU=>f3 20 [(1,.si .u8 field),(5,.str y1),(6,sI U)] []) O ?_;intro J k3 U T O e he;subst he;unfold O6 at O;cbv;refine jc ?_ ?_
 intro O;cbv;refine QR hS O rfl rfl ?_;intro I O;cbv;refine jc ?_ ?_
 exact jr
 exact jv
 exact jr
theorem c259 {p:uh}{r:Bool}(O:KX p=some r):iI 259 [.agg (xk M p)] (λu=>u=.sb r):=by
 refine jB jm func259 call259 ?_;intro S R hS hR;have q:=sf hM hS;unfold KX at O;cbv;refine jK hS O (λ_=>agr hM) ?_;intro y1 O;cbv;refine jA hS O rfl ?_ ?_
 intro O;cbv;refine jc ?_ ?_
 intro O;cbv;refine jc ?_ ?_<;>exact jr
 exact jr
 exact jr
theorem c337 {when:Int}{r:Bool}(O:zD when=some r):iI 337 [sI when] (λu=>u=.sb r):=by
 refine jB jm func337 call337 ?_;intro S R hS hR;have q:=sf hM hS;unfold zD at O;cbv;refine jK hS O (λ_=>aov hM) ?_;intro y1 O;cbv;refine jc ?_ ?_
 intro O;cbv;refine jK hS O (λ_=>aoA hM) ?_;intro y2 O;cbv;refine jc ?_ ?_<;>exact jr
 exact jr
theorem aoH {i:Int}{r:ByteArray}(O:KT i=some r):iI 418 [sI i] (λu=>u=.str r):=by
 refine jB jm func418 call418 ?_;intro S R hS hR;have q:=sf hM hS;unfold KT at O;cbv;refine jc ?_ ?_
 exact jr
 intro O;cbv;refine jc ?_ ?_
 exact jr
 intro O;cbv;refine jK hS O (λ_=>c468 hM) ?_;intro y1 O;cbv;refine kV ?_;exact kS
theorem ags {n:Int}{r:ByteArray}(O:zC n=some r):iI 352 [sI n] (λu=>u=.str r):=by
 refine jB jm func352 call352 ?_;intro S R hS hR;have q:=sf hM hS;unfold zC at O;cbv;refine jc ?_ ?_
 intro O;cbv;refine qU hS O (λ_=>aox hM) xB ?_;intro y1 O;cbv;refine qK hS O rfl rfl ?_;exact kS
 intro O;cbv;refine qU hS O (λ_=>aox hM) xB ?_;exact kS
theorem c117 {s:iT}{id:Int}{r:iW×Bool}(O:E8 s id=some r):iI 117 [.agg (jb M s),sI id] (λu=>u=.IX [.agg (ja M r.1),.sb r.2]):=by
 refine jB jm func117 call117 ?_;intro S R hS hR;have q:=sf hM hS;unfold E8 at O;cbv;refine jK hS O (λ_=>c173 hM) ?_;intro y1 O;cbv;refine jc ?_ ?_
 exact jr
 intro O;cbv;refine kV ?_;exact kS
theorem Yf {a:Int}{b:Int}{r:Int}(O:uw a b=some r):iI 200 [sI a,sI b] (λu=>u=sI r):=by
 refine jB jm func200 call200 ?_;intro S R hS hR;have q:=sf hM hS;unfold uw at O;cbv;refine jK hS O (λ_=>c146 hM) ?_;intro y1 O;cbv;refine jK hS O (λ_=>c146 hM) ?_;intro U O;cbv;refine qU hS O (λ_=>c146 hM) xB ?_;exact kS
theorem aoI {a:Int}{b:Int}{r:Int}(O:QC a b=some r):iI 470 [sI a,sI b] (λu=>u=sI r):=by
 refine jB jm func470 call470 ?_;intro S R hS hR;have q:=sf hM hS;unfold QC at O;cbv;refine jK hS O (λ_=>c146 hM) ?_;intro y1 O;cbv;refine jK hS O (λ_=>c146 hM) ?_;intro U O;cbv;refine qU hS O (λ_=>c146 hM) xB ?_;exact kS
theorem c76 {a:Int}{b:Int}{r:Int}(O:Jp a b=some r):iI 76 [sI a,sI b] (λu=>u=sI r):=by
 refine jB jm func76 call76 ?_;intro S R hS hR;have q:=sf hM hS;unfold Jp at O;cbv;refine jK hS O (λ_=>c146 hM) ?_;intro y1 O;cbv;refine jK hS O (λ_=>c146 hM) ?_;intro y2 O;cbv;refine qU hS O (λ_=>c146 hM) xB ?_;exact kS
theorem c66 {s:List iL}{v:iL}{r:Bool}(O:pz s v=some r):iI 66 [.sl 3 (M.m iL (iQ M) s) false,.agg (iQ M v)] (λu=>u=.sb r):=by
 refine jB jm func66 call66 ?_;intro S R hS hR;have q:=sf hM hS;unfold pz at O;cbv;refine jK hS O (λ_=>c141 hM) ?_;exact kS
theorem aoJ {s:List Int}{v:Int}{r:Bool}(O:slices_Contains_int s v=some r):iI 170 [.sl 1 (mI M s) false,sI v] (λu=>u=.sb r):=by
 refine jB jm func170 call170 ?_;intro S R hS hR;have q:=sf hM hS;unfold slices_Contains_int at O;cbv;refine jK hS O (λ_=>aoy hM) ?_;exact kS
theorem c130 {s:iT}{p:Int}{r:Bool}(O:pF s p=some r):iI 130 [.agg (jb M s),sI p] (λu=>u=.sb r):=by
 refine jB jm func130 call130 ?_;intro S R hS hR;have q:=sf hM hS;unfold pF at O;cbv;refine qU hS O (λ_=>TT hM) xB ?_;exact kS
theorem c55 {t:iM}{key:Int}{r:Bool}(O:uy t key=some r):iI 55 [.agg (iY M t),sI key] (λu=>u=.sb r):=by
 refine jB jm func55 call55 ?_;intro S R hS hR;have q:=sf hM hS;unfold uy at O;cbv;refine jK hS O (λ_=>c56 hM) ?_;exact kS
theorem c208 {l:List Int}{n:Int}{r:Bool}(O:QB l n=some r):iI 208 [.sl 1 (mI M l) false,sI n] (λu=>u=.sb r):=by
 refine jB jm func208 call208 ?_;intro S R hS hR;have q:=sf hM hS;unfold QB at O;cbv;refine jK hS O (λ_=>c281 hM) ?_;exact kS
theorem aoK {l:wu}{sub:ByteArray}{r:Bool}(O:DT l sub=some r):iI 361 [.agg (Bh M l),.str sub] (λu=>u=.sb r):=by
 refine jB jm func361 call361 ?_;intro S R hS hR;have q:=sf hM hS;unfold DT at O;cbv;refine jK hS O (λ_=>amR hM) ?_;exact kS
end
end Go.Proofs.YtlacmdnhabblcaaGreat
