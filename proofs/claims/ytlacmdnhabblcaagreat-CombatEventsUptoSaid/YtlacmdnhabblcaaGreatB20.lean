import Derived.Test.YtlacmdnhabblcaaGreatB19
set_option linter.all false
namespace Go.Proofs.YtlacmdnhabblcaaGreat
open Go Go.Pv Proofs.Tryz
set_option maxRecDepth 100000
set_option maxHeartbeats 2000000
section
variable {M:kM}(hM:M=jT)
include hM
theorem am4 {w:jP}{i:Int}{r:List Int}(O:yj w i=some r):iI 205 [.agg (kL M w),sI i] (λu=>u=.sl 1 (mI M r) false):=by
 refine jB (je [19,24]) func205 call205 ?_;intro S R hS hR;have q:=sf hM hS;unfold yj at O;cbv;refine kV ?_;intro x1 O;cbv;refine jA hS O rfl ?_ ?_
 intro O;cbv;refine kV ?_;exact kS
 intro O;cbv;refine jK hS O (λ_=>akQ hM) ?_;intro y3 O;cbv;refine jc ?_ ?_
 exact jr
 intro O;cbv;refine kV ?_;intro I O;cbv;refine kE hS (je [19,24]) wf [] [1,2,5,6,7] (λU=>f3 83 [(1,sI i),(2,.lv 0 0),(5,.os 1 0 (S.jD (mI M U.2))),(6,.lv 2 0),(7,sI U.1)] [vR (kL M w),aR 1 (mI M U.2),vR (kP M I)]) O ?_;intro Ik6 k6 U hk6 O e he;subst he;unfold BL at O;cbv;refine jc ?_ ?_
 intro O;cbv;refine jk hS [] [1,2,5,6,7] (λJ=>f3 83 [(1,sI i),(2,.lv 0 0),(5,.os 1 0 (S.jD (mI M J))),(6,.lv 2 0),(7,sI U.1)] [vR (kL M w),aR 1 (mI M J),vR (kP M I)]) O ?_ ?_
 intro Ik9 k9 hk9 O;cbv;refine kV ?_;intro x11 O;cbv;refine jc ?_ ?_
 exact jv
 intro O;cbv;refine jk hS [] [1,2,5,6,7,8,76] (λT=>f3 83 [(1,sI i),(2,.lv 0 0),(5,.os 1 0 (S.jD (mI M U.2))),(6,.lv 2 0),(7,sI U.1),(8,.lv 3 0),(76,.sb T)] [vR (kL M w),aR 1 (mI M U.2),vR (kP M I),vR (ja M x11)]) O ?_ ?_
 intro C k13 g O;cbv;refine rD hS ?_;cbv;refine jA hS O rfl ?_ ?_
 intro O;cbv;refine rZ hS O (λ_=>c208 hM) ?_;intro y15 O;cbv;refine jA hS O rfl ?_ ?_
 exact jv
 intro O;cbv;refine jc ?_ ?_
 intro O;cbv;refine kV ?_;intro x16 O;cbv;refine rZ hS O (λ_=>akR hM) ?_;intro y17 O;cbv;refine rZ hS O (λ_=>am1 hM) ?_;exact lu
 exact jv
 intro O;cbv;refine jc ?_ ?_
 intro O;cbv;refine kV ?_;intro x19 O;cbv;refine rZ hS O (λ_=>akR hM) ?_;intro y20 O;cbv;refine rZ hS O (λ_=>am1 hM) ?_;exact lu
 exact jv
 intro T O;cbv;refine jA hS O rfl ?_ ?_
 intro O;cbv;refine jM hS O lS ?_;exact jv
 exact jv
 intro J O;cbv;exact ng
 exact jr
theorem c273 {m:nN}{r:ByteArray}(O:O1 m=some r):iI 273 [.agg (rE M m)] (λu=>u=.str r):=by
 refine jB jm func273 call273 ?_;intro S R hS hR;have q:=sf hM hS;unfold O1 at O;cbv;refine jK hS O (λ_=>am2 hM) ?_;intro y1 O;cbv;refine jc ?_ ?_
 exact jr
 intro O;cbv;refine jc ?_ ?_
 exact jr
 intro O;cbv;refine jc ?_ ?_
 intro O;cbv;refine jK hS O (λ_=>am0 hM) ?_;intro y2 O;cbv;refine qK hS O rfl rfl ?_;exact kS
 intro O;cbv;refine jc ?_ ?_
 intro O;cbv;refine jK hS O (λ_=>am0 hM) ?_;intro y4 O;cbv;refine qK hS O rfl rfl ?_;exact kS
 intro O;cbv;refine jc ?_ ?_
 intro O;cbv;refine qK hS O rfl rfl ?_;exact kS
 intro O;cbv;refine jc ?_ ?_
 intro O;cbv;refine qK hS O rfl rfl ?_;exact kS
 intro O;cbv;refine jc ?_ ?_
 intro O;cbv;refine jK hS O (λ_=>aoG hM) ?_;intro y8 O;cbv;refine qK hS O rfl rfl ?_;exact kS
 intro O;cbv;refine jc ?_ ?_
 intro O;cbv;refine jK hS O (λ_=>aoG hM) ?_;intro y10 O;cbv;refine qK hS O rfl rfl ?_;exact kS
 intro O;cbv;refine jc ?_ ?_
 intro O;cbv;refine jK hS O (λ_=>aoL hM) ?_;intro y12 O;cbv;refine qK hS O rfl rfl ?_;exact kS
 intro O;cbv;refine jc ?_ ?_
 intro O;cbv;refine jK hS O (λ_=>aoL hM) ?_;intro y14 O;cbv;refine qK hS O rfl rfl ?_;exact kS
 intro O;cbv;refine jc ?_ ?_
 exact jr
 intro O;cbv;refine jc ?_ ?_
 intro O;cbv;refine jK hS O (λ_=>c351 hM) ?_;intro y16 O;cbv;refine qK hS O rfl rfl ?_;intro x17 O;cbv;refine qK hS O rfl rfl ?_;exact kS
 intro O;cbv;refine jc ?_ ?_
 intro O;cbv;refine rD hS ?_;cbv;refine rZ hS O (λ_=>ags hM) ?_;intro y19 O;cbv;refine qK hS O rfl rfl ?_;intro x20 O;cbv;refine qK hS O rfl rfl ?_;intro x21 O;cbv;refine rZ hS O (λ_=>ags hM) ?_;intro y22 O;cbv;refine qK hS O rfl rfl ?_;exact kS
 intro O;cbv;refine jc ?_ ?_
 intro O;cbv;refine rD hS ?_;cbv;refine rZ hS O (λ_=>ags hM) ?_;intro y24 O;cbv;refine qK hS O rfl rfl ?_;intro x25 O;cbv;refine qK hS O rfl rfl ?_;intro x26 O;cbv;refine rZ hS O (λ_=>ags hM) ?_;intro y27 O;cbv;refine qK hS O rfl rfl ?_;exact kS
 exact jr
theorem c60 {cards:List jI}{s:iT}{r:jP}(O:Ll cards s=some r):iI 60 [.sl 17 (M.m jI (lJ M) cards) false,.agg (jb M s)] (λu=>u=.agg (kL M r)):=by
 refine jB jm func60 call60 ?_;intro S R hS hR;have q:=sf hM hS;unfold Ll at O;cbv;refine rD hS ?_;cbv;refine rZ hS O (λ_=>c133 hM) ?_;intro y1 O;cbv;refine kE hS jm wf [.cO 2 19 17] [0,3,4,5,6] (λs2=>f3 47 [(0,.sl 17 (M.m jI (lJ M) cards) false),(3,.lv 0 0),(4,.lv 1 0),(5,.lv 2 0),(6,sI s2.1)] [vR (jb M s),vR [.sl 0 [] true,.sl 0 [] true,.sl 0 [] true,.sl 0 [] true,.sl 0 [] true,.sl 0 [] true,.sl 0 [] true,sI 0,sI 0,sI 0,.sb false,sI 0,sI 0,sI 0,sI 0,.si .u64 0,.sl 0 [] true,sI 0,sI 0,.sl 0 [] true,.sl 0 [] true,.sl 0 [] true,.sl 0 [] true,.sl 0 [] true],vR [.sl 14 (M.m kD (lF M) s.ji) false,.sl 19 (M.m iW (ja M) s.objects) false,.sl 1 (mI M s.lq) false,.sl 1 (mI M s.uU) false,.sl 94 (M.m ou (pM M) s.stack) false,.sl 89 (M.m kT (mX M) s.waiting) false,.sl 6 (M.m pI (qQ M) s.oq) false,sI s.turn,sI s.nD,sI s.step,.sb s.begun,sI s.priority,sI s.passes,sI s.nextId,sI s.nH,.si .u64 s.seed,.sl 1 (mI M s.extra) false,sI s.over,sI s.uJ,.os 3 0 (S.jD (M.m iM (iY M) s2.2)),.sl 23 (M.m jJ (kP M) y1) false,.sl 0 [] true,.sl 0 [] true,.sl 0 [] true],aR 17 (M.m iM (iY M) s2.2)]) O ?_;intro Ik3 k3 s2 hk3 O e he;subst he;unfold Gl at O;cbv;refine jc ?_ ?_
 intro O;cbv;refine rD hS ?_;cbv;refine kV ?_;intro x5 O;cbv;refine rZ hS O (λ_=>aoO hM) ?_;intro y6 O;cbv;refine jM hS O lS ?_;exact jv
 intro O;cbv;refine ZP hS O lS lS ?_;intro j7 O;cbv;refine Dw hS (e:=eB) O aj ?_;intro x8 O;cbv;refine ZP hS O lS lS ?_;intro j9 O;cbv;refine Dw hS (e:=(eL M 1 (eI .i64))) O (by (try simp only[eL,q]);repeat' constructor) ?_;intro x10 O;cbv;refine ZP hS O lS lS ?_;intro j11 O;cbv;refine Dw hS (e:=eB) O aj ?_;intro x12 O;cbv;cases O;exact hR _ (d_l aN)
theorem c282 {t:iM}{m:nN}{you:Int}{count:Int}{r:iM}(O:Ls t m you count=some r):iI 282 [.agg (iY M t),.agg (rE M m),sI you,sI count] (λu=>u=.agg (iY M r)):=by
 refine jB jm func282 call282 ?_;intro S R hS hR;have q:=sf hM hS;unfold Ls at O;cbv;refine jK hS O (λ_=>am2 hM) ?_;intro y1 O;cbv;refine jc ?_ ?_
 exact jr
 intro O;cbv;refine jc ?_ ?_
 exact jr
 intro O;cbv;refine jc ?_ ?_
 exact jr
 intro O;cbv;refine jc ?_ ?_
 exact iC
 intro O;cbv;refine jc ?_ ?_
 exact iC
 intro O;cbv;refine jc ?_ ?_
 intro O;cbv;refine jK hS O (λ_=>c364 hM) ?_;exact kS
 intro O;cbv;refine jc ?_ ?_
 exact jr
 intro O;cbv;refine jc ?_ ?_
 exact iC
 intro O;cbv;refine jc ?_ ?_
 exact iC
 intro O;cbv;refine jc ?_ ?_
 exact iC
 intro O;cbv;refine jc ?_ ?_
 exact gZ
 intro O;cbv;refine jc ?_ ?_
 intro O;cbv;refine jK hS O (λ_=>c146 hM) ?_;intro y3 O;cbv;refine jK hS O (λ_=>c146 hM) ?_;exact kS
 intro O;cbv;refine jc ?_ ?_
 exact jr
 intro O;cbv;refine jc ?_ ?_
 intro O;cbv;refine jK hS O (λ_=>Yf hM) ?_;intro y5 O;cbv;refine jK hS O (λ_=>Yf hM) ?_;exact kS
 intro O;cbv;refine jc ?_ ?_<;>exact jr
theorem c338 {pr:rf}{r:Bool}(O:KZ pr=some r):iI 338 [.agg (vP M pr)] (λu=>u=.sb r):=by
 refine jB (je [2]) func338 call338 ?_;intro S R hS hR;have q:=sf hM hS;unfold KZ at O;cbv;refine jk hS [] [1,11] (λs1=>f3 79 [(1,.lv 0 0),(11,.sb s1)] [vR (vP M pr)]) O ?_ ?_
 intro Ik2 k2 hk2 O;cbv;refine jc ?_ ?_
 exact jv
 intro O;cbv;refine jK hS O (λ_=>am3 hM) ?_;exact lu
 intro s1 O;cbv;refine jA hS O rfl ?_ ?_
 exact jr
 intro O;cbv;refine jc ?_ ?_
 intro O;cbv;refine jc ?_ ?_
 intro O;cbv;refine jc ?_ ?_
 intro O;cbv;refine jc ?_ ?_
 exact jr
 intro O;cbv;refine jc ?_ ?_<;>exact jr
 exact jr
 exact jr
 intro O;cbv;refine jc ?_ ?_
 intro O;cbv;refine jc ?_ ?_
 intro O;cbv;refine jc ?_ ?_<;>exact jr
 exact jr
 intro O;cbv;refine jc ?_ ?_
 intro O;cbv;refine jc ?_ ?_
 intro O;cbv;refine jc ?_ ?_
 intro O;cbv;refine jc ?_ ?_
 intro O;cbv;refine jc ?_ ?_<;>exact jr
 exact jr
 exact jr
 exact jr
 exact jr
theorem c280 {s:iT}{all:List iM}{you:Int}{source:Int}{f:lX}{r:List Int}(O:PK s all you source f=some r):iI 280 [.agg (jb M s),.sl 17 (M.m iM (iY M) all) false,sI you,sI source,.agg (mW M f)] (λu=>u=.sl 1 (mI M r) false):=by
 refine jB (je [9]) func280 call280 ?_;intro S R hS hR;have q:=sf hM hS;unfold PK at O;cbv;refine kE hS (je [9]) wf [.tO 11 1] [1,2,3,5,9,11,12] (λs1=>f3 42 [(1,.sl 17 (M.m iM (iY M) all) false),(2,sI you),(3,sI source),(5,.lv 0 0),(9,.lv 1 0),(11,.os 2 0 (S.jD (mI M s1.2))),(12,sI s1.1)] [vR (jb M s),vR (mW M f),aR 1 (mI M s1.2)]) O ?_;intro Ik2 k2 s1 hk2 O e he;subst he;unfold Jq at O;cbv;refine jc ?_ ?_
 intro O;cbv;refine jk hS [.tO 11 1] [1,2,3,5,9,11,12] (λs4=>f3 42 [(1,.sl 17 (M.m iM (iY M) all) false),(2,sI you),(3,sI source),(5,.lv 0 0),(9,.lv 1 0),(11,.os 2 0 (S.jD (mI M s4))),(12,sI s1.1)] [vR (jb M s),vR (mW M f),aR 1 (mI M s4)]) O ?_ ?_
 intro Ik5 k5 hk5 O;cbv;refine rD hS ?_;cbv;refine kV ?_;intro x7 O;cbv;refine rZ hS O (λ_=>c363 hM) ?_;intro y8 O;cbv;refine rZ hS O (λ_=>am1 hM) ?_;intro y9 O;cbv;refine jA hS O rfl ?_ ?_
 intro O;cbv;refine kV ?_;intro x10 O;cbv;refine jM hS O lS ?_;exact jv
 exact jv
 intro s4 O;cbv;exact ng
 exact jr
end
section
variable {M:kM}(hM:M=jT)
include hM
theorem c262 {l:List qM}{r:Bool}(O:Lc l=some r):iI 262 [.sl 18 (M.m qM (zl M) l) false] (λu=>u=.sb r):=by
 refine jB jm func262 call262 ?_;intro S R hS hR;have q:=sf hM hS;unfold Lc at O;cbv;refine kE hS jm wf [] [0,3] (λs1=>f3 19 [(0,.sl 18 (M.m qM (zl M) l) false),(3,sI s1)] []) O ?_;intro Ik2 k2 s1 hk2 O e he;subst he;unfold Nl at O;cbv;refine jc ?_ ?_
 intro O;cbv;refine kV ?_;intro x4 O;cbv;refine jK hS O (λ_=>c341 hM) ?_;intro y5 O;cbv;refine jc ?_ ?_
 exact jr
 exact jv
 exact jr
end
end Go.Proofs.YtlacmdnhabblcaaGreat
