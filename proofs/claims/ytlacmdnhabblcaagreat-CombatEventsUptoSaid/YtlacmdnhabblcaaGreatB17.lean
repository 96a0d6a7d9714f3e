import Derived.Test.YtlacmdnhabblcaaGreatB16
set_option linter.all false
namespace Go.Proofs.YtlacmdnhabblcaaGreat
open Go Go.Pv Proofs.Tryz
set_option maxRecDepth 100000
set_option maxHeartbeats 2000000
section
variable {M:kM}(hM:M=jT)
include hM
theorem c135 {w:jP}{r:jP}(O:Ff w=some r):iI 135 [.agg (kL M w)] (λu=>u=.agg (kL M r)):=by
 refine jB (je [11,16,25]) func135 call135 ?_;intro S R hS hR;have q:=sf hM hS;unfold Ff at O;cbv;refine kE hS (je [11,16,25]) wf [.cO 2 19 17] [1,2,3,4] (λs1=>f3 59 [(1,.lv 0 0),(2,.lv 1 0),(3,.lv 2 0),(4,sI s1.1)] [vR (kL M w),vR [.sl 0 [] true,.sl 0 [] true,.sl 0 [] true,.sl 0 [] true,.sl 0 [] true,.sl 0 [] true,.sl 0 [] true,sI 0,sI 0,sI 0,.sb false,sI 0,sI 0,sI 0,sI 0,.si .u64 0,.sl 0 [] true,sI 0,sI 0,.sl 0 [] true,.sl 0 [] true,.sl 0 [] true,.sl 0 [] true,.sl 0 [] true],vR [.sl 14 (M.m kD (lF M) w.s.ji) false,.sl 19 (M.m iW (ja M) w.s.objects) false,.sl 1 (mI M w.s.lq) false,.sl 1 (mI M w.s.uU) false,.sl 94 (M.m ou (pM M) w.s.stack) false,.sl 89 (M.m kT (mX M) w.s.waiting) false,.sl 6 (M.m pI (qQ M) w.s.oq) false,sI w.s.turn,sI w.s.nD,sI w.s.step,.sb w.s.begun,sI w.s.priority,sI w.s.passes,sI w.s.nextId,sI w.s.nH,.si .u64 w.s.seed,.sl 1 (mI M w.s.extra) false,sI w.s.over,sI w.s.uJ,.os 3 0 (S.jD (M.m iM (iY M) s1.2)),.sl 23 (M.m jJ (kP M) w.l) false,.sl 1 (M.m Bool eB w.begun) false,.sl 1 (M.m (List Int) (eL M 1 (eI .i64)) w.sets) false,.sl 1 (M.m Bool eB w.blank) false],aR 17 (M.m iM (iY M) s1.2)]) O ?_;intro Ik2 k2 s1 hk2 O e he;subst he;unfold BK at O;cbv;refine jc ?_ ?_
 intro O;cbv;refine jk hS [] [1,2,3,4] (λs4=>f3 59 [(1,.lv 0 0),(2,.lv 1 0),(3,.lv 2 0),(4,sI s1.1)] [vR (kL M w),vR [.sl 0 [] true,.sl 0 [] true,.sl 0 [] true,.sl 0 [] true,.sl 0 [] true,.sl 0 [] true,.sl 0 [] true,sI 0,sI 0,sI 0,.sb false,sI 0,sI 0,sI 0,sI 0,.si .u64 0,.sl 0 [] true,sI 0,sI 0,.sl 0 [] true,.sl 0 [] true,.sl 0 [] true,.sl 0 [] true,.sl 0 [] true],vR [.sl 14 (M.m kD (lF M) w.s.ji) false,.sl 19 (M.m iW (ja M) w.s.objects) false,.sl 1 (mI M w.s.lq) false,.sl 1 (mI M w.s.uU) false,.sl 94 (M.m ou (pM M) w.s.stack) false,.sl 89 (M.m kT (mX M) w.s.waiting) false,.sl 6 (M.m pI (qQ M) w.s.oq) false,sI w.s.turn,sI w.s.nD,sI w.s.step,.sb w.s.begun,sI w.s.priority,sI w.s.passes,sI w.s.nextId,sI w.s.nH,.si .u64 w.s.seed,.sl 1 (mI M w.s.extra) false,sI w.s.over,sI w.s.uJ,.os 3 0 (S.jD (M.m iM (iY M) s4)),.sl 23 (M.m jJ (kP M) w.l) false,.sl 1 (M.m Bool eB w.begun) false,.sl 1 (M.m (List Int) (eL M 1 (eI .i64)) w.sets) false,.sl 1 (M.m Bool eB w.blank) false],aR 17 (M.m iM (iY M) s4)]) O ?_ ?_
 intro Ik5 k5 hk5 O;cbv;refine kV ?_;intro x7 O;cbv;refine kV ?_;intro x8 O;cbv
 refine jk hS [] [1,2,3,4,5] (λs9=>f3 59 [(1,.lv 0 0),(2,.lv 1 0),(3,.lv 2 0),(4,sI s1.1),(5,.lv 4 0)] [vR (kL M w),vR [.sl 0 [] true,.sl 0 [] true,.sl 0 [] true,.sl 0 [] true,.sl 0 [] true,.sl 0 [] true,.sl 0 [] true,sI 0,sI 0,sI 0,.sb false,sI 0,sI 0,sI 0,sI 0,.si .u64 0,.sl 0 [] true,sI 0,sI 0,.sl 0 [] true,.sl 0 [] true,.sl 0 [] true,.sl 0 [] true,.sl 0 [] true],vR [.sl 14 (M.m kD (lF M) w.s.ji) false,.sl 19 (M.m iW (ja M) w.s.objects) false,.sl 1 (mI M w.s.lq) false,.sl 1 (mI M w.s.uU) false,.sl 94 (M.m ou (pM M) w.s.stack) false,.sl 89 (M.m kT (mX M) w.s.waiting) false,.sl 6 (M.m pI (qQ M) w.s.oq) false,sI w.s.turn,sI w.s.nD,sI w.s.step,.sb w.s.begun,sI w.s.priority,sI w.s.passes,sI w.s.nextId,sI w.s.nH,.si .u64 w.s.seed,.sl 1 (mI M w.s.extra) false,sI w.s.over,sI w.s.uJ,.os 3 0 (S.jD (M.m iM (iY M) s1.2)),.sl 23 (M.m jJ (kP M) w.l) false,.sl 1 (M.m Bool eB w.begun) false,.sl 1 (M.m (List Int) (eL M 1 (eI .i64)) w.sets) false,.sl 1 (M.m Bool eB w.blank) false],aR 17 (M.m iM (iY M) s1.2),vR [.str x7.name,sI x7.cost.generic,sI x7.cost.x,sI x7.cost.color.a0,sI x7.cost.color.a1,sI x7.cost.color.a2,sI x7.cost.color.a3,sI x7.cost.color.a4,sI x7.kU,sI x7.line.OV,sI x7.line.types,.sl 1 (M.m ByteArray eS x7.line.subs) false,sI s9.1,sI s9.2,sI x7.keys,.sl 72 (M.m kF (lD M) x7.jO) false,sI x7.control]]) O ?_ ?_
 intro Ik10 k10 hk10 O;cbv;refine jk hS [] [1,2,3,4,5,6,38] (λs12=>f3 59 [(1,.lv 0 0),(2,.lv 1 0),(3,.lv 2 0),(4,sI s1.1),(5,.lv 4 0),(6,.lv 5 0),(38,.sb s12)] [vR (kL M w),vR [.sl 0 [] true,.sl 0 [] true,.sl 0 [] true,.sl 0 [] true,.sl 0 [] true,.sl 0 [] true,.sl 0 [] true,sI 0,sI 0,sI 0,.sb false,sI 0,sI 0,sI 0,sI 0,.si .u64 0,.sl 0 [] true,sI 0,sI 0,.sl 0 [] true,.sl 0 [] true,.sl 0 [] true,.sl 0 [] true,.sl 0 [] true],vR [.sl 14 (M.m kD (lF M) w.s.ji) false,.sl 19 (M.m iW (ja M) w.s.objects) false,.sl 1 (mI M w.s.lq) false,.sl 1 (mI M w.s.uU) false,.sl 94 (M.m ou (pM M) w.s.stack) false,.sl 89 (M.m kT (mX M) w.s.waiting) false,.sl 6 (M.m pI (qQ M) w.s.oq) false,sI w.s.turn,sI w.s.nD,sI w.s.step,.sb w.s.begun,sI w.s.priority,sI w.s.passes,sI w.s.nextId,sI w.s.nH,.si .u64 w.s.seed,.sl 1 (mI M w.s.extra) false,sI w.s.over,sI w.s.uJ,.os 3 0 (S.jD (M.m iM (iY M) s1.2)),.sl 23 (M.m jJ (kP M) w.l) false,.sl 1 (M.m Bool eB w.begun) false,.sl 1 (M.m (List Int) (eL M 1 (eI .i64)) w.sets) false,.sl 1 (M.m Bool eB w.blank) false],aR 17 (M.m iM (iY M) s1.2),vR (iY M x7),vR (ja M x8)]) O ?_ ?_
 intro Ik13 k13 hk13 O;cbv;refine jc ?_ ?_
 intro O;cbv;refine xW hS O rfl rfl ?_;intro x15 O;cbv;refine xW hS O rfl rfl ?_;exact lu
 exact jv
 intro s12 O;cbv;refine jA hS O rfl ?_ ?_
 intro O;cbv;refine jK hS O (λ_=>c199 hM) ?_;intro y17 O;cbv;refine jK hS O (λ_=>Yf hM) ?_;intro y18 O;cbv;refine jK hS O (λ_=>Yf hM) ?_;exact lu
 exact jv
 intro s9 O;cbv;refine jM hS O lS ?_;exact jv
 intro s4 O;cbv;exact ng
 exact jr
theorem c21 {s:iT}{all:List iM}{p:Int}{r:List iL}(O:Ac s all p=some r):iI 21 [.agg (jb M s),.sl 17 (M.m iM (iY M) all) false,sI p] (λu=>u=.sl 3 (M.m iL (iQ M) r) false):=by
 refine jB (je [10,18,23,25]) func21 call21 ?_;intro S R hS hR;have q:=sf hM hS;unfold Ac at O;cbv;refine kE hS (je [10,18,23,25]) wf [.tO 7 3] [1,2,3,7,13,14,15] (λs1=>f3 70 [(1,.sl 17 (M.m iM (iY M) all) false),(2,sI p),(3,.lv 0 0),(7,.os 1 0 (S.jD (M.m iL (iQ M) s1.2))),(13,.sl 19 (M.m iW (ja M) s.objects) false),(14,sI (S.len (M.m iW (ja M) s.objects))),(15,sI s1.1)] [vR (jb M s),aR 3 (M.m iL (iQ M) s1.2)]) O ?_;intro Ik2 k2 s1 hk2 O e he;subst he;unfold EC at O;cbv;refine jc ?_ ?_
 intro O;cbv;refine jk hS [.tO 7 3] [1,2,3,7,13,14,15] (λs4=>f3 70 [(1,.sl 17 (M.m iM (iY M) all) false),(2,sI p),(3,.lv 0 0),(7,.os 1 0 (S.jD (M.m iL (iQ M) s4))),(13,.sl 19 (M.m iW (ja M) s.objects) false),(14,sI (S.len (M.m iW (ja M) s.objects))),(15,sI s1.1)] [vR (jb M s),aR 3 (M.m iL (iQ M) s4)]) O ?_ ?_
 intro Ik5 k5 hk5 O;cbv;refine kV ?_;intro x7 O;cbv;refine jk hS [] [1,2,3,7,8,9,13,14,15,30] (λs8=>f3 70 [(1,.sl 17 (M.m iM (iY M) all) false),(2,sI p),(3,.lv 0 0),(7,.os 1 0 (S.jD (M.m iL (iQ M) s1.2))),(8,sI s1.1),(9,.lv 2 0),(13,.sl 19 (M.m iW (ja M) s.objects) false),(14,sI (S.len (M.m iW (ja M) s.objects))),(15,sI s1.1),(30,.sb s8)] [vR (jb M s),aR 3 (M.m iL (iQ M) s1.2),vR (ja M x7)]) O ?_ ?_
 intro Ik9 k9 hk9 O;cbv;refine jc ?_ ?_
 exact jv
 intro O;cbv;refine jK hS O (λ_=>c62 hM) ?_;exact lu
 intro s8 O;cbv;refine jA hS O rfl ?_ ?_
 exact jv
 intro O;cbv;refine kE hS (je [10,18,23,25]) wf [.tO 7 3] [1,2,3,7,8,9,13,14,15,32,33,34] (λs12=>f3 70 [(1,.sl 17 (M.m iM (iY M) all) false),(2,sI p),(3,.lv 0 0),(7,.os 1 0 (S.jD (M.m iL (iQ M) s12.2))),(8,sI s1.1),(9,.lv 2 0),(13,.sl 19 (M.m iW (ja M) s.objects) false),(14,sI (S.len (M.m iW (ja M) s.objects))),(15,sI s1.1),(32,.sl 19 (M.m iW (ja M) s.objects) false),(33,sI (S.len (M.m iW (ja M) s.objects))),(34,sI s12.1)] [vR (jb M s),aR 3 (M.m iL (iQ M) s12.2),vR (ja M x7)]) O ?_;intro Ik13 k13 s12 hk13 O e he;subst he;unfold Ez at O;cbv;refine jc ?_ ?_
 intro O;cbv;refine jk hS [.tO 7 3] [1,2,3,7,8,9,13,14,15,32,33,34] (λs15=>f3 70 [(1,.sl 17 (M.m iM (iY M) all) false),(2,sI p),(3,.lv 0 0),(7,.os 1 0 (S.jD (M.m iL (iQ M) s15))),(8,sI s1.1),(9,.lv 2 0),(13,.sl 19 (M.m iW (ja M) s.objects) false),(14,sI (S.len (M.m iW (ja M) s.objects))),(15,sI s1.1),(32,.sl 19 (M.m iW (ja M) s.objects) false),(33,sI (S.len (M.m iW (ja M) s.objects))),(34,sI s12.1)] [vR (jb M s),aR 3 (M.m iL (iQ M) s15),vR (ja M x7)]) O ?_ ?_
 intro Ik16 k16 hk16 O;cbv;refine kV ?_;intro x18 O;cbv;refine jk hS [] [1,2,3,7,8,9,11,13,14,15,32,33,34,58] (λs19=>f3 70 [(1,.sl 17 (M.m iM (iY M) all) false),(2,sI p),(3,.lv 0 0),(7,.os 1 0 (S.jD (M.m iL (iQ M) s12.2))),(8,sI s1.1),(9,.lv 2 0),(11,.lv 3 0),(13,.sl 19 (M.m iW (ja M) s.objects) false),(14,sI (S.len (M.m iW (ja M) s.objects))),(15,sI s1.1),(32,.sl 19 (M.m iW (ja M) s.objects) false),(33,sI (S.len (M.m iW (ja M) s.objects))),(34,sI s12.1),(58,.sb s19)] [vR (jb M s),aR 3 (M.m iL (iQ M) s12.2),vR (ja M x7),vR (ja M x18)]) O ?_ ?_
 intro Ik20 k20 hk20 O;cbv;refine rD hS ?_;cbv;refine jc ?_ ?_
 intro O;cbv;refine jc ?_ ?_
 intro O;cbv;refine rZ hS O (λ_=>c62 hM) ?_;intro y22 O;cbv;refine rZ hS O (λ_=>c62 hM) ?_;intro y23 O;cbv;refine rZ hS O (λ_=>c16 hM) ?_;exact lu
 exact jv
 exact jv
 intro s19 O;cbv;refine jA hS O rfl ?_ ?_
 intro O;cbv;refine Dw hS (e:=(iQ M)) O oW ?_;intro x25 O;cbv;refine jM hS O lS ?_;exact jv
 exact jv
 intro s15 O;cbv;exact ng
 exact jv
 intro s4 O;cbv;exact ng
 exact jr
end
section
variable {M:kM}(hM:M=jT)
include hM
theorem c24 {s:iT}{all:List iM}{p:Int}{l:List iL}{r:Int}(O:G9 s all p l=some r):iI 24 [.agg (jb M s),.sl 17 (M.m iM (iY M) all) false,sI p,.sl 3 (M.m iL (iQ M) l) false] (λu=>u=sI r):=by
 refine jB (je [21,22,30]) func24 call24 ?_;intro S R hS hR;have q:=sf hM hS;unfold G9 at O;cbv;refine jK hS O (λ_=>c22 hM) ?_;intro y1 O;cbv;refine kE hS (je [21,22,30]) wf [] [1,3,4,9,10] (λs2=>f3 77 [(1,.sl 17 (M.m iM (iY M) all) false),(3,.sl 3 (M.m iL (iQ M) l) false),(4,.lv 0 0),(9,.sl 3 (M.m iL (iQ M) y1) false),(10,sI s2)] [vR (jb M s)]) O ?_;intro Ik3 k3 s2 hk3 O e he;subst he;unfold Gt at O;cbv;refine jc ?_ ?_
 intro O;cbv;refine kV ?_;intro x5 O;cbv;refine jK hS O (λ_=>c67 hM) ?_;intro y6 O;cbv;refine jc ?_ ?_
 exact jr
 intro O;cbv;refine kE hS (je [21,22,30]) wf [] [1,3,4,9,10,11,12] (λs7=>f3 77 [(1,.sl 17 (M.m iM (iY M) all) false),(3,.sl 3 (M.m iL (iQ M) l) false),(4,.lv 0 0),(9,.sl 3 (M.m iL (iQ M) y1) false),(10,sI s2),(11,sI s7.1),(12,sI s7.2)] [vR (jb M s)]) O ?_;intro Ik8 k8 s7 hk8 O e he;subst he;unfold Gs at O;cbv;refine jc ?_ ?_
 intro O;cbv;refine jk hS [] [1,3,4,9,10,11,12] (λs10=>f3 77 [(1,.sl 17 (M.m iM (iY M) all) false),(3,.sl 3 (M.m iL (iQ M) l) false),(4,.lv 0 0),(9,.sl 3 (M.m iL (iQ M) y1) false),(10,sI s2),(11,sI s10),(12,sI s7.2)] [vR (jb M s)]) O ?_ ?_
 intro Ik11 k11 hk11 O;cbv;refine jk hS [] [1,3,4,9,10,11,12,51] (λs13=>f3 77 [(1,.sl 17 (M.m iM (iY M) all) false),(3,.sl 3 (M.m iL (iQ M) l) false),(4,.lv 0 0),(9,.sl 3 (M.m iL (iQ M) y1) false),(10,sI s2),(11,sI s7.1),(12,sI s7.2),(51,.sb s13)] [vR (jb M s)]) O ?_ ?_
 intro Ik14 k14 hk14 O;cbv;refine rD hS ?_;cbv;refine jc ?_ ?_
 intro O;cbv;refine kV ?_;intro x16 O;cbv;refine kV ?_;exact lu
 exact jv
 intro s13 O;cbv;refine jA hS O rfl ?_ ?_
 exact jr
 intro O;cbv;refine rD hS ?_;cbv;refine kV ?_;intro x18 O;cbv;refine kV ?_;intro x19 O;cbv;refine jc ?_ ?_<;>exact jv
 intro s10 O;cbv;exact ng
 intro O;cbv;refine jk hS [] [1,3,4,9,10,76] (λs20=>f3 77 [(1,.sl 17 (M.m iM (iY M) all) false),(3,.sl 3 (M.m iL (iQ M) l) false),(4,.lv 0 0),(9,.sl 3 (M.m iL (iQ M) y1) false),(10,sI s2),(76,.sb s20)] [vR (jb M s)]) O ?_ ?_
 intro Ik21 k21 hk21 O;cbv;refine rD hS ?_;cbv;refine jc ?_ ?_
 intro O;cbv;refine kV ?_;intro x23 O;cbv;refine rZ hS O (λ_=>c68 hM) ?_;exact lu
 exact jv
 intro s20 O;cbv;refine jA hS O rfl ?_ ?_
 exact jr
 exact jv
 exact jr
theorem YN {f:lX}{r:Bool}(O:Bj f=some r):iI 258 [.agg (mW M f)] (λu=>u=.sb r):=by
 refine jB (je [2,6,10]) func258 call258 ?_;intro S R hS hR;have q:=sf hM hS;unfold Bj at O;cbv;refine jk hS [] [1,40] (λT=>f3 87 [(1,.lv 0 0),(40,.sb T)] [vR (mW M f)]) O ?_ ?_
 intro Ik2 k2 g O;cbv;refine jc ?_ ?_
 exact jv
 intro O;cbv;refine jc ?_ ?_
 exact jv
 intro O;cbv;refine jc ?_ ?_
 exact jv
 intro O;cbv;refine jc ?_ ?_
 exact jv
 intro O;cbv;refine jc ?_ ?_
 exact jv
 intro O;cbv;refine jc ?_ ?_
 exact jv
 intro O;cbv;refine jc ?_ ?_<;>exact jv
 intro T O;cbv;refine jA hS O rfl ?_ ?_
 exact jr
 intro O;cbv;refine jk hS [] [1,54] (λU=>f3 87 [(1,.lv 0 0),(54,.sb U)] [vR (mW M f)]) O ?_ ?_
 intro Ik5 k5 hk5 O;cbv;refine jK hS O (λ_=>aou hM) ?_;intro y7 O;cbv;refine jc ?_ ?_
 exact jv
 intro O;cbv;refine jK hS O (λ_=>aou hM) ?_;exact lu
 intro U O;cbv;refine jA hS O rfl ?_ ?_
 exact jr
 intro O;cbv;refine jk hS [] [1,73] (λJ=>f3 87 [(1,.lv 0 0),(73,.sb J)] [vR (mW M f)]) O ?_ ?_
 intro I k10 C O;cbv;refine jc ?_ ?_
 intro O;cbv;refine jK hS O (λ_=>aiF hM) ?_;intro y12 O;cbv;refine jc ?_ ?_
 exact jv
 intro O;cbv;refine jc ?_ ?_<;>exact jv
 intro O;cbv;refine jc ?_ ?_<;>exact jv
 intro J O;cbv;refine jA hS O rfl ?_ ?_
 exact jr
 intro O;cbv;refine jK hS O (λ_=>amQ hM) ?_;intro y13 O;cbv;refine jA hS O rfl ?_ ?_
 intro O;cbv;refine jK hS O (λ_=>amQ hM) ?_;intro y14 O;cbv;refine jA hS O rfl ?_ ?_
 intro O;cbv;refine jK hS O (λ_=>amQ hM) ?_;exact kS
 exact jr
 exact jr
theorem c364 {l:wu}{sub:ByteArray}{r:wu}(O:Ir l sub=some r):iI 364 [.agg (Bh M l),.str sub] (λu=>u=.agg (Bh M r)):=by
 refine jB (je [4,10,1009]) func364 call364 ?_;intro S R hS hR;have q:=sf hM hS;unfold Ir at O;cbv;refine jM hS O lS ?_;intro O;cbv;refine jk hS [] [1,2,4,5,24] (λs1=>f3 64 [(1,.str sub),(2,.lv 0 0),(4,.lv 1 0),(5,.os 2 0 (S.jD (S.app (S.sub ([]) 0 0) (M.m ByteArray eS l.subs)))),(24,.sb s1)] [vR (Bh M l),vR [sI 0,sI 0,.sl 0 [] true],aR 1 (S.app (S.sub ([]) 0 0) (M.m ByteArray eS l.subs))]) O ?_ ?_
 intro Ik2 k2 hk2 O;cbv;refine jK hS O (λ_=>aiF hM) ?_;intro y4 O;cbv;refine jc ?_ ?_
 exact jv
 intro O;cbv;refine jK hS O (λ_=>aoK hM) ?_;intro y5 O;cbv;refine jA hS O rfl ?_ ?_<;>exact jv
 intro s1 O;cbv;refine jA hS O rfl ?_ ?_
 exact jr
 intro O;cbv;refine kE hS (je [4,10,1009]) wf [] [1,2,4,5,6] (λs6=>f3 64 [(1,.str sub),(2,.lv 0 0),(4,.lv 1 0),(5,.os 2 0 (S.jD (S.app (S.sub ([]) 0 0) (M.m ByteArray eS l.subs)))),(6,sI s6)] [vR (Bh M l),vR [sI 0,sI 0,.sl 0 [] true],aR 1 (S.app (S.sub ([]) 0 0) (M.m ByteArray eS l.subs))]) O ?_;intro Ik7 k7 s6 hk7 O e he;subst he;unfold Eu at O;cbv;refine jk hS [] [1,2,4,5,6,42] (λs9=>f3 64 [(1,.str sub),(2,.lv 0 0),(4,.lv 1 0),(5,.os 2 0 (S.jD (S.app (S.sub ([]) 0 0) (M.m ByteArray eS l.subs)))),(6,sI s6),(42,.sb s9)] [vR (Bh M l),vR [sI 0,sI 0,.sl 0 [] true],aR 1 (S.app (S.sub ([]) 0 0) (M.m ByteArray eS l.subs))]) O ?_ ?_
 intro Ik10 k10 hk10 O;cbv;refine jc ?_ ?_
 intro O;cbv;refine wM hS O lS rfl ?_;intro j12 _ O;cbv;refine qJ hS hM (e:=eS) O lS lS ?_;exact lu
 exact jv
 intro s9 O;cbv;refine jA hS O rfl ?_ ?_
 exact jv
 intro O;cbv;refine ZQ hS O ?_ rfl rfl ?_
 simp only[q]
 intro x14 bx14 O;cbv;refine jM hS O lS ?_;intro O;cbv;refine jM hS O lS ?_;intro O;cbv;refine ZQ hS O ?_ rfl ?_ ?_
 simp only[q]
 simp only[q]
 intro x15 bx15 O;cbv;refine jM hS O lS ?_;intro O;cbv;refine amj hS aH ?_;cbv;cases O;have e:∀ a b,S.app a b=a++b:=by intro a b;rw[hS];rfl
 exact hR _ (d_l (by simp only[q];simp[e,Bh,eS,q]))
theorem aoO {cards:List jI}{o:iW}{r:iM}(O:U7 cards o=some r):iI 134 [.sl 17 (M.m jI (lJ M) cards) false,.agg (ja M o)] (λu=>u=.agg (iY M r)):=by
 refine jB (je [9,10,15]) func134 call134 ?_;intro S R hS hR;have q:=sf hM hS;unfold U7 at O;cbv;refine jk hS [] [0,3,4,5] (λU=>f3 41 [(0,.sl 17 (M.m jI (lJ M) cards) false),(3,.lv 0 0),(4,.lv 1 0),(5,sI U)] [vR (ja M o),vR [.str (bs []),sI 0,sI 0,sI 0,sI 0,sI 0,sI 0,sI 0,sI 0,sI 0,sI 0,.sl 0 [] true,sI 0,sI 0,sI 0,.sl 0 [] true,sI 0]]) O ?_ ?_
 intro g k2 C O;cbv;refine jc ?_ ?_<;>exact jv
 intro U O;cbv;refine jk hS [.cS 2 15 72,.cS 2 11 1] [3,4,6] (λJ=>f3 41 [(3,.lv 0 0),(4,.lv 1 0),(6,.lv 2 0)] [vR (ja M o),vR [.str (bs []),sI 0,sI 0,sI 0,sI 0,sI 0,sI 0,sI 0,sI 0,sI 0,sI 0,.sl 0 [] true,sI 0,sI 0,sI 0,.sl 0 [] true,sI 0],vR (iY M J)]) O ?_ ?_
 intro Ik5 k5 T O;cbv;refine jk hS [] [0,3,4,5,6,20] (λI=>f3 41 [(0,.sl 17 (M.m jI (lJ M) cards) false),(3,.lv 0 0),(4,.lv 1 0),(5,sI U),(6,.lv 2 0),(20,.sb I)] [vR (ja M o),vR [.str (bs []),sI 0,sI 0,sI 0,sI 0,sI 0,sI 0,sI 0,sI 0,sI 0,sI 0,.sl 0 [] true,sI 0,sI 0,sI 0,.sl 0 [] true,sI 0],vR [.str (bs []),sI 0,sI 0,sI 0,sI 0,sI 0,sI 0,sI 0,sI 0,sI 0,sI 0,.sl 0 [] true,sI 0,sI 0,sI 0,.sl 0 [] true,sI 0]]) O ?_ ?_
 intro Ik8 k8 hk8 O;cbv;refine jc ?_ ?_<;>exact jv
 intro I O;cbv;refine jA hS O rfl ?_ ?_
 intro O;cbv;refine kV ?_;intro x10 O;cbv;refine jK hS O (λ_=>c198 hM) ?_;exact lu
 intro O;cbv;exact d_x T O (by subst hM;rfl)
 intro J O;cbv;refine jc ?_ ?_
 exact jr
 intro O;cbv;refine jc ?_ ?_<;>exact jr
theorem c185 {l:wu}{r:Bool}(O:JP l=some r):iI 185 [.agg (Bh M l)] (λu=>u=.sb r):=by
 refine jB (je [2,12]) func185 call185 ?_;intro S R hS hR;have q:=sf hM hS;unfold JP at O;cbv;refine jk hS [] [1,27] (λs1=>f3 80 [(1,.lv 0 0),(27,.sb s1)] [vR (Bh M l)]) O ?_ ?_
 intro Ik2 k2 hk2 O;cbv;refine jc ?_ ?_
 exact jv
 intro O;cbv;refine jc ?_ ?_
 exact jv
 intro O;cbv;refine jc ?_ ?_
 exact jv
 intro O;cbv;refine jc ?_ ?_<;>exact jv
 intro s1 O;cbv;refine jA hS O rfl ?_ ?_
 exact jr
 intro O;cbv;refine kE hS (je [2,12]) wf [] [1,3] (λs4=>f3 80 [(1,.lv 0 0),(3,sI s4)] [vR (Bh M l)]) O ?_;intro Ik5 k5 s4 hk5 O e he;subst he;unfold U3 at O;cbv;refine jc ?_ ?_
 intro O;cbv;refine jk hS [] [1,3,59] (λs7=>f3 80 [(1,.lv 0 0),(3,sI s4),(59,.sb s7)] [vR (Bh M l)]) O ?_ ?_
 intro Ik8 k8 hk8 O;cbv;refine rD hS ?_;cbv;refine kV ?_;intro x10 O;cbv;refine rZ hS O (λ_=>aiF hM) ?_;intro y11 O;cbv;refine jc ?_ ?_
 exact jv
 intro O;cbv;refine jc ?_ ?_
 intro O;cbv;refine acp hS hM O rfl lS ?_;intro x12 O;cbv;refine kV ?_;exact lu
 exact jv
 intro s7 O;cbv;refine jA hS O rfl ?_ ?_
 exact jr
 exact jv
 intro O;cbv;refine jc ?_ ?_
 exact jr
 intro O;cbv;refine jc ?_ ?_
 exact jr
 intro O;cbv;refine jK hS O (λ_=>amV hM) ?_;intro y14 O;cbv;refine jc ?_ ?_
 intro O;cbv;refine jK hS O (λ_=>amV hM) ?_;exact kS
 exact jr
end
end Go.Proofs.YtlacmdnhabblcaaGreat
