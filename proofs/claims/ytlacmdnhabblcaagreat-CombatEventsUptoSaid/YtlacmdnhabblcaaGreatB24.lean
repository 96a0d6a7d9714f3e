import Derived.Test.YtlacmdnhabblcaaGreatB23
set_option linter.all false
namespace Go.Proofs.YtlacmdnhabblcaaGreat
open Go Go.Pv Proofs.Tryz
set_option maxRecDepth 100000
set_option maxHeartbeats 2000000
section
variable {M:kM}(hM:M=jT)
include hM
theorem c18 {cards:List jI}{s:iT}{r:Bool}(O:Ar cards s=some r):iI 18 [.sl 17 (M.m jI (lJ M) cards) false,.agg (jb M s)] (λu=>u=.sb r):=by
 refine jB jm func18 call18 ?_;intro S R hS hR;have q:=sf hM hS;unfold Ar at O;cbv;refine jK hS O (λ_=>c58 hM) ?_;intro y1 O;cbv;refine jc ?_ ?_
 intro O;cbv;refine jK hS O (λ_=>c59 hM) ?_;exact kS
 exact jr
end
section
variable {M:kM}(hM:M=jT)
include hM
theorem c5 {cards:List jI}{s:iT}{l:List iL}{r:Bool}(O:xm cards s l=some r):iI 5 [.sl 17 (M.m jI (lJ M) cards) false,.agg (jb M s),.sl 3 (M.m iL (iQ M) l) false] (λu=>u=.sb r):=by
 refine jB (je [2,24,29,31,32]) func5 call5 ?_;intro S R hS hR;have q:=sf hM hS;unfold xm at O;cbv;refine jk hS [] [0,2,4,21] (λs1=>f3 86 [(0,.sl 17 (M.m jI (lJ M) cards) false),(2,.sl 3 (M.m iL (iQ M) l) false),(4,.lv 0 0),(21,.sb s1)] [vR (jb M s)]) O ?_ ?_
 intro Ik2 k2 hk2 O;cbv;refine jK hS O (λ_=>c18 hM) ?_;intro y4 O;cbv;refine jc ?_ ?_<;>exact jv
 intro s1 O;cbv;refine jA hS O rfl ?_ ?_
 intro O;cbv;refine jK hS O (λ_=>c15 hM) ?_;exact kS
 intro O;cbv;refine jK hS O (λ_=>c19 hM) ?_;intro y6 O;cbv;refine kE hS (je [2,24,29,31,32]) wf [] [2,4,7,28,29] (λs7=>f3 86 [(2,.sl 3 (M.m iL (iQ M) l) false),(4,.lv 0 0),(7,.sl 17 (M.m iM (iY M) y6) false),(28,sI (S.len (M.m kD (lF M) s.ji))),(29,sI s7)] [vR (jb M s)]) O ?_;intro Ik8 k8 s7 hk8 O e he;subst he;unfold uA at O;cbv;refine jc ?_ ?_
 intro O;cbv;refine jK hS O (λ_=>c22 hM) ?_;intro y10 O;cbv;refine kE hS (je [2,24,29,31,32]) wf [.tO 10 3] [2,4,7,8,9,10,28,29,36,37,38] (λs11=>f3 86 [(2,.sl 3 (M.m iL (iQ M) l) false),(4,.lv 0 0),(7,.sl 17 (M.m iM (iY M) y6) false),(8,sI s7),(9,.sl 3 (M.m iL (iQ M) y10) false),(10,.os 1 0 (S.jD (M.m iL (iQ M) s11.2))),(28,sI (S.len (M.m kD (lF M) s.ji))),(29,sI s7),(36,.sl 3 (M.m iL (iQ M) l) false),(37,sI (S.len (M.m iL (iQ M) l))),(38,sI s11.1)] [vR (jb M s),aR 3 (M.m iL (iQ M) s11.2)]) O ?_;intro Ik12 k12 s11 hk12 O e he;subst he;unfold uz at O;cbv;refine jc ?_ ?_
 intro O;cbv;refine jk hS [] [2,4,7,8,9,10,28,29,36,37,38] (λs14=>f3 86 [(2,.sl 3 (M.m iL (iQ M) l) false),(4,.lv 0 0),(7,.sl 17 (M.m iM (iY M) y6) false),(8,sI s7),(9,.sl 3 (M.m iL (iQ M) y10) false),(10,.os 1 0 (S.jD (M.m iL (iQ M) s14))),(28,sI (S.len (M.m kD (lF M) s.ji))),(29,sI s7),(36,.sl 3 (M.m iL (iQ M) l) false),(37,sI (S.len (M.m iL (iQ M) l))),(38,sI s11.1)] [vR (jb M s),aR 3 (M.m iL (iQ M) s14)]) O ?_ ?_
 intro Ik15 k15 hk15 O;cbv;refine kV ?_;intro x17 O;cbv;refine jk hS [] [2,4,7,8,9,10,12,28,29,36,37,38] (λs18=>f3 86 [(2,.sl 3 (M.m iL (iQ M) l) false),(4,.lv 0 0),(7,.sl 17 (M.m iM (iY M) y6) false),(8,sI s7),(9,.sl 3 (M.m iL (iQ M) y10) false),(10,.os 1 0 (S.jD (M.m iL (iQ M) s11.2))),(12,.lv 2 0),(28,sI (S.len (M.m kD (lF M) s.ji))),(29,sI s7),(36,.sl 3 (M.m iL (iQ M) l) false),(37,sI (S.len (M.m iL (iQ M) l))),(38,sI s11.1)] [vR (jb M s),aR 3 (M.m iL (iQ M) s11.2),vR [sI s18.1,sI s18.2.1,sI s18.2.2]]) O ?_ ?_
 intro Ik19 k19 hk19 O;cbv;refine jk hS [] [2,4,7,8,9,10,12,28,29,36,37,38,49] (λs21=>f3 86 [(2,.sl 3 (M.m iL (iQ M) l) false),(4,.lv 0 0),(7,.sl 17 (M.m iM (iY M) y6) false),(8,sI s7),(9,.sl 3 (M.m iL (iQ M) y10) false),(10,.os 1 0 (S.jD (M.m iL (iQ M) s11.2))),(12,.lv 2 0),(28,sI (S.len (M.m kD (lF M) s.ji))),(29,sI s7),(36,.sl 3 (M.m iL (iQ M) l) false),(37,sI (S.len (M.m iL (iQ M) l))),(38,sI s11.1),(49,.sb s21)] [vR (jb M s),aR 3 (M.m iL (iQ M) s11.2),vR (iQ M x17)]) O ?_ ?_
 intro Ik22 k22 hk22 O;cbv;refine jc ?_ ?_<;>exact jv
 intro s21 O;cbv;refine jA hS O rfl ?_ ?_
 intro O;cbv;refine xW hS O lS lS ?_;intro x24 O;cbv;refine acp hS hM O rfl lS ?_;exact lu
 exact jv
 intro s18 O;cbv;refine jM hS O lS ?_;exact jv
 intro s14 O;cbv;exact ng
 intro O;cbv;refine jk hS [] [2,4,7,28,29,83] (λs26=>f3 86 [(2,.sl 3 (M.m iL (iQ M) l) false),(4,.lv 0 0),(7,.sl 17 (M.m iM (iY M) y6) false),(28,sI (S.len (M.m kD (lF M) s.ji))),(29,sI s7),(83,.sb s26)] [vR (jb M s)]) O ?_ ?_
 intro Ik27 k27 hk27 O;cbv;refine rD hS ?_;cbv;refine aaP hS O (λ_=>c23 hM) xB (λ_=>rfl) ?_;intro y29 O;cbv;refine aaP hS O (λ_=>c24 hM) xB (λ_=>rfl) ?_;intro y30 O;cbv;refine jc ?_ ?_
 exact jv
 intro O;cbv;refine adX hS O (λ_=>c23 hM) oW ?_;exact lu
 intro s26 O;cbv;refine jA hS O rfl ?_ ?_
 exact jr
 exact jv
 intro O;cbv;refine jK hS O (λ_=>c15 hM) ?_;exact kS
theorem c4 {cards:List jI}{s:iT}{p:Int}{r:Bool}(O:zO cards s p=some r):iI 4 [.sl 17 (M.m jI (lJ M) cards) false,.agg (jb M s),sI p] (λu=>u=.sb r):=by
 refine jB jm func4 call4 ?_;intro S R hS hR;have q:=sf hM hS;unfold zO at O;cbv;refine jK hS O (λ_=>c18 hM) ?_;intro y1 O;cbv;refine jc ?_ ?_
 intro O;cbv;refine jK hS O (λ_=>c15 hM) ?_;exact kS
 intro O;cbv;refine jK hS O (λ_=>c19 hM) ?_;intro y3 O;cbv;refine rD hS ?_;cbv;refine rZ hS O (λ_=>c15 hM) ?_;intro y4 O;cbv;refine jA hS O rfl ?_ ?_
 intro O;cbv;refine rZ hS O (λ_=>c21 hM) ?_;intro y5 O;cbv;refine rZ hS O (λ_=>c22 hM) ?_;intro y6 O;cbv;refine rZ hS O (λ_=>c20 hM) ?_;exact kS
 exact jr
end
end Go.Proofs.YtlacmdnhabblcaaGreat
