import Derived.Test.YtlacmdnhabblcaaGreatB24
import Derived.Test.YtlacmdnhabblcaaGreatB43
set_option linter.all false
namespace Go.Proofs.YtlacmdnhabblcaaGreat
open Go Go.Pv Proofs.Tryz
set_option maxRecDepth 100000
set_option maxHeartbeats 2000000
section
variable {M:kM}(hM:M=jT)
include hM
theorem c46 {s:iT}{all:List iM}{r:List iL}(O:uD s all=some r):iI 46 [.agg (jb M s),.sl 17 (M.m iM (iY M) all) false] (λu=>u=.sl 3 (M.m iL (iQ M) r) false):=by
 refine jB (je [12,25]) func46 call46 ?_;intro S R hS hR;have q:=sf hM hS;unfold uD at O;cbv;refine jK hS O (λ_=>c103 hM) ?_;intro y1 O;cbv;refine kE hS (je [12,25]) wf [.tO 5 3] [1,2,5,6,16,17,18] (λs2=>f3 53 [(1,.sl 17 (M.m iM (iY M) all) false),(2,.lv 0 0),(5,.os 1 0 (S.jD (M.m iL (iQ M) s2.2))),(6,.sl 1 (mI M y1) false),(16,.sl 19 (M.m iW (ja M) s.objects) false),(17,sI (S.len (M.m iW (ja M) s.objects))),(18,sI s2.1)] [vR (jb M s),aR 3 (M.m iL (iQ M) s2.2)]) O ?_;intro Ik3 k3 s2 hk3 O e he;subst he;unfold CO at O;cbv;refine jc ?_ ?_
 intro O;cbv;refine jk hS [.tO 5 3] [1,2,5,6,16,17,18] (λs5=>f3 53 [(1,.sl 17 (M.m iM (iY M) all) false),(2,.lv 0 0),(5,.os 1 0 (S.jD (M.m iL (iQ M) s5))),(6,.sl 1 (mI M y1) false),(16,.sl 19 (M.m iW (ja M) s.objects) false),(17,sI (S.len (M.m iW (ja M) s.objects))),(18,sI s2.1)] [vR (jb M s),aR 3 (M.m iL (iQ M) s5)]) O ?_ ?_
 intro Ik6 k6 hk6 O;cbv;refine kV ?_;intro x8 O;cbv;refine jk hS [] [1,2,5,6,8,16,17,18,36] (λs9=>f3 53 [(1,.sl 17 (M.m iM (iY M) all) false),(2,.lv 0 0),(5,.os 1 0 (S.jD (M.m iL (iQ M) s2.2))),(6,.sl 1 (mI M y1) false),(8,.lv 2 0),(16,.sl 19 (M.m iW (ja M) s.objects) false),(17,sI (S.len (M.m iW (ja M) s.objects))),(18,sI s2.1),(36,.sb s9)] [vR (jb M s),aR 3 (M.m iL (iQ M) s2.2),vR (ja M x8)]) O ?_ ?_
 intro Ik10 k10 hk10 O;cbv;refine rD hS ?_;cbv;refine jc ?_ ?_
 exact jv
 intro O;cbv;refine kV ?_;intro x12 O;cbv;refine rZ hS O (λ_=>c104 hM) ?_;exact lu
 intro s9 O;cbv;refine jA hS O rfl ?_ ?_
 exact jv
 intro O;cbv;refine kE hS (je [12,25]) wf [.tO 5 3] [1,2,5,6,8,16,17,18,37,38,39] (λs14=>f3 53 [(1,.sl 17 (M.m iM (iY M) all) false),(2,.lv 0 0),(5,.os 1 0 (S.jD (M.m iL (iQ M) s14.2))),(6,.sl 1 (mI M y1) false),(8,.lv 2 0),(16,.sl 19 (M.m iW (ja M) s.objects) false),(17,sI (S.len (M.m iW (ja M) s.objects))),(18,sI s2.1),(37,.sl 1 (mI M y1) false),(38,sI (S.len (mI M y1))),(39,sI s14.1)] [vR (jb M s),aR 3 (M.m iL (iQ M) s14.2),vR (ja M x8)]) O ?_;intro Ik15 k15 s14 hk15 O e he;subst he;unfold CJ at O;cbv;refine jc ?_ ?_
 intro O;cbv;refine kV ?_;intro x17 O;cbv;refine Dw hS (e:=(iQ M)) O oW ?_;intro x18 O;cbv;refine jM hS O lS ?_;exact jv
 exact jv
 intro s5 O;cbv;exact ng
 exact jr
theorem c47 {s:iT}{all:List iM}{r:List iL}(O:CP s all=some r):iI 47 [.agg (jb M s),.sl 17 (M.m iM (iY M) all) false] (λu=>u=.sl 3 (M.m iL (iQ M) r) false):=by
 refine jB (je [14]) func47 call47 ?_;intro S R hS hR;have q:=sf hM hS;unfold CP at O;cbv;refine jK hS O (λ_=>c105 hM) ?_;intro y1 O;cbv;refine kE hS (je [14]) wf [.tO 5 3] [1,2,5,6,7] (λs2=>f3 47 [(1,.sl 17 (M.m iM (iY M) all) false),(2,.lv 0 0),(5,.os 1 0 (S.jD (M.m iL (iQ M) s2.2))),(6,.sl 1 (mI M y1) false),(7,sI s2.1)] [vR (jb M s),aR 3 (M.m iL (iQ M) s2.2)]) O ?_;intro Ik3 k3 s2 hk3 O e he;subst he;unfold JA at O;cbv;refine jc ?_ ?_
 intro O;cbv;refine kE hS (je [14]) wf [.tO 5 3] [1,2,5,6,7,8] (λs5=>f3 47 [(1,.sl 17 (M.m iM (iY M) all) false),(2,.lv 0 0),(5,.os 1 0 (S.jD (M.m iL (iQ M) s5.2))),(6,.sl 1 (mI M y1) false),(7,sI s2.1),(8,sI s5.1)] [vR (jb M s),aR 3 (M.m iL (iQ M) s5.2)]) O ?_;intro Ik6 k6 s5 hk6 O e he;subst he;unfold Jz at O;cbv;refine jk hS [] [1,2,5,6,7,8,29] (λs8=>f3 47 [(1,.sl 17 (M.m iM (iY M) all) false),(2,.lv 0 0),(5,.os 1 0 (S.jD (M.m iL (iQ M) s5.2))),(6,.sl 1 (mI M y1) false),(7,sI s2.1),(8,sI s5.1),(29,.sb s8)] [vR (jb M s),aR 3 (M.m iL (iQ M) s5.2)]) O ?_ ?_
 intro Ik9 k9 hk9 O;cbv;refine jc ?_ ?_
 intro O;cbv;refine jK hS O (λ_=>c106 hM) ?_;exact lu
 exact jv
 intro s8 O;cbv;refine jA hS O rfl ?_ ?_
 intro O;cbv;refine rD hS ?_;cbv;refine kV ?_;intro x12 O;cbv;refine kV ?_;intro x13 O;cbv;refine Dw hS (e:=(iQ M)) O oW ?_;intro x14 O;cbv;refine jM hS O lS ?_;exact jv
 exact jv
 exact jr
end
section
variable {M:kM}(hM:M=jT)
include hM
theorem c43 {cards:List jI}{s:iT}{r:Bool}(O:AO cards s=some r):iI 43 [.sl 17 (M.m jI (lJ M) cards) false,.agg (jb M s)] (λu=>u=.sb r):=by
 refine jB (je [2]) func43 call43 ?_;intro S R hS hR;have q:=sf hM hS;unfold AO at O;cbv;refine jk hS [] [0,3,58] (λs1=>f3 102 [(0,.sl 17 (M.m jI (lJ M) cards) false),(3,.lv 0 0),(58,.sb s1)] [vR (jb M s)]) O ?_ ?_
 intro Ik2 k2 hk2 O;cbv;refine jc ?_ ?_
 exact jv
 intro O;cbv;refine jc ?_ ?_
 exact jv
 intro O;cbv;refine jc ?_ ?_
 exact jv
 intro O;cbv;refine jc ?_ ?_
 exact jv
 intro O;cbv;refine jc ?_ ?_
 exact jv
 intro O;cbv;refine jc ?_ ?_
 exact jv
 intro O;cbv;refine jc ?_ ?_
 exact jv
 intro O;cbv;refine jc ?_ ?_<;>exact jv
 intro s1 O;cbv;refine jA hS O rfl ?_ ?_
 exact jr
 intro O;cbv;refine kE hS (je [2]) wf [] [0,3,5] (λs4=>f3 102 [(0,.sl 17 (M.m jI (lJ M) cards) false),(3,.lv 0 0),(5,sI s4)] [vR (jb M s)]) O ?_;intro Ik5 k5 s4 hk5 O e he;subst he;unfold CE at O;cbv;refine jc ?_ ?_
 intro O;cbv;refine rD hS ?_;cbv;refine kV ?_;intro x7 O;cbv;refine kV ?_;intro x8 O;cbv;refine kV ?_;intro x9 O;cbv;replace O:=pO O;obtain⟨v10,gv10,ev10⟩:∃ z:Int,(S.bin .add .i64 (S.bin .add .i64 (S.len (mI M x7.library)) (S.len (mI M x8.hand))) (S.len (mI M x9.sO)))=z/\(jq (jq (iV x7.library) (iV x8.hand)) (iV x9.sO))=z:=⟨_,rfl,lS⟩
 (try rw[gv10]);(try (conv at gv10=>(lhs;cbv)));(try rw[gv10]);(try rw[ev10] at O);clear gv10 ev10
 refine jc ?_ ?_
 exact jr
 exact jv
 intro O;cbv;refine jK hS O (λ_=>c58 hM) ?_;intro y11 O;cbv;refine jc ?_ ?_
 intro O;cbv;refine jK hS O (λ_=>c59 hM) ?_;exact kS
 exact jr
end
end Go.Proofs.YtlacmdnhabblcaaGreat
