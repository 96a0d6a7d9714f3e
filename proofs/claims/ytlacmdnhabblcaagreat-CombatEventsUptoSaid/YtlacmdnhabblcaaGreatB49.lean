import Derived.Test.YtlacmdnhabblcaaGreatB48
set_option linter.all false
namespace Go.Proofs.YtlacmdnhabblcaaGreat
open Go Go.Pv Proofs.Tryz
set_option maxRecDepth 100000
set_option maxHeartbeats 2000000
section
variable {M:kM}(hM:M=jT)
include hM
theorem s82 {k:jy}{s:iT}{all:List iM}{f:iP}{r:(List iZ)×Bool×jy}(O:qE k s all f=some r):Pv.FW Tryz.prog JE 82 [.lv 0 0,.agg (jb M s),.sl 17 (M.m iM (iY M) all) false,.agg (jh M f)] [(0,(vR (mQ M k)))] 1 (λu s n=>u=.IX [.os 1 0 (M.n iZ r.1),.sb r.2.1]/\s=[(0,(vR (mQ M r.2.2))),(1,(aR 15 (M.m iZ (jC M) r.1)))]/\n=2):=by
 refine qw (T:=(Bg 1 [27,51] [[(15,true)],[(0,false)]])) (mG 1 [27,51] [[(15,true)],[(0,false)]]) wf func82 rfl call82 rfl ?_;intro S R hS hR;have q:=sf hM hS;unfold qE at O;cbv;refine jK hS O (λ_=>c33 hM) ?_;intro y1 O;cbv;refine kE hS (mG 1 [27,51] [[(15,true)],[(0,false)]]) wf [.tO 10 3,.tO 11 1] [0,2,5,7,10,11,25,26,27] (λs2=>f3 126 [(0,.lv 0 0),(2,.sl 17 (M.m iM (iY M) all) false),(5,.lv 1 0),(7,.lv 2 0),(10,.os 3 0 (S.jD (M.m iL (iQ M) s2.2.1))),(11,.os 4 0 (S.jD (mI M s2.2.2))),(25,.sl 1 (mI M y1) false),(26,sI (S.len (mI M y1))),(27,sI s2.1)] [vR (mQ M k),vR (jb M s),vR (jh M f),aR 3 (M.m iL (iQ M) s2.2.1),aR 1 (mI M s2.2.2)]) O ?_;intro Ik3 k3 s2 hk3 O e he;subst he;unfold qR at O;cbv;refine jc ?_ ?_
 intro O;cbv;refine kV ?_;intro x5 O;cbv;refine jK hS O (λ_=>c83 hM) ?_;intro y6 O;cbv;refine Dw hS (e:=(iQ M)) O oW ?_;intro x7 O;cbv;refine jM hS O lS ?_;intro O;cbv;refine rD hS ?_;cbv;refine rZ hS O (λ_=>apn hM) ?_;intro y8 O;cbv;refine rZ hS O (λ_=>c56 hM) ?_;intro y9 O;cbv;refine rZ hS O (λ_=>c30 hM) ?_;intro y10 O;cbv;refine jM hS O lS ?_;exact jv
 intro O;cbv;refine jK hS O (λ_=>c56 hM) ?_;intro y11 O;cbv;refine jk hS [] [0,7,10,11,16] (λs12=>f3 126 [(0,.lv 0 0),(7,.lv 1 0),(10,.os 2 0 (S.jD (M.m iL (iQ M) s12))),(11,.os 3 0 (S.jD (mI M s2.2.2))),(16,.sb y11)] [vR (mQ M k),vR (jh M f),aR 3 (M.m iL (iQ M) s12),aR 1 (mI M s2.2.2)]) O ?_ ?_
 intro Ik13 k13 hk13 O;cbv;refine jA hS O rfl ?_ ?_
 intro O;cbv;refine Dw hS (e:=(iQ M)) O oW ?_;intro x15 O;cbv;refine jM hS O lS ?_;exact jv
 exact jv
 intro s12 O;cbv;refine jc ?_ ?_
 exact ik
 intro O;cbv;refine ajl hS [(0,false),(0,true)] rfl ?_;cbv;refine uZ hS O (λ_=>anC hM) oW oW rfl rfl rfl rfl ?_;intro y16 O;cbv;refine tN hS O (λ_=>c27 hM) xB (λ_=>rfl) ?_;intro y17 O;cbv;refine jc ?_ ?_
 exact ik
 intro O;cbv;refine kE hS (mG 1 [27,51] [[(15,true)],[(0,false)]]) wf [.tO 18 15,.tR 92] [7,17,18,92,93,94] (λs18=>f3 126 [(7,.lv 1 0),(17,.os 2 0 (S.jD (mI M y16.1))),(18,.os 3 0 (S.jD (M.m iZ (jC M) s18.2))),(92,.os 4 0 (S.jD (M.m iL (iQ M) s12))),(93,sI (S.Kv (S.jD (M.m iL (iQ M) s12)))),(94,sI s18.1)] [vR (mQ M y16.2),vR (jh M f),aR 1 (mI M y16.1),aR 15 (M.m iZ (jC M) s18.2),some (.arr true 3 (M.m iL (iQ M) s12))]) O ?_;intro Ik19 k19 s18 hk19 O e he;subst he;unfold pW at O;cbv;refine jc ?_ ?_
 intro O;cbv;refine jk hS [] [7,17,18,92,93,94] (λs21=>f3 126 [(7,.lv 1 0),(17,.os 2 0 (S.jD (mI M y16.1))),(18,.os 3 0 (S.jD (M.m iZ (jC M) s21))),(92,.os 4 0 (S.jD (M.m iL (iQ M) s12))),(93,sI (S.Kv (S.jD (M.m iL (iQ M) s12)))),(94,sI s18.1)] [vR (mQ M y16.2),vR (jh M f),aR 1 (mI M y16.1),aR 15 (M.m iZ (jC M) s21),some (.arr true 3 (M.m iL (iQ M) s12))]) O ?_ ?_
 intro Ik22 k22 hk22 O;cbv;refine wM hS O lS rfl ?_;intro j24 _ O;cbv;refine qJ hS hM O rfl lS ?_;intro x25 O;cbv;refine jc ?_ ?_
 intro O;cbv;refine rD hS ?_;cbv;refine wM hS O lS rfl ?_;intro j26 _ O;cbv;refine qJ hS hM O rfl lS ?_;intro x27 O;cbv;refine rZ hS O (λ_=>c81 hM) ?_;intro y28 O;cbv;refine jM hS O lS ?_;exact jv
 intro O;cbv;refine rD hS ?_;cbv;refine wM hS O lS rfl ?_;intro j29 _ O;cbv;refine qJ hS hM O rfl lS ?_;intro x30 O;cbv;refine rZ hS O (λ_=>c81 hM) ?_;intro y31 O;cbv;refine jM hS O lS ?_;exact jv
 intro s21 O;cbv;exact ng
 intro O;cbv;cases O;exact hR _ _ _ oW oW rfl
end
section
variable {M:kM}(hM:M=jT)
include hM
theorem s38 {k:jy}{s:iT}{all:List iM}{first:Bool}{r:(List iZ)×Bool×jy}(O:sN k s all first=some r):Pv.FW Tryz.prog JE 38 [.lv 0 0,.agg (jb M s),.sl 17 (M.m iM (iY M) all) false,.sb first] [(0,(vR (mQ M k)))] 1 (λu s n=>u=.IX [.os 1 0 (M.n iZ r.1),.sb r.2.1]/\s=[(0,(vR (mQ M r.2.2))),(1,(aR 15 (M.m iZ (jC M) r.1)))]/\n=2):=by
 refine qw (T:=(Bg 1 [12,27,34,38,43] [[(15,true)],[(0,false)]])) (mG 1 [12,27,34,38,43] [[(15,true)],[(0,false)]]) wf func38 rfl call38 rfl ?_;intro S R hS hR;have q:=sf hM hS;unfold sN at O;cbv;refine jK hS O (λ_=>c79 hM) ?_;intro y1 O;cbv;refine kE hS (mG 1 [12,27,34,38,43] [[(15,true)],[(0,false)]]) wf [.tO 10 15] [0,2,3,5,10,11,23,24,25] (λs2=>f3 111 [(0,.lv 0 0),(2,.sl 17 (M.m iM (iY M) all) false),(3,.sb first),(5,.lv 1 0),(10,.os 2 0 (S.jD (M.m iZ (jC M) s2.2.2))),(11,.sl 36 (M.m iP (jh M) y1) false),(23,.sl 36 (M.m iP (jh M) y1) false),(24,sI (S.len (M.m iP (jh M) y1))),(25,sI s2.2.1)] [vR (mQ M s2.1),vR (jb M s),aR 15 (M.m iZ (jC M) s2.2.2)]) O ?_;intro Ik3 k3 s2 hk3 O e he;subst he;unfold yV at O;cbv;refine jc ?_ ?_
 intro O;cbv;refine jk hS [.tO 10 15] [0,2,3,5,10,11,23,24,25] (λs5=>f3 111 [(0,.lv 0 0),(2,.sl 17 (M.m iM (iY M) all) false),(3,.sb first),(5,.lv 1 0),(10,.os 2 0 (S.jD (M.m iZ (jC M) s5.2))),(11,.sl 36 (M.m iP (jh M) y1) false),(23,.sl 36 (M.m iP (jh M) y1) false),(24,sI (S.len (M.m iP (jh M) y1))),(25,sI s2.2.1)] [vR (mQ M s5.1),vR (jb M s),aR 15 (M.m iZ (jC M) s5.2)]) O ?_ ?_
 intro Ik6 k6 hk6 O;cbv;refine kV ?_;intro x8 O;cbv;refine jk hS [] [0,2,3,5,10,11,13,23,24,25,38] (λs9=>f3 111 [(0,.lv 0 0),(2,.sl 17 (M.m iM (iY M) all) false),(3,.sb first),(5,.lv 1 0),(10,.os 2 0 (S.jD (M.m iZ (jC M) s2.2.2))),(11,.sl 36 (M.m iP (jh M) y1) false),(13,.lv 3 0),(23,.sl 36 (M.m iP (jh M) y1) false),(24,sI (S.len (M.m iP (jh M) y1))),(25,sI s2.2.1),(38,.sb s9)] [vR (mQ M s2.1),vR (jb M s),aR 15 (M.m iZ (jC M) s2.2.2),vR (jh M x8)]) O ?_ ?_
 intro Ik10 k10 hk10 O;cbv;refine jc ?_ ?_
 exact jv
 intro O;cbv;refine jK hS O (λ_=>c80 hM) ?_;exact lu
 intro s9 O;cbv;refine jA hS O rfl ?_ ?_
 exact jv
 intro O;cbv;refine jc ?_ ?_
 intro O;cbv;refine jK hS O (λ_=>c81 hM) ?_;intro y13 O;cbv;refine jM hS O lS ?_;exact jv
 intro O;cbv;refine uZ hS O (λ_=>s82 hM) oW oW rfl rfl rfl rfl ?_;intro y14 O;cbv;refine jc ?_ ?_
 exact ik
 intro O;cbv;refine jM hS O lS ?_;exact jv
 intro s5 O;cbv;exact ng
 intro O;cbv;refine kE hS (mG 1 [12,27,34,38,43] [[(15,true)],[(0,false)]]) wf [] [3,5,10,68,69,70] (λs15=>f3 111 [(3,.sb first),(5,.lv 1 0),(10,.os 2 0 (S.jD (M.m iZ (jC M) s15.2))),(68,.sl 36 (M.m iP (jh M) y1) false),(69,sI (S.len (M.m iP (jh M) y1))),(70,sI s15.1)] [vR (mQ M s2.1),vR (jb M s),aR 15 (M.m iZ (jC M) s15.2)]) O ?_;intro Ik16 k16 s15 hk16 O e he;subst he;unfold sQ at O;cbv;refine jc ?_ ?_
 intro O;cbv;refine jk hS [] [3,5,10,68,69,70] (λs18=>f3 111 [(3,.sb first),(5,.lv 1 0),(10,.os 2 0 (S.jD (M.m iZ (jC M) s18))),(68,.sl 36 (M.m iP (jh M) y1) false),(69,sI (S.len (M.m iP (jh M) y1))),(70,sI s15.1)] [vR (mQ M s2.1),vR (jb M s),aR 15 (M.m iZ (jC M) s18)]) O ?_ ?_
 intro Ik19 k19 hk19 O;cbv;refine kV ?_;intro x21 O;cbv;refine jk hS [] [3,5,10,17,68,69,70,83] (λs22=>f3 111 [(3,.sb first),(5,.lv 1 0),(10,.os 2 0 (S.jD (M.m iZ (jC M) s15.2))),(17,.lv 3 0),(68,.sl 36 (M.m iP (jh M) y1) false),(69,sI (S.len (M.m iP (jh M) y1))),(70,sI s15.1),(83,.sb s22)] [vR (mQ M s2.1),vR (jb M s),aR 15 (M.m iZ (jC M) s15.2),vR (jh M x21)]) O ?_ ?_
 intro Ik23 k23 hk23 O;cbv;refine jc ?_ ?_
 exact jv
 intro O;cbv;refine jK hS O (λ_=>c80 hM) ?_;exact lu
 intro s22 O;cbv;refine jA hS O rfl ?_ ?_
 exact jv
 intro O;cbv;refine jK hS O (λ_=>c83 hM) ?_;intro y26 O;cbv;refine jk hS [] [3,5,10,17,18,68,69,70,97] (λs27=>f3 111 [(3,.sb first),(5,.lv 1 0),(10,.os 2 0 (S.jD (M.m iZ (jC M) s15.2))),(17,.lv 3 0),(18,.lv 4 0),(68,.sl 36 (M.m iP (jh M) y1) false),(69,sI (S.len (M.m iP (jh M) y1))),(70,sI s15.1),(97,.sb s27)] [vR (mQ M s2.1),vR (jb M s),aR 15 (M.m iZ (jC M) s15.2),vR (jh M x21),vR (ja M y26.1)]) O ?_ ?_
 intro Ik28 k28 hk28 O;cbv;refine jA hS O rfl ?_ ?_<;>exact jv
 intro s27 O;cbv;refine jA hS O rfl ?_ ?_
 intro O;cbv;refine jK hS O (λ_=>c81 hM) ?_;intro y30 O;cbv;refine jM hS O lS ?_;exact jv
 exact jv
 intro s18 O;cbv;exact ng
 intro O;cbv;refine uZ hS O (λ_=>alF hM) aj aj rfl rfl rfl rfl ?_;intro y31 O;cbv;cases O;exact hR _ _ _ oW oW rfl
end
end Go.Proofs.YtlacmdnhabblcaaGreat
