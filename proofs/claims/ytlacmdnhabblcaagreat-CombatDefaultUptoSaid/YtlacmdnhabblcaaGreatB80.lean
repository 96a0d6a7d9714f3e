import Derived.Test.YtlacmdnhabblcaaGreatB79
set_option linter.all false
namespace Go.Proofs.YtlacmdnhabblcaaGreat
open Go Go.Pv Proofs.Tryz
set_option maxRecDepth 100000
set_option maxHeartbeats 2000000
section
variable {M:kM}(hM:M=jT)
include hM
theorem apA {s:iT}{all:List iM}{f:iP}{r:(List iZ)×Bool}(O:tJ s all f=some r):Pv.FW Tryz.prog JE 82 [.yJ,.agg (jb M s),.sl 17 (M.m iM (iY M) all) false,.agg (jh M f)] [] 0 (λu s n=>u=.IX [.os 0 0 (M.n iZ r.1),.sb r.2]/\s=[(0,(aR 15 (M.m iZ (jC M) r.1)))]/\n=1):=by
 refine PX (T:=(Bg 0 [27,51] [[(15,true)],[(0,false)]])) (mG 0 [27,51] [[(15,true)],[(0,false)]]) wf func82 rfl call82 rfl [] ?_;intro S R hS hR;have q:=sf hM hS;unfold tJ at O;cbv;refine jK hS O (λ_=>c33 hM) ?_;intro y1 O;cbv;refine kE hS (mG 0 [27,51] [[(15,true)],[(0,false)]]) wf [.tO 10 3,.tO 11 1] [0,2,5,7,10,11,25,26,27] (λC=>f3 126 [(0,.yJ),(2,.sl 17 (M.m iM (iY M) all) false),(5,.lv 0 0),(7,.lv 1 0),(10,.os 2 0 (S.jD (M.m iL (iQ M) C.2.1))),(11,.os 3 0 (S.jD (mI M C.2.2))),(25,.sl 1 (mI M y1) false),(26,sI (S.len (mI M y1))),(27,sI C.1)] [vR (jb M s),vR (jh M f),aR 3 (M.m iL (iQ M) C.2.1),aR 1 (mI M C.2.2)]) O ?_;intro Ik3 k3 C hk3 O e he;subst he;unfold tX at O;cbv;refine jc ?_ ?_
 intro O;cbv;refine kV ?_;intro x5 O;cbv;refine jK hS O (λ_=>c83 hM) ?_;intro y6 O;cbv;refine Dw hS (e:=(iQ M)) O oW ?_;intro x7 O;cbv;refine jM hS O lS ?_;intro O;cbv;refine rD hS ?_;cbv;refine rZ hS O (λ_=>apn hM) ?_;intro y8 O;cbv;refine rZ hS O (λ_=>c56 hM) ?_;intro y9 O;cbv;refine rZ hS O (λ_=>c30 hM) ?_;intro y10 O;cbv;refine jM hS O lS ?_;exact jv
 intro O;cbv;refine jK hS O (λ_=>c56 hM) ?_;intro y11 O;cbv;refine jk hS [] [0,7,10,11,16] (λU=>f3 126 [(0,.yJ),(7,.lv 0 0),(10,.os 1 0 (S.jD (M.m iL (iQ M) U))),(11,.os 2 0 (S.jD (mI M C.2.2))),(16,.sb y11)] [vR (jh M f),aR 3 (M.m iL (iQ M) U),aR 1 (mI M C.2.2)]) O ?_ ?_
 intro Ik13 k13 hk13 O;cbv;refine jA hS O rfl ?_ ?_
 intro O;cbv;refine Dw hS (e:=(iQ M)) O oW ?_;intro x15 O;cbv;refine jM hS O lS ?_;exact jv
 exact jv
 intro U O;cbv;refine jc ?_ ?_
 exact gY
 intro O;cbv;refine ajl hS [(0,false),(0,true)] rfl ?_;cbv;refine qi hS O (λ_=>anL hM) oW ?_;intro I O;cbv;refine tN hS O (λ_=>c27 hM) xB (λ_=>rfl) ?_;intro y17 O;cbv;refine jc ?_ ?_
 exact gY
 intro O;cbv;refine kE hS (mG 0 [27,51] [[(15,true)],[(0,false)]]) wf [.tO 18 15,.tR 92] [7,17,18,92,93,94] (λJ=>f3 126 [(7,.lv 0 0),(17,.os 1 0 (S.jD (mI M I))),(18,.os 2 0 (S.jD (M.m iZ (jC M) J.2))),(92,.os 3 0 (S.jD (M.m iL (iQ M) U))),(93,sI (S.Kv (S.jD (M.m iL (iQ M) U)))),(94,sI J.1)] [vR (jh M f),aR 1 (mI M I),aR 15 (M.m iZ (jC M) J.2),some (.arr true 3 (M.m iL (iQ M) U))]) O ?_;intro Ik19 k19 J hk19 O e he;subst he;unfold tV at O;cbv;refine jc ?_ ?_
 intro O;cbv;refine jk hS [] [7,17,18,92,93,94] (λg=>f3 126 [(7,.lv 0 0),(17,.os 1 0 (S.jD (mI M I))),(18,.os 2 0 (S.jD (M.m iZ (jC M) g))),(92,.os 3 0 (S.jD (M.m iL (iQ M) U))),(93,sI (S.Kv (S.jD (M.m iL (iQ M) U)))),(94,sI J.1)] [vR (jh M f),aR 1 (mI M I),aR 15 (M.m iZ (jC M) g),some (.arr true 3 (M.m iL (iQ M) U))]) O ?_ ?_
 intro Ik22 k22 hk22 O;cbv;refine wM hS O lS rfl ?_;intro j24 _ O;cbv;refine qJ hS hM O rfl lS ?_;intro x25 O;cbv;refine jc ?_ ?_
 intro O;cbv;refine rD hS ?_;cbv;refine wM hS O lS rfl ?_;intro j26 _ O;cbv;refine qJ hS hM O rfl lS ?_;intro x27 O;cbv;refine rZ hS O (λ_=>c81 hM) ?_;intro y28 O;cbv;refine jM hS O lS ?_;exact jv
 intro O;cbv;refine rD hS ?_;cbv;refine wM hS O lS rfl ?_;intro j29 _ O;cbv;refine qJ hS hM O rfl lS ?_;intro x30 O;cbv;refine rZ hS O (λ_=>c81 hM) ?_;intro y31 O;cbv;refine jM hS O lS ?_;exact jv
 intro g O;cbv;exact ng
 intro O;cbv;cases O;exact hR _ _ _ aj aj rfl
end
section
variable {M:kM}(hM:M=jT)
include hM
theorem alG {s:iT}{all:List iM}{first:Bool}{r:(List iZ)×Bool}(O:sS s all first=some r):Pv.FW Tryz.prog JE 38 [.yJ,.agg (jb M s),.sl 17 (M.m iM (iY M) all) false,.sb first] [] 0 (λu s n=>u=.IX [.os 0 0 (M.n iZ r.1),.sb r.2]/\s=[(0,(aR 15 (M.m iZ (jC M) r.1)))]/\n=1):=by
 refine PX (T:=(Bg 0 [12,27,34,38,43] [[(15,true)],[(0,false)]])) (mG 0 [12,27,34,38,43] [[(15,true)],[(0,false)]]) wf func38 rfl call38 rfl [] ?_;intro S R hS hR;have q:=sf hM hS;unfold sS at O;cbv;refine jK hS O (λ_=>c79 hM) ?_;intro y1 O;cbv;refine kE hS (mG 0 [12,27,34,38,43] [[(15,true)],[(0,false)]]) wf [.tO 10 15] [0,2,3,5,10,11,23,24,25] (λJ=>f3 111 [(0,.yJ),(2,.sl 17 (M.m iM (iY M) all) false),(3,.sb first),(5,.lv 0 0),(10,.os 1 0 (S.jD (M.m iZ (jC M) J.2))),(11,.sl 36 (M.m iP (jh M) y1) false),(23,.sl 36 (M.m iP (jh M) y1) false),(24,sI (S.len (M.m iP (jh M) y1))),(25,sI J.1)] [vR (jb M s),aR 15 (M.m iZ (jC M) J.2)]) O ?_;intro Ik3 k3 J hk3 O e he;subst he;unfold vC at O;cbv;refine jc ?_ ?_
 intro O;cbv;refine jk hS [.tO 10 15] [0,2,3,5,10,11,23,24,25] (λs5=>f3 111 [(0,.yJ),(2,.sl 17 (M.m iM (iY M) all) false),(3,.sb first),(5,.lv 0 0),(10,.os 1 0 (S.jD (M.m iZ (jC M) s5))),(11,.sl 36 (M.m iP (jh M) y1) false),(23,.sl 36 (M.m iP (jh M) y1) false),(24,sI (S.len (M.m iP (jh M) y1))),(25,sI J.1)] [vR (jb M s),aR 15 (M.m iZ (jC M) s5)]) O ?_ ?_
 intro Ik6 k6 hk6 O;cbv;refine kV ?_;intro x8 O;cbv;refine jk hS [] [0,2,3,5,10,11,13,23,24,25,38] (λs9=>f3 111 [(0,.yJ),(2,.sl 17 (M.m iM (iY M) all) false),(3,.sb first),(5,.lv 0 0),(10,.os 1 0 (S.jD (M.m iZ (jC M) J.2))),(11,.sl 36 (M.m iP (jh M) y1) false),(13,.lv 2 0),(23,.sl 36 (M.m iP (jh M) y1) false),(24,sI (S.len (M.m iP (jh M) y1))),(25,sI J.1),(38,.sb s9)] [vR (jb M s),aR 15 (M.m iZ (jC M) J.2),vR (jh M x8)]) O ?_ ?_
 intro Ik10 k10 hk10 O;cbv;refine jc ?_ ?_
 exact jv
 intro O;cbv;refine jK hS O (λ_=>c80 hM) ?_;exact lu
 intro s9 O;cbv;refine jA hS O rfl ?_ ?_
 exact jv
 intro O;cbv;refine jc ?_ ?_
 intro O;cbv;refine jK hS O (λ_=>c81 hM) ?_;intro y13 O;cbv;refine jM hS O lS ?_;exact jv
 intro O;cbv;refine qi hS O (λ_=>apA hM) oW ?_;intro y14 O;cbv;refine jc ?_ ?_
 exact gY
 intro O;cbv;refine jM hS O lS ?_;exact jv
 intro s5 O;cbv;exact ng
 intro O;cbv;refine kE hS (mG 0 [12,27,34,38,43] [[(15,true)],[(0,false)]]) wf [] [3,5,10,68,69,70] (λU=>f3 111 [(3,.sb first),(5,.lv 0 0),(10,.os 1 0 (S.jD (M.m iZ (jC M) U.2))),(68,.sl 36 (M.m iP (jh M) y1) false),(69,sI (S.len (M.m iP (jh M) y1))),(70,sI U.1)] [vR (jb M s),aR 15 (M.m iZ (jC M) U.2)]) O ?_;intro Ik16 k16 U hk16 O e he;subst he;unfold vw at O;cbv;refine jc ?_ ?_
 intro O;cbv;refine jk hS [] [3,5,10,68,69,70] (λI=>f3 111 [(3,.sb first),(5,.lv 0 0),(10,.os 1 0 (S.jD (M.m iZ (jC M) I))),(68,.sl 36 (M.m iP (jh M) y1) false),(69,sI (S.len (M.m iP (jh M) y1))),(70,sI U.1)] [vR (jb M s),aR 15 (M.m iZ (jC M) I)]) O ?_ ?_
 intro Ik19 k19 hk19 O;cbv;refine kV ?_;intro C O;cbv;refine jk hS [] [3,5,10,17,68,69,70,83] (λs22=>f3 111 [(3,.sb first),(5,.lv 0 0),(10,.os 1 0 (S.jD (M.m iZ (jC M) U.2))),(17,.lv 2 0),(68,.sl 36 (M.m iP (jh M) y1) false),(69,sI (S.len (M.m iP (jh M) y1))),(70,sI U.1),(83,.sb s22)] [vR (jb M s),aR 15 (M.m iZ (jC M) U.2),vR (jh M C)]) O ?_ ?_
 intro Ik23 k23 hk23 O;cbv;refine jc ?_ ?_
 exact jv
 intro O;cbv;refine jK hS O (λ_=>c80 hM) ?_;exact lu
 intro s22 O;cbv;refine jA hS O rfl ?_ ?_
 exact jv
 intro O;cbv;refine jK hS O (λ_=>c83 hM) ?_;intro y26 O;cbv;refine jk hS [] [3,5,10,17,18,68,69,70,97] (λg=>f3 111 [(3,.sb first),(5,.lv 0 0),(10,.os 1 0 (S.jD (M.m iZ (jC M) U.2))),(17,.lv 2 0),(18,.lv 3 0),(68,.sl 36 (M.m iP (jh M) y1) false),(69,sI (S.len (M.m iP (jh M) y1))),(70,sI U.1),(97,.sb g)] [vR (jb M s),aR 15 (M.m iZ (jC M) U.2),vR (jh M C),vR (ja M y26.1)]) O ?_ ?_
 intro Ik28 k28 hk28 O;cbv;refine jA hS O rfl ?_ ?_<;>exact jv
 intro g O;cbv;refine jA hS O rfl ?_ ?_
 intro O;cbv;refine jK hS O (λ_=>c81 hM) ?_;intro y30 O;cbv;refine jM hS O lS ?_;exact jv
 exact jv
 intro I O;cbv;exact ng
 intro O;cbv;refine uZ hS O (λ_=>alF hM) aj aj rfl rfl rfl rfl ?_;intro y31 O;cbv;cases O;exact hR _ _ _ aj aj rfl
end
section
variable {M:kM}(hM:M=jT)
include hM
theorem c11 {x:nI}{r:Bool}(O:vK x=some r):iI 11 [.agg (oQ M x)] (λu=>u=.sb r):=by
 refine jB jm func11 call11 ?_;intro S R hS hR;have q:=sf hM hS;unfold vK at O;cbv;refine jK hS O (λ_=>c35 hM) ?_;intro y1 O;cbv;refine jc ?_ ?_
 intro O;cbv;refine jK hS O (λ_=>c26 hM) ?_;exact kS
 intro O;cbv;refine jK hS O (λ_=>c19 hM) ?_;intro y3 O;cbv;refine qi hS O (λ_=>alG hM) oW ?_;intro y4 O;cbv;refine jK hS O (λ_=>c42 hM) ?_;intro y5 O;cbv;refine qi hS O (λ_=>alG hM) oW ?_;intro y6 O;cbv;refine jA hS O rfl ?_ ?_
 intro O;cbv;refine jA hS O rfl ?_ ?_
 intro O;cbv;refine jc ?_ ?_
 intro O;cbv;refine jK hS O (λ_=>c26 hM) ?_;exact kS
 exact jr
 exact jr
 exact jr
end
end Go.Proofs.YtlacmdnhabblcaaGreat
