import Derived.Test.YtchmoabpofnbaaaGreatC57
import Derived.Test.YtchmoabpofnbaaaGreatC59
set_option linter.all false
namespace Go.Proofs.YtchmoabpofnbaaaGreat
open Go Go.Pv
set_option maxRecDepth 100000
set_option maxHeartbeats 20000000
variable [GM]
attribute [local irreducible] bnd br jn oL loopF iq jS gu pO rG divO jF iO jA jm jE jY jU
variable {M:fP}[HM M]
instance o168 {cards}{s}:CZ M 168 (Ei cards s) [kH M cards,.agg (fV M s)] [] 0 (λ_=>.lv 0 0) (λr=>[(0,(vR (fV M r.s++[fK M r.forces,.os 1 0 (M.n eQ r.traits),.os 2 0 (M.n Bool r.dropped),.os 3 0 (M.n Bool r.done),.os 4 0 (M.n (List Int) r.hits)]))),(1,(aR 17 (fJ M r.traits))),(2,(aR 1 (M.m Bool eB r.dropped))),(3,(aR 1 (M.m Bool eB r.done))),(4,(aR 1 (M.m (List Int) (eL M 1 (eI .i64)) r.hits)))]) 5:=by
 have hM:=HM.h (M:=M);refine⟨λr U=>?_⟩;refine yX (T:=(Fg 0 [1007] [])) (gp 0 [1007] []) wf Tryz.func168 rfl Tryz.call168 rfl ?_;intro S R hS hR;have q:=sf hM hS;unfold Ei at U;cbv;refine CB hS ?_;cbv;refine GX hS U (cI hM) ?_;intro y1 U;cbv;refine MB hS U jJ jJ ?_;intro j2 U;cbv;refine JA hS (e:=eB) U ah ?_;intro x3 U;cbv;refine adR hS (gp 0 [1007] []) wf [.cR 33 21,.cO 33 20 17] [.cR 0 21,.cO 0 20 17] [0,5,19,20,21] (λs4=>f3 57 [(0,kH M cards),(5,.lv 0 0),(19,nS M s.objects),(20,sI (S.len (jW M s.objects))),(21,sI s4.1)] [vR (fV M s++[fK M y1,.os 1 0 (S.fE (fJ M s4.2.1)),.os 2 0 (S.fE (M.m Bool eB s4.2.2)),.sl 0 [] true,.sl 0 [] true]),aR 17 (fJ M s4.2.1),aR 1 (M.m Bool eB s4.2.2)]) U aW ?_;intro Ik5 k5 s4 hk5 U e he;subst he;unfold Bj at U;cbv;refine kQ ?_ ?_
 intro U;cbv;refine zT ?_;intro x7 U;cbv;refine CB hS ?_;cbv;refine GX hS U (cI hM) ?_;intro y8 U;cbv;refine nG hS U jJ ?_;exact pW
 intro U;cbv;refine MB hS U jJ jJ ?_;intro j9 U;cbv;refine JA hS (e:=eB) U ah ?_;intro x10 U;cbv;refine MB hS U jJ jJ ?_;intro j11 U;cbv;refine JA hS (e:=(eL M 1 (eI .i64))) U (by(try simp only[eL,q]);repeat' constructor) ?_;intro x12 U;cbv;refine af7 hS aA ?_;cbv;cases U;exact hR _ _ _ gX gX rfl
instance amV {w}{i}:CZ M 339 (vT w i) [.lv 0 0,sI i] [(0,(vR (fV M w.s++[fK M w.forces,.os 1 0 (M.n eQ w.traits),.os 2 0 (M.n Bool w.dropped),.os 3 0 (M.n Bool w.done),.os 4 0 (M.n (List Int) w.hits)]))),(1,(aR 17 (fJ M w.traits))),(2,(aR 1 (M.m Bool eB w.dropped))),(3,(aR 1 (M.m Bool eB w.done))),(4,(aR 1 (M.m (List Int) (eL M 1 (eI .i64)) w.hits)))] 5 (λr=>sI r) (λ_=>[(0,(vR (fV M w.s++[fK M w.forces,.os 1 0 (M.n eQ w.traits),.os 2 0 (M.n Bool w.dropped),.os 3 0 (M.n Bool w.done),.os 4 0 (M.n (List Int) w.hits)]))),(1,(aR 17 (fJ M w.traits))),(2,(aR 1 (M.m Bool eB w.dropped))),(3,(aR 1 (M.m Bool eB w.done))),(4,(aR 1 (M.m (List Int) (eL M 1 (eI .i64)) w.hits)))]) 5:=by
 have:=ct 6 [0,5,6,27] (λ_ s=>je [(27,.sb s)]);exact wC (gp 5 [6] []) Tryz.func339 Tryz.call339 []
end Go.Proofs.YtchmoabpofnbaaaGreat
namespace Go.Proofs.YtchmoabpofnbaaaGreat
open Go Go.Pv Proofs.Tryz
set_option maxRecDepth 100000
set_option maxHeartbeats 20000000
variable [GM]
attribute [local irreducible] bnd br jn oL loopF iq jS gu pO rG divO jF iO jA jm jE jY jU
variable {M:fP}[HM M]
instance z94_2 {k}{c}:CZ M 94 (oU k c) [.lv 0 0,.agg (jD M c)] [(0,(vR (jL M k)))] 1 (λr=>.os 1 0 (M.n Int r.1)) (λr=>[(0,(vR (jL M r.2))),(1,(aR 1 (mI M r.1)))]) 2:=by
 have hM:=HM.h (M:=M);refine⟨λr U=>?_⟩;refine xw (T:=(Fg 1 [2] [[(1,true)]])) (gp 1 [2] [[(1,true)]]) wf func94 rfl call94 rfl [.cF 0 8] ?_;intro S R hS hR;have q:=sf hM hS;unfold oU at U;cbv;refine yE [] [0,3,23] (λs1=>f4 77 [.lv 0 0,.lv 1 0,.sb s1] [vR (jL M k),vR (jD M c)]) U ?_ ?_
 intro Ik2 k2 hk2 U;cbv;refine rf ?_ ?_
 exact pW
 intro U;cbv;refine rf ?_ ?_
 exact pW
 intro U;cbv;refine qZ hS U (cI hM) ?_;exact sK
 intro s1 U;cbv;refine rf ?_ ?_
 intro U;cbv;refine jl hS U (cZ hM) (le_eq rfl) ?_;intro y5 U;cbv;cases U;exact hR _ _ _ gX gX rfl
 intro U;cbv;refine CB hS ?_;cbv;refine kQ ?_ ?_
 intro U;cbv;refine jl hS U (cZ hM) (le_eq rfl) ?_;intro y6 U;cbv;refine aa8 hS rfl ?_;cbv;refine jl hS U (cZ hM) JB ?_;intro y7 U;cbv;cases U;exact hR _ _ _ gX gX rfl
 intro U;cbv;refine CB hS ?_;cbv;refine zT ?_;intro x8 U;cbv;refine qZ hS U (cI hM) ?_;intro y9 U;cbv;refine kQ ?_ ?_
 intro U;cbv;refine jl hS U (cZ hM) (le_eq rfl) ?_;intro y10 U;cbv;cases U;exact hR _ _ _ gX gX rfl
 intro U;cbv;refine jl hS U (cZ hM) (le_eq rfl) ?_;intro y11 U;cbv;cases U;exact hR _ _ _ gX gX rfl
theorem akX {M:fP}(hM:M=ku){x:List eP}{r:List eP}(U:jH x nJ=some r):Pv.FnS Tryz.prog glF 299 [.os 0 0 (M.n eP x),.fn 300 []] [(0,(aR 76 (eY M x)))] 1 (λJ ss nn=>J=.Eu []/\ss=[(0,(aR 76 (eY M r)))]/\nn=1):=by
 haveI:HM M:=⟨hM⟩
 refine yX (T:=(Fg 1 [] [])) (gp 1 [] []) wf func299 rfl call299 rfl ?_;intro S R hS hR;have q:=sf hM hS;unfold jH at U;cbv;refine uj hS U (λ_=>akW hM) ah ah rfl rfl rfl rfl ?_;intro C I U;have q:=And.intro q (mY ahb I).symm;cbv;cases U;exact hR _ _ _ ah ah rfl
instance amW {s}{all}{you}{source}{f}:CZ M 413 (D5 s all you source f) [.agg (fV M s),.os 0 0 (M.n eQ all),sI you,sI source,.agg (jb M f)] [(0,(aR 17 (fJ M all)))] 1 (λr=>.os 1 0 (M.n Int r)) (λr=>[(0,(aR 17 (fJ M all))),(1,(aR 1 (mI M r)))]) 2:=by
 have:=lo 3 [1,2,3,9,11,16,17,18] (λ_ (s:Int×(List Int))=>up [(11,.os 2 0 (M.n Int s.2)),(18,sI s.1)] [(2,(aR 1 (mI M s.2)))]) [.tO 11 1];have:=ct 21 [1,2,3,9,11,16,17,18] (λ_ s=>up [(11,.os 2 0 (M.n Int s))] [(2,(aR 1 (mI M s)))]) [.tO 11 1];have:=ct 17 [1,2,3,9,11,13,14,16,17,18] (λ_ (s:fC×eQ)=>up [] [(3,(vR (ja M s.1))),(4,(vR (jh M s.2)))]) [.cS 4 11 1,.cS 4 15 72,.cS 5 15 72,.cS 5 11 1];exact wC (gp 1 [17,21] [[(1,true)]]) func413 call413 []
instance amX {s}{all}{you}{source}{f}:CZ M 413 (nI s all you source f) [.agg (fV M s),iE M all,sI you,sI source,.agg (jb M f)] [] 0 (λr=>.os 0 0 (M.n Int r)) (λr=>[(0,(aR 1 (mI M r)))]) 1:=by
 have:=lo 3 [1,2,3,9,11,16,17,18] (λ_ (s:Int×(List Int))=>up [(11,.os 1 0 (M.n Int s.2)),(18,sI s.1)] [(1,(aR 1 (mI M s.2)))]) [.tO 11 1];have:=ct 21 [1,2,3,9,11,16,17,18] (λ_ s=>up [(11,.os 1 0 (M.n Int s))] [(1,(aR 1 (mI M s)))]) [.tO 11 1];have:=ct 17 [1,2,3,9,11,13,14,16,17,18] (λ_ (s:fC×eQ)=>up [] [(2,(vR (ja M s.1))),(3,(vR (jh M s.2)))]) [.cS 3 11 1,.cS 3 15 72,.cS 4 11 1,.cS 4 15 72];exact wC (gp 0 [17,21] [[(1,true)]]) func413 call413 []
instance c354 {s}{all}{you}{source}{f}:CC M 354 (r29_List s all you source f) [.agg (fD M s),iE M all,sI you,sI source,.agg (jb M f)] (λr=>.sl 1 (mI M r) false):=by
 have:=lo 3 [1,2,3,5,9,11,12] (λ_ (s:Int×(List Int))=>up [(11,.os 2 0 (M.n Int s.2)),(12,sI s.1)] [(2,(aR 1 (mI M s.2)))]) [.tO 11 1];have:=ct 9 [1,2,3,5,9,11,12] (λ_ s=>up [(11,.os 2 0 (M.n Int s))] [(2,(aR 1 (mI M s)))]) [.tO 11 1];exact wA (fO [9]) func354 call354
instance c330 {left}{needs}:CC M 330 (FN left needs) [.sl 1 (mI M left) false,.sl 1 (M.m (List Bool) (eL M 1 eB) needs) false] (λr=>.sl 1 (mI M r) false):=by
 have:=lo 5 [3,5,6,7,16,17,18] (λ_ (s:Int×(List Int))=>up [(7,.os 2 0 (M.n Int s.2)),(18,sI s.1)] [(2,(aR 1 (mI M s.2)))]) [.tO 7 1];have:=ct 21 [3,5,6,7,16,17,18] (λ_ s=>up [(7,.os 2 0 (M.n Int s))] [(2,(aR 1 (mI M s)))]) [.tO 7 1];exact wA (fO [21]) func330 call330
instance c313 {pr}:CC M 313 (Oy pr) [.agg (qy M pr)] (λr=>.sb r):=by
 have:=ct 2 [1,11] (λ_ s=>je [(11,.sb s)]);exact wA (fO [2]) func313 call313
instance c242 {m}:CC M 242 (QX m) [.agg (yz M m)] (λr=>.str r):=by
 exact wA fG func242 call242
end Go.Proofs.YtchmoabpofnbaaaGreat
