import Derived.Test.YtchmoabpofnbaaaGreatC55
import Derived.Test.YtchmoabpofnbaaaGreatC56
import Derived.Test.YtchmoabpofnbaaaGreatC57
set_option linter.all false
namespace Go.Proofs.YtchmoabpofnbaaaGreat
open Go Go.Pv
set_option maxRecDepth 100000
set_option maxHeartbeats 20000000
variable [GM]
attribute [local irreducible] bnd br jn qE gK jv lJ jl rD uo divO kT jL kN kP lI lS lM
variable {M:iG}[HM M]
instance o168 {cards}{s}:CZ M 168 (DY cards s) [oh M cards,.agg (iI M s)] [] 0 (λ_=>.lv 0 0) (λr=>[(0,(vR (iI M r.s++[iy M r.forces,.os 1 0 (M.n gG r.iE),.os 2 0 (M.n Bool r.dropped),.os 3 0 (M.n Bool r.done),.os 4 0 (M.n (List Int) r.hits)]))),(1,(aR 17 (iD M r.iE))),(2,(aR 1 (M.m Bool eB r.dropped))),(3,(aR 1 (M.m Bool eB r.done))),(4,(aR 1 (M.m (List Int) (eL M 1 (eI .i64)) r.hits)))]) 5:=by
 have hM:=HM.h (M:=M);refine⟨λr O=>?_⟩;refine AQ (T:=(GY 0 [1007] [])) (iV 0 [1007] []) wf Tryz.func168 rfl Tryz.call168 rfl ?_;intro S R hS hR;have q:=sf hM hS;unfold DY at O;cbv;refine EF hS ?_;cbv;refine Je hS O (cI hM) ?_;intro y1 O;cbv;refine Lm hS O lC lC ?_;intro j2 O;cbv;refine KN hS (e:=eB) O aj ?_;intro x3 O;cbv;refine acJ hS (iV 0 [1007] []) wf [.cR 33 21,.cO 33 20 17] [.cR 0 21,.cO 0 20 17] [0,5,19,20,21] (λs4=>f3 57 [(0,oh M cards),(5,.lv 0 0),(19,oM M s.objects),(20,sI (S.len (kS M s.objects))),(21,sI s4.1)] [vR (iI M s++[iy M y1,.os 1 0 (S.gZ (iD M s4.2.1)),.os 2 0 (S.gZ (M.m Bool eB s4.2.2)),.sl 0 [] true,.sl 0 [] true]),aR 17 (iD M s4.2.1),aR 1 (M.m Bool eB s4.2.2)]) O bV ?_;intro Ik5 k5 s4 hk5 O e he;subst he;unfold Bc at O;cbv;refine nZ ?_ ?_
 intro O;cbv;refine d_I ?_;intro x7 O;cbv;refine EF hS ?_;cbv;refine Je hS O (cI hM) ?_;intro y8 O;cbv;refine tH hS O lC ?_;exact vF
 intro O;cbv;refine Lm hS O lC lC ?_;intro j9 O;cbv;refine KN hS (e:=eB) O aj ?_;intro x10 O;cbv;refine Lm hS O lC lC ?_;intro j11 O;cbv;refine KN hS (e:=(eL M 1 (eI .i64))) O (by(try simp only[eL,q]);repeat' constructor) ?_;intro x12 O;cbv;refine aeP hS aI ?_;cbv;cases O;exact hR _ _ _ ji ji rfl
instance aj7 {w}{i}:CZ M 339 (vV w i) [.lv 0 0,sI i] [(0,(vR (iI M w.s++[iy M w.forces,.os 1 0 (M.n gG w.iE),.os 2 0 (M.n Bool w.dropped),.os 3 0 (M.n Bool w.done),.os 4 0 (M.n (List Int) w.hits)]))),(1,(aR 17 (iD M w.iE))),(2,(aR 1 (M.m Bool eB w.dropped))),(3,(aR 1 (M.m Bool eB w.done))),(4,(aR 1 (M.m (List Int) (eL M 1 (eI .i64)) w.hits)))] 5 (λr=>sI r) (λ_=>[(0,(vR (iI M w.s++[iy M w.forces,.os 1 0 (M.n gG w.iE),.os 2 0 (M.n Bool w.dropped),.os 3 0 (M.n Bool w.done),.os 4 0 (M.n (List Int) w.hits)]))),(1,(aR 17 (iD M w.iE))),(2,(aR 1 (M.m Bool eB w.dropped))),(3,(aR 1 (M.m Bool eB w.done))),(4,(aR 1 (M.m (List Int) (eL M 1 (eI .i64)) w.hits)))]) 5:=by
 have:=ct 6 [0,5,6,27] (λ_ s=>jO [(27,.sb s)]);exact wC (iV 5 [6] []) Tryz.func339 Tryz.call339 []
end Go.Proofs.YtchmoabpofnbaaaGreat
namespace Go.Proofs.YtchmoabpofnbaaaGreat
open Go Go.Pv Proofs.Tryz
set_option maxRecDepth 100000
set_option maxHeartbeats 20000000
variable [GM]
attribute [local irreducible] bnd br jn qE gK jv lJ jl rD uo divO kT jL kN kP lI lS lM
variable {M:iG}[HM M]
instance z94_2 {k}{c}:CZ M 94 (ru k c) [.lv 0 0,.agg (lN M c)] [(0,(vR (lV M k)))] 1 (λr=>.os 1 0 (M.n Int r.1)) (λr=>[(0,(vR (lV M r.2))),(1,(aR 1 (mI M r.1)))]) 2:=by
 have hM:=HM.h (M:=M);refine⟨λr O=>?_⟩;refine yS (T:=(GY 1 [2] [[(1,true)]])) (iV 1 [2] [[(1,true)]]) wf func94 rfl call94 rfl [.cF 0 8] ?_;intro S R hS hR;have q:=sf hM hS;unfold ru at O;cbv;refine DR [] [0,3,23] (λs1=>f4 77 [.lv 0 0,.lv 1 0,.sb s1] [vR (lV M k),vR (lN M c)]) O ?_ ?_
 intro Ik2 k2 hk2 O;cbv;refine vP ?_ ?_
 exact vF
 intro O;cbv;refine vP ?_ ?_
 exact vF
 intro O;cbv;refine zn hS O (cI hM) ?_;exact xZ
 intro s1 O;cbv;refine vP ?_ ?_
 intro O;cbv;refine jM hS O (cZ hM) (le_eq rfl) ?_;intro y5 O;cbv;cases O;exact hR _ _ _ ji ji rfl
 intro O;cbv;refine EF hS ?_;cbv;refine nZ ?_ ?_
 intro O;cbv;refine jM hS O (cZ hM) (le_eq rfl) ?_;intro y6 O;cbv;refine ZY hS rfl ?_;cbv;refine jM hS O (cZ hM) Lr ?_;intro y7 O;cbv;cases O;exact hR _ _ _ ji ji rfl
 intro O;cbv;refine EF hS ?_;cbv;refine d_I ?_;intro x8 O;cbv;refine zn hS O (cI hM) ?_;intro y9 O;cbv;refine nZ ?_ ?_
 intro O;cbv;refine jM hS O (cZ hM) (le_eq rfl) ?_;intro y10 O;cbv;cases O;exact hR _ _ _ ji ji rfl
 intro O;cbv;refine jM hS O (cZ hM) (le_eq rfl) ?_;intro y11 O;cbv;cases O;exact hR _ _ _ ji ji rfl
theorem aim {M:iG}(hM:M=kX){x:List gq}{r:List gq}(O:kE x oJ=some r):Pv.FnS Tryz.prog glF 299 [.os 0 0 (M.n gq x),.fn 300 []] [(0,(aR 76 (gQ M x)))] 1 (λJ ss nn=>J=.DJ []/\ss=[(0,(aR 76 (gQ M r)))]/\nn=1):=by
 haveI:HM M:=⟨hM⟩
 refine AQ (T:=(GY 1 [] [])) (iV 1 [] []) wf func299 rfl call299 rfl ?_;intro S R hS hR;have q:=sf hM hS;unfold kE at O;cbv;refine wG hS O (λ_=>ail hM) aj aj rfl rfl rfl rfl ?_;intro I U O;have q:=And.intro q (pY afw U).symm;cbv;cases O;exact hR _ _ _ aj aj rfl
instance aj8 {s}{all}{you}{source}{f}:CZ M 413 (Dy s all you source f) [.agg (iI M s),.os 0 0 (M.n gG all),sI you,sI source,.agg (jU M f)] [(0,(aR 17 (iD M all)))] 1 (λr=>.os 1 0 (M.n Int r)) (λr=>[(0,(aR 17 (iD M all))),(1,(aR 1 (mI M r)))]) 2:=by
 have:=lo 3 [1,2,3,9,11,16,17,18] (λ_ (s:Int×(List Int))=>up [(11,.os 2 0 (M.n Int s.2)),(18,sI s.1)] [(2,(aR 1 (mI M s.2)))]) [.tO 11 1];have:=ct 21 [1,2,3,9,11,16,17,18] (λ_ s=>up [(11,.os 2 0 (M.n Int s))] [(2,(aR 1 (mI M s)))]) [.tO 11 1];have:=ct 17 [1,2,3,9,11,13,14,16,17,18] (λ_ (s:iw×gG)=>up [] [(3,(vR (jQ M s.1))),(4,(vR (kU M s.2)))]) [.cS 4 15 72,.cS 4 11 1,.cS 5 15 72,.cS 5 11 1];exact wC (iV 1 [17,21] [[(1,true)]]) func413 call413 []
instance aj9 {s}{all}{you}{source}{f}:CZ M 413 (DD s all you source f) [.agg (iI M s),lq M all,sI you,sI source,.agg (jU M f)] [] 0 (λr=>.os 0 0 (M.n Int r)) (λr=>[(0,(aR 1 (mI M r)))]) 1:=by
 have:=lo 3 [1,2,3,9,11,16,17,18] (λ_ (s:Int×(List Int))=>up [(11,.os 1 0 (M.n Int s.2)),(18,sI s.1)] [(1,(aR 1 (mI M s.2)))]) [.tO 11 1];have:=ct 21 [1,2,3,9,11,16,17,18] (λ_ s=>up [(11,.os 1 0 (M.n Int s))] [(1,(aR 1 (mI M s)))]) [.tO 11 1];have:=ct 17 [1,2,3,9,11,13,14,16,17,18] (λ_ (s:iw×gG)=>up [] [(2,(vR (jQ M s.1))),(3,(vR (kU M s.2)))]) [.cS 3 15 72,.cS 3 11 1,.cS 4 15 72,.cS 4 11 1];exact wC (iV 0 [17,21] [[(1,true)]]) func413 call413 []
instance c330 {left}{needs}:CC M 330 (Fg left needs) [.sl 1 (mI M left) false,.sl 1 (M.m (List Bool) (eL M 1 eB) needs) false] (λr=>.sl 1 (mI M r) false):=by
 have:=lo 5 [3,5,6,7,16,17,18] (λ_ (s:Int×(List Int))=>up [(7,.os 2 0 (M.n Int s.2)),(18,sI s.1)] [(2,(aR 1 (mI M s.2)))]) [.tO 7 1];have:=ct 21 [3,5,6,7,16,17,18] (λ_ s=>up [(7,.os 2 0 (M.n Int s))] [(2,(aR 1 (mI M s)))]) [.tO 7 1];exact wA (iO [21]) func330 call330
instance c51 {a}{b}:CC M 51 (Nc a b) [.agg (iF M a),.agg (iF M b)] (λr=>.sb r):=by
 have:=ct 2 [2,3,52] (λ_ s=>jO [(52,.sb s)]);have:=lo 4 [2,3,5] (λ_ s=>jO [(5,sI s)]);have:=lo 9 [2,3,6] (λ_ s=>jO [(6,sI s)]);have:=lo 14 [2,3,7] (λ_ s=>jO [(7,sI s)]);have:=lo 19 [2,3,8] (λ_ s=>jO [(8,sI s)]);have:=lo 24 [2,3,9] (λ_ s=>jO [(9,sI s)]);exact wA (iO [2]) func51 call51
end Go.Proofs.YtchmoabpofnbaaaGreat
