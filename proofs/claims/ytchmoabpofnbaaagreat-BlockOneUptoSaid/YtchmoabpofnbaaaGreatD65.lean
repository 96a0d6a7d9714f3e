import Derived.Test.YtchmoabpofnbaaaGreatD59
import Derived.Test.YtchmoabpofnbaaaGreatD60
set_option linter.all false
namespace Go.Proofs.YtchmoabpofnbaaaGreat
open Go Go.Pv
set_option maxRecDepth 100000
set_option maxHeartbeats 20000000
variable [GM]
attribute [local irreducible] bnd br jn pI eH iI kD gW qx sG divO jU jc jM jD jR kK kE
variable {M:gm}[HM M]
instance o168 {cards}{s}:CZ M 168 (EX cards s) [lQ M cards,.agg (gG M s)] [] 0 (λ_=>.lv 0 0) (λr=>[(0,(vR (gG M r.s++[fU M r.forces,.os 1 0 (M.n eF r.eG),.os 2 0 (M.n Bool r.dropped),.os 3 0 (M.n Bool r.done),.os 4 0 (M.n (List Int) r.hits)]))),(1,(aR 17 (fQ M r.eG))),(2,(aR 1 (M.m Bool eB r.dropped))),(3,(aR 1 (M.m Bool eB r.done))),(4,(aR 1 (M.m (List Int) (eL M 1 (eI .i64)) r.hits)))]) 5:=by
 have hM:=HM.h (M:=M);refine⟨λr U=>?_⟩;refine Ad (T:=(Gh 0 [1007] [])) (gJ 0 [1007] []) wf Tryz.func168 rfl Tryz.call168 rfl ?_;intro S R O hR;have q:=sf hM O;unfold EX at U;cbv;refine Fa O ?_;cbv;refine Kq O U (cI hM) ?_;intro y1 U;cbv;refine Nr O U jW jW ?_;intro j2 U;cbv;refine LV O (e:=eB) U ah ?_;intro x3 U;cbv;refine aeX O (gJ 0 [1007] []) wf [.cO 33 20 17,.cR 33 21] [.cO 0 20 17,.cR 0 21] [0,5,19,20,21] (λs4=>f3 57 [(0,lQ M cards),(5,.lv 0 0),(19,oZ M s.objects),(20,sI (S.len (jO M s.objects))),(21,sI s4.1)] [vR (gG M s++[fU M y1,.os 1 0 (S.fE (fQ M s4.2.1)),.os 2 0 (S.fE (M.m Bool eB s4.2.2)),.sl 0 [] true,.sl 0 [] true]),aR 17 (fQ M s4.2.1),aR 1 (M.m Bool eB s4.2.2)]) U aT ?_;intro Ik5 k5 s4 hk5 U e he;subst he;unfold Cj at U;cbv;refine mP ?_ ?_
 intro U;cbv;refine Kr ?_;intro x7 U;cbv;refine Fa O ?_;cbv;refine Kq O U (cI hM) ?_;intro y8 U;cbv;refine nM O U jW ?_;exact tY
 intro U;cbv;refine Nr O U jW jW ?_;intro j9 U;cbv;refine LV O (e:=eB) U ah ?_;intro x10 U;cbv;refine Nr O U jW jW ?_;intro j11 U;cbv;refine LV O (e:=(eL M 1 (eI .i64))) U (by(try simp only[eL,q]);repeat' constructor) ?_;intro x12 U;cbv;refine ahq O aA ?_;cbv;cases U;exact hR _ _ _ iU iU rfl
instance aoe {w}{i}:CZ M 408 (qB w i) [.lv 0 0,sI i] [(0,(vR (gG M w.s++[fU M w.forces,.os 1 0 (M.n eF w.eG),.os 2 0 (M.n Bool w.dropped),.os 3 0 (M.n Bool w.done),.os 4 0 (M.n (List Int) w.hits)]))),(1,(aR 17 (fQ M w.eG))),(2,(aR 1 (M.m Bool eB w.dropped))),(3,(aR 1 (M.m Bool eB w.done))),(4,(aR 1 (M.m (List Int) (eL M 1 (eI .i64)) w.hits)))] 5 (λr=>.sb r) (λ_=>[(0,(vR (gG M w.s++[fU M w.forces,.os 1 0 (M.n eF w.eG),.os 2 0 (M.n Bool w.dropped),.os 3 0 (M.n Bool w.done),.os 4 0 (M.n (List Int) w.hits)]))),(1,(aR 17 (fQ M w.eG))),(2,(aR 1 (M.m Bool eB w.dropped))),(3,(aR 1 (M.m Bool eB w.done))),(4,(aR 1 (M.m (List Int) (eL M 1 (eI .i64)) w.hits)))]) 5:=by
 have:=ct 4 [0,5,24] (λ_ s=>jf [(24,.sb s)]);exact wC (gJ 5 [4] []) Tryz.func408 Tryz.call408 []
instance aof {w}{i}:CZ M 339 (wQ w i) [.lv 0 0,sI i] [(0,(vR (gG M w.s++[fU M w.forces,.os 1 0 (M.n eF w.eG),.os 2 0 (M.n Bool w.dropped),.os 3 0 (M.n Bool w.done),.os 4 0 (M.n (List Int) w.hits)]))),(1,(aR 17 (fQ M w.eG))),(2,(aR 1 (M.m Bool eB w.dropped))),(3,(aR 1 (M.m Bool eB w.done))),(4,(aR 1 (M.m (List Int) (eL M 1 (eI .i64)) w.hits)))] 5 (λr=>sI r) (λ_=>[(0,(vR (gG M w.s++[fU M w.forces,.os 1 0 (M.n eF w.eG),.os 2 0 (M.n Bool w.dropped),.os 3 0 (M.n Bool w.done),.os 4 0 (M.n (List Int) w.hits)]))),(1,(aR 17 (fQ M w.eG))),(2,(aR 1 (M.m Bool eB w.dropped))),(3,(aR 1 (M.m Bool eB w.done))),(4,(aR 1 (M.m (List Int) (eL M 1 (eI .i64)) w.hits)))]) 5:=by
 have:=ct 6 [0,5,6,27] (λ_ s=>jf [(27,.sb s)]);exact wC (gJ 5 [6] []) Tryz.func339 Tryz.call339 []
end Go.Proofs.YtchmoabpofnbaaaGreat
namespace Go.Proofs.YtchmoabpofnbaaaGreat
open Go Go.Pv Proofs.Tryz
set_option maxRecDepth 100000
set_option maxHeartbeats 20000000
variable [GM]
attribute [local irreducible] bnd br jn pI eH iI kD gW qx sG divO jU jc jM jD jR kK kE
variable {M:gm}[HM M]
instance z94_2 {k}{c}:CZ M 94 (xO k c) [.lv 0 0,.agg (jQ M c)] [(0,(vR (jY M k)))] 1 (λr=>.os 1 0 (M.n Int r.1)) (λr=>[(0,(vR (jY M r.2))),(1,(aR 1 (mI M r.1)))]) 2:=by
 have hM:=HM.h (M:=M);refine⟨λr U=>?_⟩;refine xY (T:=(Gh 1 [2] [[(1,true)]])) (gJ 1 [2] [[(1,true)]]) wf func94 rfl call94 rfl [.cF 0 8] ?_;intro S R O hR;have q:=sf hM O;unfold xO at U;cbv;refine DJ [] [0,3,23] (λs1=>f4 77 [.lv 0 0,.lv 1 0,.sb s1] [vR (jY M k),vR (jQ M c)]) U ?_ ?_
 intro Ik2 k2 hk2 U;cbv;refine xH ?_ ?_
 exact tY
 intro U;cbv;refine xH ?_ ?_
 exact tY
 intro U;cbv;refine wo O U (cI hM) ?_;exact yX
 intro s1 U;cbv;refine xH ?_ ?_
 intro U;cbv;refine jC O U (cZ hM) (le_eq rfl) ?_;intro y5 U;cbv;cases U;exact hR _ _ _ iU iU rfl
 intro U;cbv;refine Fa O ?_;cbv;refine mP ?_ ?_
 intro U;cbv;refine jC O U (cZ hM) (le_eq rfl) ?_;intro y6 U;cbv;refine aeS O rfl ?_;cbv;refine jC O U (cZ hM) NC ?_;intro y7 U;cbv;cases U;exact hR _ _ _ iU iU rfl
 intro U;cbv;refine Fa O ?_;cbv;refine Kr ?_;intro x8 U;cbv;refine wo O U (cI hM) ?_;intro y9 U;cbv;refine mP ?_ ?_
 intro U;cbv;refine jC O U (cZ hM) (le_eq rfl) ?_;intro y10 U;cbv;cases U;exact hR _ _ _ iU iU rfl
 intro U;cbv;refine jC O U (cZ hM) (le_eq rfl) ?_;intro y11 U;cbv;cases U;exact hR _ _ _ iU iU rfl
theorem aml {M:gm}(hM:M=kJ){x:List dV}{r:List dV}(U:jV x og=some r):Pv.FnS Tryz.prog glF 299 [.os 0 0 (M.n dV x),.fn 300 []] [(0,(aR 76 (fA M x)))] 1 (λJ ss nn=>J=.Ed []/\ss=[(0,(aR 76 (fA M r)))]/\nn=1):=by
 haveI:HM M:=⟨hM⟩
 refine Ad (T:=(Gh 1 [] [])) (gJ 1 [] []) wf func299 rfl call299 rfl ?_;intro S R O hR;have q:=sf hM O;unfold jV at U;cbv;refine uF O U (λ_=>amk hM) ah ah rfl rfl rfl rfl ?_;intro C I U;have q:=And.intro q (nT aiw I).symm;cbv;cases U;exact hR _ _ _ ah ah rfl
instance aog {s}{all}{you}{source}{f}:CZ M 413 (EF s all you source f) [.agg (gG M s),.os 0 0 (M.n eF all),sI you,sI source,.agg (jm M f)] [(0,(aR 17 (fQ M all)))] 1 (λr=>.os 1 0 (M.n Int r)) (λr=>[(0,(aR 17 (fQ M all))),(1,(aR 1 (mI M r)))]) 2:=by
 have:=lo 3 [1,2,3,9,11,16,17,18] (λ_ (s:Int×(List Int))=>up [(11,.os 2 0 (M.n Int s.2)),(18,sI s.1)] [(2,(aR 1 (mI M s.2)))]) [.tO 11 1];have:=ct 21 [1,2,3,9,11,16,17,18] (λ_ s=>up [(11,.os 2 0 (M.n Int s))] [(2,(aR 1 (mI M s)))]) [.tO 11 1];have:=ct 17 [1,2,3,9,11,13,14,16,17,18] (λ_ (s:fD×eF)=>up [] [(3,(vR (jo M s.1))),(4,(vR (jd M s.2)))]) [.cS 4 15 72,.cS 4 11 1,.cS 5 11 1,.cS 5 15 72];exact wC (gJ 1 [17,21] [[(1,true)]]) func413 call413 []
instance aoh {s}{all}{you}{source}{f}:CZ M 413 (nZ s all you source f) [.agg (gG M s),kH M all,sI you,sI source,.agg (jm M f)] [] 0 (λr=>.os 0 0 (M.n Int r)) (λr=>[(0,(aR 1 (mI M r)))]) 1:=by
 have:=lo 3 [1,2,3,9,11,16,17,18] (λ_ (s:Int×(List Int))=>up [(11,.os 1 0 (M.n Int s.2)),(18,sI s.1)] [(1,(aR 1 (mI M s.2)))]) [.tO 11 1];have:=ct 21 [1,2,3,9,11,16,17,18] (λ_ s=>up [(11,.os 1 0 (M.n Int s))] [(1,(aR 1 (mI M s)))]) [.tO 11 1];have:=ct 17 [1,2,3,9,11,13,14,16,17,18] (λ_ (s:fD×eF)=>up [] [(2,(vR (jo M s.1))),(3,(vR (jd M s.2)))]) [.cS 3 15 72,.cS 3 11 1,.cS 4 15 72,.cS 4 11 1];exact wC (gJ 0 [17,21] [[(1,true)]]) func413 call413 []
instance c354 {s}{all}{you}{source}{f}:CC M 354 (yh s all you source f) [.agg (fM M s),kH M all,sI you,sI source,.agg (jm M f)] (λr=>.sl 1 (mI M r) false):=by
 have:=lo 3 [1,2,3,5,9,11,12] (λ_ (s:Int×(List Int))=>up [(11,.os 2 0 (M.n Int s.2)),(12,sI s.1)] [(2,(aR 1 (mI M s.2)))]) [.tO 11 1];have:=ct 9 [1,2,3,5,9,11,12] (λ_ s=>up [(11,.os 2 0 (M.n Int s))] [(2,(aR 1 (mI M s)))]) [.tO 11 1];exact wA (fZ [9]) func354 call354
instance c330 {left}{needs}:CC M 330 (GK left needs) [.sl 1 (mI M left) false,.sl 1 (M.m (List Bool) (eL M 1 eB) needs) false] (λr=>.sl 1 (mI M r) false):=by
 have:=lo 5 [3,5,6,7,16,17,18] (λ_ (s:Int×(List Int))=>up [(7,.os 2 0 (M.n Int s.2)),(18,sI s.1)] [(2,(aR 1 (mI M s.2)))]) [.tO 7 1];have:=ct 21 [3,5,6,7,16,17,18] (λ_ s=>up [(7,.os 2 0 (M.n Int s))] [(2,(aR 1 (mI M s)))]) [.tO 7 1];exact wA (fZ [21]) func330 call330
end Go.Proofs.YtchmoabpofnbaaaGreat
