import Derived.Test.YtchmoabpofnbaaaGreatW5a
import Derived.Test.YtchmoabpofnbaaaGreatW5b
set_option linter.all false
namespace Go.Proofs.YtchmoabpofnbaaaGreat
open Go Go.Pv Proofs.Tryz
set_option maxRecDepth 100000
set_option maxHeartbeats 20000000
variable [GM]
attribute [local irreducible] bnd br jn qR ig jK lK jS rQ uY divO lu jR kY lD lU mg l9
variable {M:iO}[HM M]
instance o168 {cards}{s}:CZ M 168 (Dc cards s) [mD M cards,.agg (iL M s)] [] 0 (λ_=>.lv 0 0) (λr=>[(0,(vR (iL M r.s++[iJ M r.forces,.os 1 0 (M.n gX r.iH),.os 2 0 (M.n Bool r.dropped),.os 3 0 (M.n Bool r.done),.os 4 0 (M.n (List Int) r.hits)]))),(1,(aR 17 (iK M r.iH))),(2,(aR 1 (M.m Bool eB r.dropped))),(3,(aR 1 (M.m Bool eB r.done))),(4,(aR 1 (M.m (List Int) (eL M 1 (eI .i64)) r.hits)))]) 5:=by
 have hM:=HM.h (M:=M);refine⟨λr O=>?_⟩;refine BV (T:=(FY 0 [1007] [])) (iZ 0 [1007] []) wf func168 rfl call168 rfl ?_;intro S R hS hR;have q:=sf hM hS;unfold Dc at O;cbv;refine Ii hS ?_;cbv;refine d_c hS O (cI hM) ?_;intro y1 O;cbv;refine Q5 hS O mi mi ?_;intro j2 O;cbv;refine Nr hS (e:=eB) O ak ?_;intro x3 O;cbv;refine WS hS (iZ 0 [1007] []) wf [.cR 33 21,.cO 33 20 17] [.cR 0 21,.cO 0 20 17] [0,5,19,20,21] (λs4=>f3 57 [(0,mD M cards),(5,.lv 0 0),(19,pR M s.objects),(20,sI (S.len (mO M s.objects))),(21,sI s4.1)] [vR (iL M s++[iJ M y1,.os 1 0 (S.iD (iK M s4.2.1)),.os 2 0 (S.iD (M.m Bool eB s4.2.2)),.sl 0 [] true,.sl 0 [] true]),aR 17 (iK M s4.2.1),aR 1 (M.m Bool eB s4.2.2)]) O bC ?_;intro Ik5 k5 s4 hk5 O e he;subst he;unfold Aq at O;cbv;refine pW ?_ ?_
 intro O;cbv;refine d_I ?_;intro x7 O;cbv;refine Ii hS ?_;cbv;refine d_c hS O (cI hM) ?_;intro y8 O;cbv;refine rU hS O mi ?_;exact sV
 intro O;cbv;refine Q5 hS O mi mi ?_;intro j9 O;cbv;refine Nr hS (e:=eB) O ak ?_;intro x10 O;cbv;refine Q5 hS O mi mi ?_;intro j11 O;cbv;refine Nr hS (e:=(eL M 1 (eI .i64))) O di ?_;intro x12 O;cbv;refine ads hS aV ?_;cbv;cases O;exact hR _ _ _ jC jC rfl
instance aiM {w}{i}:CZ M 408 (qm w i) [.lv 0 0,sI i] [(0,(vR (iL M w.s++[iJ M w.forces,.os 1 0 (M.n gX w.iH),.os 2 0 (M.n Bool w.dropped),.os 3 0 (M.n Bool w.done),.os 4 0 (M.n (List Int) w.hits)]))),(1,(aR 17 (iK M w.iH))),(2,(aR 1 (M.m Bool eB w.dropped))),(3,(aR 1 (M.m Bool eB w.done))),(4,(aR 1 (M.m (List Int) (eL M 1 (eI .i64)) w.hits)))] 5 (λr=>.sb r) (λ_=>[(0,(vR (iL M w.s++[iJ M w.forces,.os 1 0 (M.n gX w.iH),.os 2 0 (M.n Bool w.dropped),.os 3 0 (M.n Bool w.done),.os 4 0 (M.n (List Int) w.hits)]))),(1,(aR 17 (iK M w.iH))),(2,(aR 1 (M.m Bool eB w.dropped))),(3,(aR 1 (M.m Bool eB w.done))),(4,(aR 1 (M.m (List Int) (eL M 1 (eI .i64)) w.hits)))]) 5:=by
 have:=ct 4 [0,5,24] (λ_ s=>kG [(24,.sb s)]);exact wC (iZ 5 [4] []) func408 call408 []
instance aiN {w}{i}:CZ M 339 (vM w i) [.lv 0 0,sI i] [(0,(vR (iL M w.s++[iJ M w.forces,.os 1 0 (M.n gX w.iH),.os 2 0 (M.n Bool w.dropped),.os 3 0 (M.n Bool w.done),.os 4 0 (M.n (List Int) w.hits)]))),(1,(aR 17 (iK M w.iH))),(2,(aR 1 (M.m Bool eB w.dropped))),(3,(aR 1 (M.m Bool eB w.done))),(4,(aR 1 (M.m (List Int) (eL M 1 (eI .i64)) w.hits)))] 5 (λr=>sI r) (λ_=>[(0,(vR (iL M w.s++[iJ M w.forces,.os 1 0 (M.n gX w.iH),.os 2 0 (M.n Bool w.dropped),.os 3 0 (M.n Bool w.done),.os 4 0 (M.n (List Int) w.hits)]))),(1,(aR 17 (iK M w.iH))),(2,(aR 1 (M.m Bool eB w.dropped))),(3,(aR 1 (M.m Bool eB w.done))),(4,(aR 1 (M.m (List Int) (eL M 1 (eI .i64)) w.hits)))]) 5:=by
 have:=ct 6 [0,5,6,27] (λ_ s=>kG [(27,.sb s)]);exact wC (iZ 5 [6] []) func339 call339 []
theorem agJ {M:iO}(hM:M=lC){x:List gI}{r:List gI}(O:kF x oL=some r):Pv.FnS Tryz.prog glF 299 [.os 0 0 (M.n gI x),.fn 300 []] [(0,(aR 76 (gY M x)))] 1 (λJ ss nn=>J=.EJ []/\ss=[(0,(aR 76 (gY M r)))]/\nn=1):=by
 haveI:HM M:=⟨hM⟩
 refine BV (T:=(FY 1 [] [])) (iZ 1 [] []) wf func299 rfl call299 rfl ?_;intro S R hS hR;have q:=sf hM hS;unfold kF at O;cbv;refine vY hS O (λ_=>agI hM) ak ak rfl rfl rfl rfl ?_;intro I U O;have q:=And.intro q (pU adS U).symm;cbv;cases O;exact hR _ _ _ ak ak rfl
end Go.Proofs.YtchmoabpofnbaaaGreat
