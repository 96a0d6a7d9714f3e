import Derived.Test.YtchmoabpofnbaaaGreatD65
import Derived.Test.YtchmoabpofnbaaaGreatD66
set_option linter.all false
namespace Go.Proofs.YtchmoabpofnbaaaGreat
open Go Go.Pv
set_option maxRecDepth 100000
set_option maxHeartbeats 20000000
variable [GM]
attribute [local irreducible] bnd br jn pI eH iI kD gW qx sG divO jU jc jM jD jR kK kE
variable {M:gm}[HM M]
instance aoi {w}{i}:CZ M 337 (mW w i) [.lv 0 0,sI i] [(0,(vR (gG M w.s++[fU M w.forces,.os 1 0 (M.n eF w.eG),.os 2 0 (M.n Bool w.dropped),.os 3 0 (M.n Bool w.done),.os 4 0 (M.n (List Int) w.hits)]))),(1,(aR 17 (fQ M w.eG))),(2,(aR 1 (M.m Bool eB w.dropped))),(3,(aR 1 (M.m Bool eB w.done))),(4,(aR 1 (M.m (List Int) (eL M 1 (eI .i64)) w.hits)))] 5 (λr=>.sl 1 (mI M r) false) (λ_=>[(0,(vR (gG M w.s++[fU M w.forces,.os 1 0 (M.n eF w.eG),.os 2 0 (M.n Bool w.dropped),.os 3 0 (M.n Bool w.done),.os 4 0 (M.n (List Int) w.hits)]))),(1,(aR 17 (fQ M w.eG))),(2,(aR 1 (M.m Bool eB w.dropped))),(3,(aR 1 (M.m Bool eB w.done))),(4,(aR 1 (M.m (List Int) (eL M 1 (eI .i64)) w.hits)))]) 5:=by
 have hM:=HM.h (M:=M);refine⟨λr U=>?_⟩;refine xY (T:=(Gh 5 [20,25] [[(0,true)]])) (gJ 5 [20,25] [[(0,true)]]) wf Tryz.func337 rfl Tryz.call337 rfl [] ?_;intro S R O hR;have q:=sf hM O;unfold mW at U;cbv;refine lh O U jW rfl ?_;intro j1 _ U;cbv;refine jv O hM U rfl jW ?_;intro x2 U;cbv;refine xH ?_ ?_
 intro U;cbv;refine lh O U jW rfl ?_;intro j3 _ U;cbv;refine jv O hM U rfl jW ?_;intro x4 U;cbv;cases U;exact hR _ _ _ ah ah rfl
 intro U;cbv;refine jE O U (cZ hM) iU iU rfl rfl rfl rfl ?_;intro y5 U;cbv;refine mP ?_ ?_
 intro U;cbv;cases U;exact hR _ _ _ ah ah rfl
 intro U;cbv;refine Fa O ?_;cbv;refine Kr ?_;intro x6 U;cbv;refine aeT O U (cI hM) NC (λ_=>rfl) ?_;intro y7 U;cbv;refine Ji (gJ 5 [20,25] [[(0,true)]]) [.tO 7 1] [0,5,6,7,42,43,44] (λs8=>f4 90 [.lv 0 0,.lv 5 0,sI y7,.os 6 0 (S.fE (mI M s8.2)),oZ M w.s.objects,sI (S.len (jO M w.s.objects)),sI s8.1] [vR (gG M w.s++[fU M w.forces,.os 1 0 (S.fE (fQ M w.eG)),.os 2 0 (S.fE (M.m Bool eB w.dropped)),.os 3 0 (S.fE (M.m Bool eB w.done)),.os 4 0 (S.fE (M.m (List Int) (eL M 1 (eI .i64)) w.hits))]),aR 17 (fQ M w.eG),aR 1 (M.m Bool eB w.dropped),aR 1 (M.m Bool eB w.done),aR 1 (M.m (List Int) (eL M 1 (eI .i64)) w.hits),vR (pK M x6),aR 1 (mI M s8.2)]) U ?_;intro Ik9 k9 s8 hk9 U e he;subst he;unfold tu at U;cbv;refine mP ?_ ?_
 ·intro U;cbv;refine DJ [.tO 7 1] [0,5,6,7,42,43,44] (λs11=>f4 90 [.lv 0 0,.lv 5 0,sI y7,.os 6 0 (S.fE (mI M s11)),oZ M w.s.objects,sI (S.len (jO M w.s.objects)),sI s8.1] [vR (gG M w.s++[fU M w.forces,.os 1 0 (S.fE (fQ M w.eG)),.os 2 0 (S.fE (M.m Bool eB w.dropped)),.os 3 0 (S.fE (M.m Bool eB w.done)),.os 4 0 (S.fE (M.m (List Int) (eL M 1 (eI .i64)) w.hits))]),aR 17 (fQ M w.eG),aR 1 (M.m Bool eB w.dropped),aR 1 (M.m Bool eB w.done),aR 1 (M.m (List Int) (eL M 1 (eI .i64)) w.hits),vR (pK M x6),aR 1 (mI M s11)]) U ?_ ?_
  ·intro Ik12 k12 hk12 U;cbv;refine Kr ?_;intro x14 U;cbv;refine DJ [] [0,5,6,7,8,42,43,44,83] (λs15=>f4 90 [.lv 0 0,.lv 5 0,sI y7,.os 6 0 (S.fE (mI M s8.2)),sI s8.1,oZ M w.s.objects,sI (S.len (jO M w.s.objects)),sI s8.1,.sb s15] [vR (gG M w.s++[fU M w.forces,.os 1 0 (S.fE (fQ M w.eG)),.os 2 0 (S.fE (M.m Bool eB w.dropped)),.os 3 0 (S.fE (M.m Bool eB w.done)),.os 4 0 (S.fE (M.m (List Int) (eL M 1 (eI .i64)) w.hits))]),aR 17 (fQ M w.eG),aR 1 (M.m Bool eB w.dropped),aR 1 (M.m Bool eB w.done),aR 1 (M.m (List Int) (eL M 1 (eI .i64)) w.hits),vR (pK M x6),aR 1 (mI M s8.2)]) U ?_ ?_
   intro Ik16 k16 hk16 U;cbv;refine Fa O ?_;cbv;refine mP ?_ ?_
   intro U;cbv;refine xH ?_ ?_
   intro U;cbv;refine Kq O U (cI hM) ?_;intro y18 U;cbv;refine xH ?_ ?_
   exact tY
   intro U;cbv;refine mP ?_ ?_
   intro U;cbv;refine lh O U jW rfl ?_;intro j19 _ U;cbv;refine jv O hM U rfl jW ?_;intro x20 U;cbv;refine Kq O U (cI hM) ?_;exact yX
   exact tY
   intro U;cbv;refine mP ?_ ?_
   intro U;cbv;refine lh O U jW rfl ?_;intro j22 _ U;cbv;refine jv O hM U rfl jW ?_;intro x23 U;cbv;refine Kq O U (cI hM) ?_;exact yX
   exact tY
   exact tY
   intro s15 U;cbv;refine xH ?_ ?_
   intro U;cbv;refine nM O U jW ?_;exact tY
   exact tY
  intro s11 U;cbv;exact uj
 intro U;cbv;cases U;exact hR _ _ _ ah ah rfl
end Go.Proofs.YtchmoabpofnbaaaGreat
namespace Go.Proofs.YtchmoabpofnbaaaGreat
open Go Go.Pv Proofs.Tryz
set_option maxRecDepth 100000
set_option maxHeartbeats 20000000
variable [GM]
attribute [local irreducible] bnd br jn pI eH iI kD gW qx sG divO jU jc jM jD jR kK kE
variable {M:gm}[HM M]
instance o283 {cards}{s}{all}{pe}:CZ M 283 (Aj cards s all pe) [lQ M cards,.agg (fM M s),kH M all,.agg (jT M pe)] [] 0 (λr=>.os 0 0 (M.n fH r)) (λr=>[(0,(aR 3 (ny M r)))]) 1:=by
 have:=ct 15 [0,2,5,7,9] (λ_ (_:Unit)=>jf []);have:=ct 10 [0,2,5,7,9,10,55] (λ_ s=>jf [(55,.sb s)]);have:=lo 8 [0,2,5,7,9,63,64,65] (λ_ (s:Int×(List fH))=>up [(9,.os 2 0 (M.n fH s.2)),(65,sI s.1)] [(2,(aR 3 (ny M s.2)))]) [.tO 9 3];have:=lo 12 [0,2,5,7,9,14,16,63,64,65,79,80,81] (λ_ (s:fD×Int×(List fH))=>up [(9,.os 2 0 (M.n fH s.2.2)),(81,sI s.2.1)] [(2,(aR 3 (ny M s.2.2))),(3,(vR (jo M s.1)))]) [.tO 9 3];have:=ct 33 [0,2,5,7,9,14,16,63,64,65,79,80,81] (λ_ (s:fD×(List fH))=>up [(9,.os 2 0 (M.n fH s.2))] [(2,(aR 3 (ny M s.2))),(3,(vR (jo M s.1)))]) [.tO 9 3];have:=ct 28 [0,2,5,7,9,14,16,18,63,64,65,79,80,81,106] (λ_ s=>jf [(106,.sb s)]);have:=ct 36 [0,2,5,7,9,123] (λ_ s=>jf [(123,.sb s)]);exact wZ (gJ 0 [10,15,28,33,36] [[(3,true)]]) func283 call283
instance c338 {w}{i}{stage}:CC M 338 (qi w i stage) [.pp (zO M w),sI i,sI stage] (λr=>.sl 1 (mI M r) false):=by
 have:=lo 4 [0,1,2,7,8,23,24,25] (λ_ (s:Int×(List Int))=>up [(8,.os 1 0 (M.n Int s.2)),(25,sI s.1)] [(1,(aR 1 (mI M s.2)))]);have:=ct 17 [0,1,2,7,8,23,24,25] (λ_ s=>up [(8,.os 1 0 (M.n Int s))] [(1,(aR 1 (mI M s)))]);have:=ct 12 [0,1,2,7,8,9,10,23,24,25,39] (λ_ s=>jf [(39,.sb s)]);exact wA (fZ [12,17]) func338 call338
instance c276 {t}{f}{stage}{lI}{nums}:CC M 276 (Gp t f stage lI nums) [.agg (jd M t),.agg (wJ M f),sI stage,sI lI,.sl 1 (mI M nums) false] (λr=>.agg (jd M r)):=by
 have:=lo 3 [2,3,4,5,6,10,11,12] (λ_ (s:eF×Int×Int)=>up [(11,sI s.2.1),(12,sI s.2.2)] [(0,(vR (jd M s.1)))]);have:=ct 9 [2,3,4,5,6,10,11,12] (λ_ (s:eF×Int)=>up [(11,sI s.2)] [(0,(vR (jd M s.1)))]);exact wA (fZ [9]) func276 call276
instance c337 {w}{i}:CC M 337 (nG w i) [.pp (zO M w),sI i] (λr=>.sl 1 (mI M r) false):=by
 have:=lo 8 [0,5,6,7,42,43,44] (λ_ (s:Int×(List Int))=>up [(7,.os 1 0 (M.n Int s.2)),(44,sI s.1)] [(1,(aR 1 (mI M s.2)))]) [.tO 7 1];have:=ct 25 [0,5,6,7,42,43,44] (λ_ s=>up [(7,.os 1 0 (M.n Int s))] [(1,(aR 1 (mI M s)))]) [.tO 7 1];have:=ct 20 [0,5,6,7,8,42,43,44,83] (λ_ s=>jf [(83,.sb s)]);exact wA (fZ [20,25]) func337 call337
end Go.Proofs.YtchmoabpofnbaaaGreat
