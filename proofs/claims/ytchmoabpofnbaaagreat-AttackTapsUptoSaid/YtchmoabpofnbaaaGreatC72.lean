import Derived.Test.YtchmoabpofnbaaaGreatC63
import Derived.Test.YtchmoabpofnbaaaGreatC64
set_option linter.all false
namespace Go.Proofs.YtchmoabpofnbaaaGreat
open Go Go.Pv
set_option maxRecDepth 100000
set_option maxHeartbeats 20000000
variable [GM]
attribute [local irreducible] bnd br jn oL loopF iq jS gu pO rG divO jF iO jA jm jE jY jU
variable {M:fP}[HM M]
instance amY {w}{i}:CZ M 337 (mr w i) [.lv 0 0,sI i] [(0,(vR (fV M w.s++[fK M w.forces,.os 1 0 (M.n eQ w.traits),.os 2 0 (M.n Bool w.dropped),.os 3 0 (M.n Bool w.done),.os 4 0 (M.n (List Int) w.hits)]))),(1,(aR 17 (fJ M w.traits))),(2,(aR 1 (M.m Bool eB w.dropped))),(3,(aR 1 (M.m Bool eB w.done))),(4,(aR 1 (M.m (List Int) (eL M 1 (eI .i64)) w.hits)))] 5 (λr=>.sl 1 (mI M r) false) (λ_=>[(0,(vR (fV M w.s++[fK M w.forces,.os 1 0 (M.n eQ w.traits),.os 2 0 (M.n Bool w.dropped),.os 3 0 (M.n Bool w.done),.os 4 0 (M.n (List Int) w.hits)]))),(1,(aR 17 (fJ M w.traits))),(2,(aR 1 (M.m Bool eB w.dropped))),(3,(aR 1 (M.m Bool eB w.done))),(4,(aR 1 (M.m (List Int) (eL M 1 (eI .i64)) w.hits)))]) 5:=by
 have hM:=HM.h (M:=M);refine⟨λr U=>?_⟩;refine xw (T:=(Fg 5 [20,25] [[(0,true)]])) (gp 5 [20,25] [[(0,true)]]) wf Tryz.func337 rfl Tryz.call337 rfl [] ?_;intro S R hS hR;have q:=sf hM hS;unfold mr at U;cbv;refine kM hS U jJ rfl ?_;intro j1 _ U;cbv;refine jc hS hM U rfl jJ ?_;intro x2 U;cbv;refine rf ?_ ?_
 intro U;cbv;refine kM hS U jJ rfl ?_;intro j3 _ U;cbv;refine jc hS hM U rfl jJ ?_;intro x4 U;cbv;cases U;exact hR _ _ _ ah ah rfl
 intro U;cbv;refine iR hS U (cZ hM) gX gX rfl rfl rfl rfl ?_;intro y5 U;cbv;refine kQ ?_ ?_
 intro U;cbv;cases U;exact hR _ _ _ ah ah rfl
 intro U;cbv;refine CB hS ?_;cbv;refine zT ?_;intro x6 U;cbv;refine adN hS U (cI hM) JB (λ_=>rfl) ?_;intro y7 U;cbv;refine Gg (gp 5 [20,25] [[(0,true)]]) [.tO 7 1] [0,5,6,7,42,43,44] (λs8=>f4 90 [.lv 0 0,.lv 5 0,sI y7,.os 6 0 (S.fE (mI M s8.2)),nS M w.s.objects,sI (S.len (jW M w.s.objects)),sI s8.1] [vR (fV M w.s++[fK M w.forces,.os 1 0 (S.fE (fJ M w.traits)),.os 2 0 (S.fE (M.m Bool eB w.dropped)),.os 3 0 (S.fE (M.m Bool eB w.done)),.os 4 0 (S.fE (M.m (List Int) (eL M 1 (eI .i64)) w.hits))]),aR 17 (fJ M w.traits),aR 1 (M.m Bool eB w.dropped),aR 1 (M.m Bool eB w.done),aR 1 (M.m (List Int) (eL M 1 (eI .i64)) w.hits),vR (oN M x6),aR 1 (mI M s8.2)]) U ?_;intro Ik9 k9 s8 hk9 U e he;subst he;unfold su at U;cbv;refine kQ ?_ ?_
 ·intro U;cbv;refine yE [.tO 7 1] [0,5,6,7,42,43,44] (λs11=>f4 90 [.lv 0 0,.lv 5 0,sI y7,.os 6 0 (S.fE (mI M s11)),nS M w.s.objects,sI (S.len (jW M w.s.objects)),sI s8.1] [vR (fV M w.s++[fK M w.forces,.os 1 0 (S.fE (fJ M w.traits)),.os 2 0 (S.fE (M.m Bool eB w.dropped)),.os 3 0 (S.fE (M.m Bool eB w.done)),.os 4 0 (S.fE (M.m (List Int) (eL M 1 (eI .i64)) w.hits))]),aR 17 (fJ M w.traits),aR 1 (M.m Bool eB w.dropped),aR 1 (M.m Bool eB w.done),aR 1 (M.m (List Int) (eL M 1 (eI .i64)) w.hits),vR (oN M x6),aR 1 (mI M s11)]) U ?_ ?_
  ·intro Ik12 k12 hk12 U;cbv;refine zT ?_;intro x14 U;cbv;refine yE [] [0,5,6,7,8,42,43,44,83] (λs15=>f4 90 [.lv 0 0,.lv 5 0,sI y7,.os 6 0 (S.fE (mI M s8.2)),sI s8.1,nS M w.s.objects,sI (S.len (jW M w.s.objects)),sI s8.1,.sb s15] [vR (fV M w.s++[fK M w.forces,.os 1 0 (S.fE (fJ M w.traits)),.os 2 0 (S.fE (M.m Bool eB w.dropped)),.os 3 0 (S.fE (M.m Bool eB w.done)),.os 4 0 (S.fE (M.m (List Int) (eL M 1 (eI .i64)) w.hits))]),aR 17 (fJ M w.traits),aR 1 (M.m Bool eB w.dropped),aR 1 (M.m Bool eB w.done),aR 1 (M.m (List Int) (eL M 1 (eI .i64)) w.hits),vR (oN M x6),aR 1 (mI M s8.2)]) U ?_ ?_
   intro Ik16 k16 hk16 U;cbv;refine CB hS ?_;cbv;refine kQ ?_ ?_
   intro U;cbv;refine rf ?_ ?_
   intro U;cbv;refine GX hS U (cI hM) ?_;intro y18 U;cbv;refine rf ?_ ?_
   exact pW
   intro U;cbv;refine kQ ?_ ?_
   intro U;cbv;refine kM hS U jJ rfl ?_;intro j19 _ U;cbv;refine jc hS hM U rfl jJ ?_;intro x20 U;cbv;refine GX hS U (cI hM) ?_;exact sK
   exact pW
   intro U;cbv;refine kQ ?_ ?_
   intro U;cbv;refine kM hS U jJ rfl ?_;intro j22 _ U;cbv;refine jc hS hM U rfl jJ ?_;intro x23 U;cbv;refine GX hS U (cI hM) ?_;exact sK
   exact pW
   exact pW
   intro s15 U;cbv;refine rf ?_ ?_
   intro U;cbv;refine nG hS U jJ ?_;exact pW
   exact pW
  intro s11 U;cbv;exact sN
 intro U;cbv;cases U;exact hR _ _ _ ah ah rfl
instance amZ {w}{i}{stage}:CZ M 338 (oQ w i stage) [.lv 0 0,sI i,sI stage] [(0,(vR (fV M w.s++[fK M w.forces,.os 1 0 (M.n eQ w.traits),.os 2 0 (M.n Bool w.dropped),.os 3 0 (M.n Bool w.done),.os 4 0 (M.n (List Int) w.hits)]))),(1,(aR 17 (fJ M w.traits))),(2,(aR 1 (M.m Bool eB w.dropped))),(3,(aR 1 (M.m Bool eB w.done))),(4,(aR 1 (M.m (List Int) (eL M 1 (eI .i64)) w.hits)))] 5 (λr=>.os 5 0 (M.n Int r)) (λr=>[(0,(vR (fV M w.s++[fK M w.forces,.os 1 0 (M.n eQ w.traits),.os 2 0 (M.n Bool w.dropped),.os 3 0 (M.n Bool w.done),.os 4 0 (M.n (List Int) w.hits)]))),(1,(aR 17 (fJ M w.traits))),(2,(aR 1 (M.m Bool eB w.dropped))),(3,(aR 1 (M.m Bool eB w.done))),(4,(aR 1 (M.m (List Int) (eL M 1 (eI .i64)) w.hits))),(5,(aR 1 (mI M r)))]) 6:=by
 have:=lo 4 [0,1,2,7,8,23,24,25] (λ_ (s:Int×(List Int))=>up [(8,.os 6 0 (M.n Int s.2)),(25,sI s.1)] [(6,(aR 1 (mI M s.2)))]);have:=ct 17 [0,1,2,7,8,23,24,25] (λ_ s=>up [(8,.os 6 0 (M.n Int s))] [(6,(aR 1 (mI M s)))]);have:=ct 12 [0,1,2,7,8,9,10,23,24,25,39] (λ_ s=>je [(39,.sb s)]);exact wC (gp 5 [12,17] [[(1,true)]]) Tryz.func338 Tryz.call338 []
end Go.Proofs.YtchmoabpofnbaaaGreat
namespace Go.Proofs.YtchmoabpofnbaaaGreat
open Go Go.Pv Proofs.Tryz
set_option maxRecDepth 100000
set_option maxHeartbeats 20000000
variable [GM]
attribute [local irreducible] bnd br jn oL loopF iq jS gu pO rG divO jF iO jA jm jE jY jU
variable {M:fP}[HM M]
instance o283 {cards}{s}{all}{pe}:CZ M 283 (zf cards s all pe) [kH M cards,.agg (fD M s),iE M all,.agg (jC M pe)] [] 0 (λr=>.os 0 0 (M.n eX r)) (λr=>[(0,(aR 3 (jq M r)))]) 1:=by
 have:=ct 15 [0,2,5,7,9] (λ_ (_:Unit)=>je []);have:=ct 10 [0,2,5,7,9,10,55] (λ_ s=>je [(55,.sb s)]);have:=lo 8 [0,2,5,7,9,63,64,65] (λ_ (s:Int×(List eX))=>up [(9,.os 2 0 (M.n eX s.2)),(65,sI s.1)] [(2,(aR 3 (jq M s.2)))]) [.tO 9 3];have:=lo 12 [0,2,5,7,9,14,16,63,64,65,79,80,81] (λ_ (s:fC×Int×(List eX))=>up [(9,.os 2 0 (M.n eX s.2.2)),(81,sI s.2.1)] [(2,(aR 3 (jq M s.2.2))),(3,(vR (ja M s.1)))]) [.tO 9 3];have:=ct 33 [0,2,5,7,9,14,16,63,64,65,79,80,81] (λ_ (s:fC×(List eX))=>up [(9,.os 2 0 (M.n eX s.2))] [(2,(aR 3 (jq M s.2))),(3,(vR (ja M s.1)))]) [.tO 9 3];have:=ct 28 [0,2,5,7,9,14,16,18,63,64,65,79,80,81,106] (λ_ s=>je [(106,.sb s)]);have:=ct 36 [0,2,5,7,9,123] (λ_ s=>je [(123,.sb s)]);exact wZ (gp 0 [10,15,28,33,36] [[(3,true)]]) func283 call283
instance c338 {w}{i}{stage}:CC M 338 (pF w i stage) [.pp (yO M w),sI i,sI stage] (λr=>.sl 1 (mI M r) false):=by
 have:=lo 4 [0,1,2,7,8,23,24,25] (λ_ (s:Int×(List Int))=>up [(8,.os 1 0 (M.n Int s.2)),(25,sI s.1)] [(1,(aR 1 (mI M s.2)))]);have:=ct 17 [0,1,2,7,8,23,24,25] (λ_ s=>up [(8,.os 1 0 (M.n Int s))] [(1,(aR 1 (mI M s)))]);have:=ct 12 [0,1,2,7,8,9,10,23,24,25,39] (λ_ s=>je [(39,.sb s)]);exact wA (fO [12,17]) func338 call338
instance c276 {t}{f}{stage}{lF}{nums}:CC M 276 (FX t f stage lF nums) [.agg (jh M t),.agg (vO M f),sI stage,sI lF,.sl 1 (mI M nums) false] (λr=>.agg (jh M r)):=by
 have:=lo 3 [2,3,4,5,6,10,11,12] (λ_ (s:eQ×Int×Int)=>up [(11,sI s.2.1),(12,sI s.2.2)] [(0,(vR (jh M s.1)))]);have:=ct 9 [2,3,4,5,6,10,11,12] (λ_ (s:eQ×Int)=>up [(11,sI s.2)] [(0,(vR (jh M s.1)))]);exact wA (fO [9]) func276 call276
instance c337 {w}{i}:CC M 337 (mV w i) [.pp (yO M w),sI i] (λr=>.sl 1 (mI M r) false):=by
 have:=lo 8 [0,5,6,7,42,43,44] (λ_ (s:Int×(List Int))=>up [(7,.os 1 0 (M.n Int s.2)),(44,sI s.1)] [(1,(aR 1 (mI M s.2)))]) [.tO 7 1];have:=ct 25 [0,5,6,7,42,43,44] (λ_ s=>up [(7,.os 1 0 (M.n Int s))] [(1,(aR 1 (mI M s)))]) [.tO 7 1];have:=ct 20 [0,5,6,7,8,42,43,44,83] (λ_ s=>je [(83,.sb s)]);exact wA (fO [20,25]) func337 call337
end Go.Proofs.YtchmoabpofnbaaaGreat
