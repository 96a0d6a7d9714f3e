import Derived.Test.YtchmoabpofnbaaaGreatC61
import Derived.Test.YtchmoabpofnbaaaGreatC62
set_option linter.all false
namespace Go.Proofs.YtchmoabpofnbaaaGreat
open Go Go.Pv
set_option maxRecDepth 100000
set_option maxHeartbeats 20000000
variable [GM]
attribute [local irreducible] bnd br jn qE gK jv lJ jl rD uo divO kT jL kN kP lI lS lM
variable {M:iG}[HM M]
instance aka {w}{i}:CZ M 337 (nN w i) [.lv 0 0,sI i] [(0,(vR (iI M w.s++[iy M w.forces,.os 1 0 (M.n gG w.iE),.os 2 0 (M.n Bool w.dropped),.os 3 0 (M.n Bool w.done),.os 4 0 (M.n (List Int) w.hits)]))),(1,(aR 17 (iD M w.iE))),(2,(aR 1 (M.m Bool eB w.dropped))),(3,(aR 1 (M.m Bool eB w.done))),(4,(aR 1 (M.m (List Int) (eL M 1 (eI .i64)) w.hits)))] 5 (λr=>.sl 1 (mI M r) false) (λ_=>[(0,(vR (iI M w.s++[iy M w.forces,.os 1 0 (M.n gG w.iE),.os 2 0 (M.n Bool w.dropped),.os 3 0 (M.n Bool w.done),.os 4 0 (M.n (List Int) w.hits)]))),(1,(aR 17 (iD M w.iE))),(2,(aR 1 (M.m Bool eB w.dropped))),(3,(aR 1 (M.m Bool eB w.done))),(4,(aR 1 (M.m (List Int) (eL M 1 (eI .i64)) w.hits)))]) 5:=by
 have hM:=HM.h (M:=M);refine⟨λr O=>?_⟩;refine yS (T:=(GY 5 [20,25] [[(0,true)]])) (iV 5 [20,25] [[(0,true)]]) wf Tryz.func337 rfl Tryz.call337 rfl [] ?_;intro S R hS hR;have q:=sf hM hS;unfold nN at O;cbv;refine mG hS O lC rfl ?_;intro j1 _ O;cbv;refine jW hS hM O rfl lC ?_;intro x2 O;cbv;refine vP ?_ ?_
 intro O;cbv;refine mG hS O lC rfl ?_;intro j3 _ O;cbv;refine jW hS hM O rfl lC ?_;intro x4 O;cbv;cases O;exact hR _ _ _ aj aj rfl
 intro O;cbv;refine jT hS O (cZ hM) ji ji rfl rfl rfl rfl ?_;intro y5 O;cbv;refine nZ ?_ ?_
 intro O;cbv;cases O;exact hR _ _ _ aj aj rfl
 intro O;cbv;refine EF hS ?_;cbv;refine d_I ?_;intro x6 O;cbv;refine acE hS O (cI hM) Lr (λ_=>rfl) ?_;intro y7 O;cbv;refine d_L (iV 5 [20,25] [[(0,true)]]) [.tO 7 1] [0,5,6,7,42,43,44] (λs8=>f4 90 [.lv 0 0,.lv 5 0,sI y7,.os 6 0 (S.gZ (mI M s8.2)),oM M w.s.objects,sI (S.len (kS M w.s.objects)),sI s8.1] [vR (iI M w.s++[iy M w.forces,.os 1 0 (S.gZ (iD M w.iE)),.os 2 0 (S.gZ (M.m Bool eB w.dropped)),.os 3 0 (S.gZ (M.m Bool eB w.done)),.os 4 0 (S.gZ (M.m (List Int) (eL M 1 (eI .i64)) w.hits))]),aR 17 (iD M w.iE),aR 1 (M.m Bool eB w.dropped),aR 1 (M.m Bool eB w.done),aR 1 (M.m (List Int) (eL M 1 (eI .i64)) w.hits),vR (pR M x6),aR 1 (mI M s8.2)]) O ?_;intro Ik9 k9 s8 hk9 O e he;subst he;unfold pV at O;cbv;refine nZ ?_ ?_
 ·intro O;cbv;refine DR [.tO 7 1] [0,5,6,7,42,43,44] (λs11=>f4 90 [.lv 0 0,.lv 5 0,sI y7,.os 6 0 (S.gZ (mI M s11)),oM M w.s.objects,sI (S.len (kS M w.s.objects)),sI s8.1] [vR (iI M w.s++[iy M w.forces,.os 1 0 (S.gZ (iD M w.iE)),.os 2 0 (S.gZ (M.m Bool eB w.dropped)),.os 3 0 (S.gZ (M.m Bool eB w.done)),.os 4 0 (S.gZ (M.m (List Int) (eL M 1 (eI .i64)) w.hits))]),aR 17 (iD M w.iE),aR 1 (M.m Bool eB w.dropped),aR 1 (M.m Bool eB w.done),aR 1 (M.m (List Int) (eL M 1 (eI .i64)) w.hits),vR (pR M x6),aR 1 (mI M s11)]) O ?_ ?_
  ·intro Ik12 k12 hk12 O;cbv;refine d_I ?_;intro x14 O;cbv;refine DR [] [0,5,6,7,8,42,43,44,83] (λs15=>f4 90 [.lv 0 0,.lv 5 0,sI y7,.os 6 0 (S.gZ (mI M s8.2)),sI s8.1,oM M w.s.objects,sI (S.len (kS M w.s.objects)),sI s8.1,.sb s15] [vR (iI M w.s++[iy M w.forces,.os 1 0 (S.gZ (iD M w.iE)),.os 2 0 (S.gZ (M.m Bool eB w.dropped)),.os 3 0 (S.gZ (M.m Bool eB w.done)),.os 4 0 (S.gZ (M.m (List Int) (eL M 1 (eI .i64)) w.hits))]),aR 17 (iD M w.iE),aR 1 (M.m Bool eB w.dropped),aR 1 (M.m Bool eB w.done),aR 1 (M.m (List Int) (eL M 1 (eI .i64)) w.hits),vR (pR M x6),aR 1 (mI M s8.2)]) O ?_ ?_
   intro Ik16 k16 hk16 O;cbv;refine EF hS ?_;cbv;refine nZ ?_ ?_
   intro O;cbv;refine vP ?_ ?_
   intro O;cbv;refine Je hS O (cI hM) ?_;intro y18 O;cbv;refine vP ?_ ?_
   exact vF
   intro O;cbv;refine nZ ?_ ?_
   intro O;cbv;refine mG hS O lC rfl ?_;intro j19 _ O;cbv;refine jW hS hM O rfl lC ?_;intro x20 O;cbv;refine Je hS O (cI hM) ?_;exact xZ
   exact vF
   intro O;cbv;refine nZ ?_ ?_
   intro O;cbv;refine mG hS O lC rfl ?_;intro j22 _ O;cbv;refine jW hS hM O rfl lC ?_;intro x23 O;cbv;refine Je hS O (cI hM) ?_;exact xZ
   exact vF
   exact vF
   intro s15 O;cbv;refine vP ?_ ?_
   intro O;cbv;refine tH hS O lC ?_;exact vF
   exact vF
  intro s11 O;cbv;exact vw
 intro O;cbv;cases O;exact hR _ _ _ aj aj rfl
end Go.Proofs.YtchmoabpofnbaaaGreat
namespace Go.Proofs.YtchmoabpofnbaaaGreat
open Go Go.Pv Proofs.Tryz
set_option maxRecDepth 100000
set_option maxHeartbeats 20000000
variable [GM]
attribute [local irreducible] bnd br jn qE gK jv lJ jl rD uo divO kT jL kN kP lI lS lM
variable {M:iG}[HM M]
instance c338 {w}{i}{stage}:CC M 338 (uD w i stage) [.pp (yV M w),sI i,sI stage] (λr=>.sl 1 (mI M r) false):=by
 have:=lo 4 [0,1,2,7,8,23,24,25] (λ_ (s:Int×(List Int))=>up [(8,.os 1 0 (M.n Int s.2)),(25,sI s.1)] [(1,(aR 1 (mI M s.2)))]);have:=ct 17 [0,1,2,7,8,23,24,25] (λ_ s=>up [(8,.os 1 0 (M.n Int s))] [(1,(aR 1 (mI M s)))]);have:=ct 12 [0,1,2,7,8,9,10,23,24,25,39] (λ_ s=>jO [(39,.sb s)]);exact wA (iO [12,17]) func338 call338
instance c337 {w}{i}:CC M 337 (tZ w i) [.pp (yV M w),sI i] (λr=>.sl 1 (mI M r) false):=by
 have:=lo 8 [0,5,6,7,42,43,44] (λ_ (s:Int×(List Int))=>up [(7,.os 1 0 (M.n Int s.2)),(44,sI s.1)] [(1,(aR 1 (mI M s.2)))]) [.tO 7 1];have:=ct 25 [0,5,6,7,42,43,44] (λ_ s=>up [(7,.os 1 0 (M.n Int s))] [(1,(aR 1 (mI M s)))]) [.tO 7 1];have:=ct 20 [0,5,6,7,8,42,43,44,83] (λ_ s=>jO [(83,.sb s)]);exact wA (iO [20,25]) func337 call337
instance c247 {left}{stamps}{needs}:CC M 247 (Ig left stamps needs) [.sl 1 (mI M left) false,.sl 1 (mI M stamps) false,.sl 1 (M.m (List Bool) (eL M 1 eB) needs) false] (λr=>sI r):=by
 have:=lo 3 [1,7,14,15,16] (λ_ (s:Int×Int)=>jO [(7,sI s.1),(16,sI s.2)]);have:=ct 21 [1,7,14,15,16] (λ_ s=>jO [(7,sI s)]);have:=ct 16 [1,7,9,14,15,16,41] (λ_ s=>jO [(41,.sb s)]);exact wA (iO [16,21]) func247 call247
instance c167 {l}:CC M 167 (yj l) [MC M l] (λr=>.str r):=by
 have:=ct 2 [0,12] (λ_ s=>jO [(12,.sb s)]);have:=lo 5 [0,3,4] (λ_ (s:ByteArray×Int)=>jO [(3,.str s.1),(4,sI s.2)]);have:=ct 13 [0,3,4] (λ_ s=>jO [(3,.str s)]);have:=ct 23 [0,3,4] (λ_ s=>jO [(3,.str s)]);exact wA (iO [2,13,23]) func167 call167
instance c443 {kind}{id}{s}{all}{c4}{c5}:CC M 443 (ny kind id s all c4 c5) [sI kind,sI id,.agg (iI M s),lq M all,.pp (oI M c4),.pp (jX M c5)] (λr=>.sl 1 (mI M r) false):=by
 exact wA ig func443 call443
instance c238 {pr}:CC M 238 (Yw pr) [.agg (rY M pr)] (λr=>.sb r):=by
 have:=ct 12 [1,3,4] (λ_ (s:Bool×Bool)=>jO [(3,.sb s.1),(4,.sb s.2)]);have:=ct 18 [1,3,51] (λ_ s=>jO [(51,.sb s)]);exact wA (iO [12,18]) func238 call238
instance c19 {a}{b}:CC M 19 (P9 a b) [.agg (iF M a),.agg (iF M b)] (λr=>.sb r):=by
 have:=ct 2 [2,3,79] (λ_ s=>jO [(79,.sb s)]);exact wA (iO [2]) func19 call19
end Go.Proofs.YtchmoabpofnbaaaGreat
