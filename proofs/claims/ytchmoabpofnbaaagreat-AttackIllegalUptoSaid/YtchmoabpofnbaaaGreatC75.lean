import Derived.Test.YtchmoabpofnbaaaGreatC69
import Derived.Test.YtchmoabpofnbaaaGreatC70
set_option linter.all false
namespace Go.Proofs.YtchmoabpofnbaaaGreat
open Go Go.Pv
set_option maxRecDepth 100000
set_option maxHeartbeats 20000000
variable [GM]
attribute [local irreducible] bnd br jn qE gK jv lJ jl rD uo divO kT jL kN kP lI lS lM
variable {M:iG}[HM M]
instance akd {w}{i}{stage}:CZ M 333 (rJ w i stage) [.lv 0 0,sI i,sI stage] [(0,(vR (iI M w.s++[iy M w.forces,.os 1 0 (M.n gG w.iE),.os 2 0 (M.n Bool w.dropped),.os 3 0 (M.n Bool w.done),.os 4 0 (M.n (List Int) w.hits)]))),(1,(aR 17 (iD M w.iE))),(2,(aR 1 (M.m Bool eB w.dropped))),(3,(aR 1 (M.m Bool eB w.done))),(4,(aR 1 (M.m (List Int) (eL M 1 (eI .i64)) w.hits)))] 5 (λr=>.agg [.sb r.mJ,.sl 1 (mI M r.hits) false,.os 5 0 (M.n Int r.numbers)]) (λr=>[(0,(vR (iI M w.s++[iy M w.forces,.os 1 0 (M.n gG w.iE),.os 2 0 (M.n Bool w.dropped),.os 3 0 (M.n Bool w.done),.os 4 0 (M.n (List Int) w.hits)]))),(1,(aR 17 (iD M w.iE))),(2,(aR 1 (M.m Bool eB w.dropped))),(3,(aR 1 (M.m Bool eB w.done))),(4,(aR 1 (M.m (List Int) (eL M 1 (eI .i64)) w.hits))),(5,(aR 1 (mI M r.numbers)))]) 6:=by
 have hM:=HM.h (M:=M);refine⟨λr O=>?_⟩;refine yS (T:=(GY 5 [] [[(0,false),(0,false),(1,true)]])) (iV 5 [] [[(0,false),(0,false),(1,true)]]) wf Tryz.func333 rfl Tryz.call333 rfl [] ?_;intro S R hS hR;have q:=sf hM hS;unfold rJ at O;cbv;refine jT hS O (cZ hM) ji ji rfl rfl rfl rfl ?_;intro y1 O;cbv;refine jT hS O (cZ hM) ji ji rfl rfl rfl rfl ?_;intro y2 O;cbv;refine jT hS O (cZ hM) ji ji rfl rfl rfl rfl ?_;intro y3 O;cbv;cases O;exact hR _ _ _ ji ji rfl
end Go.Proofs.YtchmoabpofnbaaaGreat
namespace Go.Proofs.YtchmoabpofnbaaaGreat
open Go Go.Pv Proofs.Tryz
set_option maxRecDepth 100000
set_option maxHeartbeats 20000000
variable [GM]
attribute [local irreducible] bnd br jn qE gK jv lJ jl rD uo divO kT jL kN kP lI lS lM
variable {M:iG}[HM M]
instance c198 {cards}{s}{all}{pe}{used}:CC M 198 (Fe cards s all pe used) [oh M cards,.agg (iF M s),lq M all,.agg (jZ M pe),pF M used] (λr=>pF M r):=by
 have hM:=HM.h (M:=M);refine⟨λr O=>?_⟩;refine ES ig func198 call198 ?_;intro S R hS hR q;unfold Fe at O;cbv;refine jM hS O (cZ hM) (le_eq rfl) ?_;intro y1 O;cbv;refine ag4 hS [(3,false),(0,true)] rfl ?_;cbv;refine jT hS O (cZ hM) aj aj rfl rfl rfl rfl ?_;exact Z4
instance c374 {c}{w}:CC M 374 (BC c w) [.agg (oI M c),.agg (jX M w)] (λr=>.sl 1 (mI M r) false):=by
 have:=ct 8 [2,3,22] (λ_ s=>jO [(22,.sb s)]);have:=ct 22 [2,5,52] (λ_ s=>jO [(52,.sb s)]);exact wA (iO [8,22]) func374 call374
instance c333 {w}{i}{stage}:CC M 333 (yu w i stage) [.pp (yV M w),sI i,sI stage] (λr=>.agg (oD M r)):=by
 exact wA ig func333 call333
instance c382 {l}:CC M 382 (Qr l) [MC M l] (λr=>.sb r):=by
 exact wA ig func382 call382
end Go.Proofs.YtchmoabpofnbaaaGreat
