import Derived.Test.YtchmoabpofnbaaaGreatC55
import Derived.Test.YtchmoabpofnbaaaGreatC56
import Derived.Test.YtchmoabpofnbaaaGreatC57
set_option linter.all false
namespace Go.Proofs.YtchmoabpofnbaaaGreat
open Go Go.Pv
set_option maxRecDepth 100000
set_option maxHeartbeats 20000000
variable [GM]
attribute [local irreducible] bnd br jn qE gK jv lJ jl rD uo divO kT jL kN kP lI lS lM
variable {M:iG}[HM M]
instance z94_3 {k}{c}:CZ M 94 (wY k c) [.lv 0 0,.agg (lN M c)] [(0,(vR ([.os 1 0 (M.n (List Int) k.answers),sI k.used]++(lN M k.pending++[.sb k.waits,.sb k.bad])))),(1,(aR 1 (M.m (List Int) (eL M 1 (eI .i64)) k.answers)))] 2 (λr=>.os 2 0 (M.n Int r.1)) (λr=>[(0,(vR ([.os 1 0 (M.n (List Int) r.2.answers),sI r.2.used]++(lN M r.2.pending++[.sb r.2.waits,.sb r.2.bad])))),(1,(aR 1 (M.m (List Int) (eL M 1 (eI .i64)) r.2.answers))),(2,(aR 1 (mI M r.1)))]) 3:=by
 have hM:=HM.h (M:=M);refine⟨λr O=>?_⟩;refine yS (T:=(GY 2 [2] [[(1,true)]])) (iV 2 [2] [[(1,true)]]) wf Tryz.func94 rfl Tryz.call94 rfl [.cF 0 8] ?_;intro S R hS hR;have q:=sf hM hS;unfold wY at O;cbv;refine DR [] [0,3,23] (λs1=>f4 77 [.lv 0 0,.lv 2 0,.sb s1] [vR ([.os 1 0 (S.gZ (M.m (List Int) (eL M 1 (eI .i64)) k.answers)),sI k.used]++(lN M k.pending++[.sb k.waits,.sb k.bad])),aR 1 (M.m (List Int) (eL M 1 (eI .i64)) k.answers),vR (lN M c)]) O ?_ ?_
 intro Ik2 k2 hk2 O;cbv;refine vP ?_ ?_
 exact vF
 intro O;cbv;refine vP ?_ ?_
 exact vF
 intro O;cbv;refine zn hS O (cI hM) ?_;exact xZ
 intro s1 O;cbv;refine vP ?_ ?_
 intro O;cbv;refine jM hS O (cZ hM) (le_eq rfl) ?_;intro y5 O;cbv;cases O;exact hR _ _ _ ji ji rfl
 intro O;cbv;refine EF hS ?_;cbv;refine nZ ?_ ?_
 intro O;cbv;refine jM hS O (cZ hM) (le_eq rfl) ?_;intro y6 O;cbv;refine ZY hS rfl ?_;cbv;refine jM hS O (cZ hM) Lr ?_;intro y7 O;cbv;cases O;exact hR _ _ _ ji ji rfl
 intro O;cbv;refine EF hS ?_;cbv;refine mG hS O lC rfl ?_;intro j8 _ O;cbv;refine jW hS hM O rfl lC ?_;intro x9 O;cbv;refine zn hS O (cI hM) ?_;intro y10 O;cbv;refine nZ ?_ ?_
 intro O;cbv;refine jM hS O (cZ hM) (le_eq rfl) ?_;intro y11 O;cbv;cases O;exact hR _ _ _ ji ji rfl
 intro O;cbv;refine jM hS O (cZ hM) (le_eq rfl) ?_;intro y12 O;cbv;cases O;exact hR _ _ _ ji ji rfl
instance c98 {cards}{s}:CC M 98 (RJ cards s) [oh M cards,.agg (iF M s)] (λr=>.agg (qC M r)):=by
 have hM:=HM.h (M:=M);refine⟨λr O=>?_⟩;refine ES ig Tryz.func98 Tryz.call98 ?_;intro S R hS hR q;unfold RJ at O;cbv;refine EF hS ?_;cbv;refine Je hS O (cI hM) ?_;intro y1 O;cbv;refine TF hS ig wf [.cO 2 19 17] [0,3,4,5,6] (λs2=>f3 47 [(0,oh M cards),(3,.lv 0 0),(4,.lv 1 0),(5,.lv 2 0),(6,sI s2.1)] [vR (iF M s),vR [.sl 0 [] true,.sl 0 [] true,.sl 0 [] true,.sl 0 [] true,.sl 0 [] true,.sl 0 [] true,.sl 0 [] true,sI 0,sI 0,sI 0,.sb false,sI 0,sI 0,sI 0,sI 0,.si .u64 0,.sl 0 [] true,sI 0,sI 0,.sl 0 [] true,.sl 0 [] true,.sl 0 [] true,.sl 0 [] true,.sl 0 [] true],vR (iF M s++[.os 3 0 (S.gZ (iD M s2.2)),yA M y1,.sl 0 [] true,.sl 0 [] true,.sl 0 [] true]),aR 17 (iD M s2.2)]) O ?_;intro Ik3 k3 s2 hk3 O e he;subst he;unfold QH at O;cbv;refine nZ ?_ ?_
 intro O;cbv;refine EF hS ?_;cbv;refine d_I ?_;intro x5 O;cbv;refine Je hS O (cI hM) ?_;intro y6 O;cbv;refine tH hS O lC ?_;exact vF
 intro O;cbv;refine Lm hS O lC lC ?_;intro j7 O;cbv;refine KN hS (e:=eB) O aj ?_;intro x8 O;cbv;refine Lm hS O lC lC ?_;intro j9 O;cbv;refine KN hS (e:=(eL M 1 (eI .i64))) O (by(try simp only[eL,q]);repeat' constructor) ?_;intro x10 O;cbv;refine Lm hS O lC lC ?_;intro j11 O;cbv;refine KN hS (e:=eB) O aj ?_;intro x12 O;cbv;cases O;exact hR _ (d_l (by (try simp only[qC,kU,eL,eS,q]);try first|rfl|simp[Ap,eI,eB,eL,eS,q]))
instance aj6 {w}{i}:CZ M 408 (qx w i) [.lv 0 0,sI i] [(0,(vR (iI M w.s++[iy M w.forces,.os 1 0 (M.n gG w.iE),.os 2 0 (M.n Bool w.dropped),.os 3 0 (M.n Bool w.done),.os 4 0 (M.n (List Int) w.hits)]))),(1,(aR 17 (iD M w.iE))),(2,(aR 1 (M.m Bool eB w.dropped))),(3,(aR 1 (M.m Bool eB w.done))),(4,(aR 1 (M.m (List Int) (eL M 1 (eI .i64)) w.hits)))] 5 (λr=>.sb r) (λ_=>[(0,(vR (iI M w.s++[iy M w.forces,.os 1 0 (M.n gG w.iE),.os 2 0 (M.n Bool w.dropped),.os 3 0 (M.n Bool w.done),.os 4 0 (M.n (List Int) w.hits)]))),(1,(aR 17 (iD M w.iE))),(2,(aR 1 (M.m Bool eB w.dropped))),(3,(aR 1 (M.m Bool eB w.done))),(4,(aR 1 (M.m (List Int) (eL M 1 (eI .i64)) w.hits)))]) 5:=by
 have:=ct 4 [0,5,24] (λ_ s=>jO [(24,.sb s)]);exact wC (iV 5 [4] []) Tryz.func408 Tryz.call408 []
end Go.Proofs.YtchmoabpofnbaaaGreat
namespace Go.Proofs.YtchmoabpofnbaaaGreat
open Go Go.Pv Proofs.Tryz
set_option maxRecDepth 100000
set_option maxHeartbeats 20000000
variable [GM]
attribute [local irreducible] bnd br jn qE gK jv lJ jl rD uo divO kT jL kN kP lI lS lM
variable {M:iG}[HM M]
instance c37 {s}{all}{l}:CC M 37 (vZ s all l) [.agg (iF M s),lq M all,pF M l] (λr=>sI r):=by
 have:=lo 3 [1,2,3,7,16,17,18] (λ_ s=>jO [(18,sI s)]);have:=ct 12 [1,2,3,7,16,17,18,34] (λ_ s=>jO [(34,.sb s)]);have:=lo 10 [2,38,39,40] (λ_ s=>jO [(40,sI s)]);exact wA (iO [12]) func37 call37
instance c96 {s}{all}:CC M 96 (zg s all) [.agg (iF M s),lq M all] (λr=>pF M r):=by
 have:=lo 4 [5,6,15,16,17] (λ_ (s:Int×(List gX))=>up [(5,.os 0 0 (M.n gX s.2)),(17,sI s.1)] [(0,(aR 3 (ry M s.2)))]) [.tO 5 3];exact wA ig func96 call96
instance c373 {s}{all}{w}{id}:CC M 373 (Gw s all w id) [.agg (iI M s),lq M all,.agg (jX M w),sI id] (λr=>.sb r):=by
 have:=lo 2 [1,3,6,12,13,14] (λ_ s=>jO [(14,sI s)]);exact wA ig func373 call373
instance c340 {t}{m}{you}{count}:CC M 340 (ND t m you count) [.agg (kU M t),.agg (yT M m),sI you,sI count] (λr=>.agg (kU M r)):=by
 exact wA (iO [1028]) func340 call340
instance c408 {w}{i}:CC M 408 (sS w i) [.pp (yV M w),sI i] (λr=>.sb r):=by
 have:=ct 4 [0,5,24] (λ_ s=>jO [(24,.sb s)]);exact wA (iO [4]) func408 call408
instance c339 {w}{i}:CC M 339 (rC w i) [.pp (yV M w),sI i] (λr=>sI r):=by
 have:=ct 6 [0,5,6,27] (λ_ s=>jO [(27,.sb s)]);exact wA (iO [6]) func339 call339
instance c115 {cards}{s}{pe}:CC M 115 (Gl cards s pe) [oh M cards,.agg (iF M s),.agg (jZ M pe)] (λr=>.sb r):=by
 exact wA ig func115 call115
instance c239 {l}:CC M 239 (Nv l) [Tu M l] (λr=>.sb r):=by
 have:=lo 2 [0,3] (λ_ s=>jO [(3,sI s)]);exact wA ig func239 call239
instance c313 {pr}:CC M 313 (Ns pr) [.agg (rY M pr)] (λr=>.sb r):=by
 have:=ct 2 [1,11] (λ_ s=>jO [(11,.sb s)]);exact wA (iO [2]) func313 call313
instance c242 {m}:CC M 242 (Qm m) [.agg (yT M m)] (λr=>.str r):=by
 exact wA ig func242 call242
end Go.Proofs.YtchmoabpofnbaaaGreat
