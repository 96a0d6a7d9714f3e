import Derived.Test.YtchmoabpofnbaaaGreatC12
import Derived.Test.YtchmoabpofnbaaaGreatC61
import Derived.Test.YtchmoabpofnbaaaGreatC62
import Derived.Test.YtchmoabpofnbaaaGreatC17
set_option linter.all false
namespace Go.Proofs.YtchmoabpofnbaaaGreat
open Go Go.Pv
set_option maxRecDepth 100000
set_option maxHeartbeats 20000000
variable [GM]
attribute [local irreducible] bnd br jn qE gK jv lJ jl rD uo divO kT jL kN kP lI lS lM
variable {M:iG}[HM M]
theorem lenMk {ol : List iw} {oj : Nat} {d : Bool} {pe : kz} : OkP (fun r => r.length = ol.length) (D6 ol oj d pe) := by
 unfold D6
 repeat' (first | refine rU ?_ ?_ | exact afu | refine pX fun _ _ => ?_)
 all_goals exact zh (by simp)
theorem dcwe {P : Program} {T : Tab} {S : iW} {α ρ : Type} {r : ρ} (hS : S = iW.jI P T) {k : Nat} {args cargs : List PV} {ρ' : List Nat} {st0 cst : St} {m : Nat} {K : PV → St → Nat → Prop} {g : Option α} {v : α → PV} {st1 : α → St} {n1 : Nat} {kk : α → Option ρ} (O : bnd g kk = some r) (hF : ∀ y, g = some y → FnS P T.gl k cargs cst m (fun u st n => u = v y ∧ st = st1 y ∧ n = n1)) (ha : Hg args cargs) (hs : LeS st0 cst) (hm : m = lH ρ') (h0 : lY st0 = true)
   (h : ∀ y, g = some y → kk y = some r → K (v y) (st1 y) n1) : S.Zi k args st0 ρ' K := by
 obtain ⟨x, hx, hk⟩ := wV O; clear O
 subst hS
 subst hm
 exact ⟨_, _, _, h0, (hF x hx).le ha hs, h x hx hk⟩
instance o211 {cards}{s}{all}{pe}:CZ M 211 (RI cards s all pe) [oh M cards,.agg (iF M s),lq M all,.agg (jZ M pe)] [] 0 (λr=>.agg [.os 0 0 (M.n jP r.iJ),.os 1 0 (M.n iw r.objects),.os 2 0 (M.n Int r.jd),.os 3 0 (M.n Int r.qK),.os 4 0 (M.n og r.stack),.os 5 0 (M.n iL r.waiting),.os 6 0 (M.n pM r.kW),sI r.turn,sI r.mJ,sI r.step,.sb r.begun,sI r.priority,sI r.passes,sI r.nextId,sI r.kD,.si .u64 r.seed,.os 7 0 (M.n Int r.extra),sI r.over,sI r.ql]) (λr=>[(0,(aR 14 (mi M r.iJ))),(1,(aR 19 (kS M r.objects))),(2,(aR 1 (mI M r.jd))),(3,(aR 1 (mI M r.qK))),(4,(aR 94 (uA M r.stack))),(5,(aR 89 (jB M r.waiting))),(6,(aR 6 (Ad M r.kW))),(7,(aR 1 (mI M r.extra)))]) 8:=by
 have hM:=HM.h (M:=M);refine⟨λr O=>?_⟩;refine AQ (T:=(GY 0 [53] [[(14,true),(19,true),(1,true),(1,true),(94,true),(89,true),(6,true),(0,false),(0,false),(0,false),(0,false),(0,false),(0,false),(0,false),(0,false),(0,false),(1,true),(0,false),(0,false)]])) (iV 0 [53] [[(14,true),(19,true),(1,true),(1,true),(94,true),(89,true),(6,true),(0,false),(0,false),(0,false),(0,false),(0,false),(0,false),(0,false),(0,false),(0,false),(1,true),(0,false),(0,false)]]) wf Tryz.func211 rfl Tryz.call211 rfl ?_;intro S R hS hR;have q:=sf hM hS;unfold RI at O;cbv;refine jM hS O (cZ hM) (le_eq rfl) ?_;intro y1 O;cbv;refine zn hS O (cI hM) ?_;intro y2 O;cbv;refine nZ ?_ ?_
 exact fO
 intro O;cbv;refine nZ ?_ ?_
 exact fM
 intro O;cbv;refine nZ ?_ ?_
 exact fM
 intro O;cbv;refine nZ ?_ ?_
 exact fM
 intro O;cbv;refine nZ ?_ ?_
 exact fM
 intro O;cbv;refine nZ ?_ ?_
 exact fM
 intro O;cbv;refine nZ ?_ ?_
 exact fM
 intro O;cbv;refine nZ ?_ ?_
 exact fM
 intro O;cbv;refine nZ ?_ ?_
 exact fM
 intro O;cbv;refine nZ ?_ ?_
 intro O;cbv;refine DR [] [7,8,9] (λs3=>f4 85 [.lv 0 0,.lv 1 0,.lv 2 0] [vR (jZ M pe),vR [.sl 0 [] true,.sl 0 [] true,.sl 0 [] true,.sl 0 [] true,.sl 0 [] true,.sl 0 [] true,.sl 0 [] true,sI 0,sI 0,sI 0,.sb false,sI 0,sI 0,sI 0,sI 0,.si .u64 0,.sl 0 [] true,sI 0,sI 0],vR [.os 3 0 (S.gZ (mi M y1.iJ)),.os 4 0 (S.gZ (kS M s3)),.os 5 0 (S.gZ (mI M y1.jd)),.os 6 0 (S.gZ (mI M y1.qK)),.os 7 0 (S.gZ (uA M y1.stack)),.os 8 0 (S.gZ (jB M y1.waiting)),.os 9 0 (S.gZ (Ad M y1.kW)),sI y1.turn,sI y1.mJ,sI y1.step,.sb y1.begun,sI y1.priority,sI y1.passes,sI y1.nextId,sI y1.kD,.si .u64 y1.seed,.os 10 0 (S.gZ (mI M y1.extra)),sI y1.over,sI y1.ql],aR 14 (mi M y1.iJ),aR 19 (kS M s3),aR 1 (mI M y1.jd),aR 1 (mI M y1.qK),aR 94 (uA M y1.stack),aR 89 (jB M y1.waiting),aR 6 (Ad M y1.kW),aR 1 (mI M y1.extra)]) O ?_ ?_
 intro Ik4 k4 hk4 O;cbv;refine jT hS O (cZ hM) ji ji rfl rfl rfl rfl ?_;intro y6 O;rcases y6 with _|j7
 cbv;exact vw
 cbv;refine EF hS ?_;cbv;refine Je hS O (cI hM) ?_;intro y8 O;cbv;refine dcwe hS O (cZ hM) ji ji rfl rfl ?_;intro y9 he O;have q:=And.intro q (pY lenMk he).symm;cbv;exact vw
 intro s3 O;cbv;refine jT hS O (cZ hM) ji ji rfl rfl rfl rfl ?_;intro y10 O;rcases y10 with _|j11
 cbv;refine nZ ?_ ?_
 exact fO
 intro O;cbv;cases O;exact hR _ _ _ ji ji rfl
 cbv;refine nZ ?_ ?_
 intro O;cbv;refine KN hS (e:=eB) O aj ?_;intro x12 O;cbv;refine jW hS hM O rfl rfl ?_;intro x13 O;cbv;cases O;exact hR _ _ _ ji ji rfl
 intro O;cbv;cases O;exact hR _ _ _ ji ji rfl
 intro O;cbv;refine nZ ?_ ?_
 exact fM
 intro O;cbv;refine nZ ?_ ?_
 exact fM
 intro O;cbv;refine nZ ?_ ?_
 exact fM
 intro O;cbv;refine nZ ?_ ?_
 intro O;cbv;refine DR [] [7,8,9] (λs14=>f4 85 [.lv 0 0,.lv 1 0,.lv 2 0] [vR (jZ M pe),vR [.sl 0 [] true,.sl 0 [] true,.sl 0 [] true,.sl 0 [] true,.sl 0 [] true,.sl 0 [] true,.sl 0 [] true,sI 0,sI 0,sI 0,.sb false,sI 0,sI 0,sI 0,sI 0,.si .u64 0,.sl 0 [] true,sI 0,sI 0],vR [.os 3 0 (S.gZ (mi M y1.iJ)),.os 4 0 (S.gZ (kS M s14)),.os 5 0 (S.gZ (mI M y1.jd)),.os 6 0 (S.gZ (mI M y1.qK)),.os 7 0 (S.gZ (uA M y1.stack)),.os 8 0 (S.gZ (jB M y1.waiting)),.os 9 0 (S.gZ (Ad M y1.kW)),sI y1.turn,sI y1.mJ,sI y1.step,.sb y1.begun,sI y1.priority,sI y1.passes,sI y1.nextId,sI y1.kD,.si .u64 y1.seed,.os 10 0 (S.gZ (mI M y1.extra)),sI y1.over,sI y1.ql],aR 14 (mi M y1.iJ),aR 19 (kS M s14),aR 1 (mI M y1.jd),aR 1 (mI M y1.qK),aR 94 (uA M y1.stack),aR 89 (jB M y1.waiting),aR 6 (Ad M y1.kW),aR 1 (mI M y1.extra)]) O ?_ ?_
 intro Ik15 k15 hk15 O;cbv;refine jT hS O (cZ hM) ji ji rfl rfl rfl rfl ?_;intro y17 O;rcases y17 with _|j18
 cbv;exact vw
 cbv;refine EF hS ?_;cbv;refine Je hS O (cI hM) ?_;intro y19 O;cbv;refine dcwe hS O (cZ hM) ji ji rfl rfl ?_;intro y9 he O;have q:=And.intro q (pY lenMk he).symm;cbv;exact vw
 intro s14 O;cbv;refine jT hS O (cZ hM) ji ji rfl rfl rfl rfl ?_;intro y21 O;rcases y21 with _|j22
 cbv;refine nZ ?_ ?_
 exact fO
 intro O;cbv;cases O;exact hR _ _ _ ji ji rfl
 cbv;refine nZ ?_ ?_
 intro O;cbv;refine KN hS (e:=eB) O aj ?_;intro x23 O;cbv;refine jW hS hM O rfl rfl ?_;intro x24 O;cbv;cases O;exact hR _ _ _ ji ji rfl
 intro O;cbv;cases O;exact hR _ _ _ ji ji rfl
 intro O;cbv;refine nZ ?_ ?_
 exact fM
 intro O;cbv;cases O;exact hR _ _ _ ji ji rfl
instance akb {w}{i}{stage}:CZ M 338 (pW w i stage) [.lv 0 0,sI i,sI stage] [(0,(vR (iI M w.s++[iy M w.forces,.os 1 0 (M.n gG w.iE),.os 2 0 (M.n Bool w.dropped),.os 3 0 (M.n Bool w.done),.os 4 0 (M.n (List Int) w.hits)]))),(1,(aR 17 (iD M w.iE))),(2,(aR 1 (M.m Bool eB w.dropped))),(3,(aR 1 (M.m Bool eB w.done))),(4,(aR 1 (M.m (List Int) (eL M 1 (eI .i64)) w.hits)))] 5 (λr=>.os 5 0 (M.n Int r)) (λr=>[(0,(vR (iI M w.s++[iy M w.forces,.os 1 0 (M.n gG w.iE),.os 2 0 (M.n Bool w.dropped),.os 3 0 (M.n Bool w.done),.os 4 0 (M.n (List Int) w.hits)]))),(1,(aR 17 (iD M w.iE))),(2,(aR 1 (M.m Bool eB w.dropped))),(3,(aR 1 (M.m Bool eB w.done))),(4,(aR 1 (M.m (List Int) (eL M 1 (eI .i64)) w.hits))),(5,(aR 1 (mI M r)))]) 6:=by
 have:=lo 4 [0,1,2,7,8,23,24,25] (λ_ (s:Int×(List Int))=>up [(8,.os 6 0 (M.n Int s.2)),(25,sI s.1)] [(6,(aR 1 (mI M s.2)))]);have:=ct 17 [0,1,2,7,8,23,24,25] (λ_ s=>up [(8,.os 6 0 (M.n Int s))] [(6,(aR 1 (mI M s)))]);have:=ct 12 [0,1,2,7,8,9,10,23,24,25,39] (λ_ s=>jO [(39,.sb s)]);exact wC (iV 5 [12,17] [[(1,true)]]) Tryz.func338 Tryz.call338 []
end Go.Proofs.YtchmoabpofnbaaaGreat
namespace Go.Proofs.YtchmoabpofnbaaaGreat
open Go Go.Pv Proofs.Tryz
set_option maxRecDepth 100000
set_option maxHeartbeats 20000000
variable [GM]
attribute [local irreducible] bnd br jn qE gK jv lJ jl rD uo divO kT jL kN kP lI lS lM
variable {M:iG}[HM M]
instance c34 {cards}{s}:CC M 34 (YD cards s) [oh M cards,.agg (iF M s)] (λr=>lq M r):=by
 have hM:=HM.h (M:=M);refine⟨λr O=>?_⟩;refine ES (iO [6]) func34 call34 ?_;intro S R hS hR q;unfold YD at O;cbv;refine zn hS O (cI hM) ?_;intro y1 O;cbv;refine MX hS (iO [6]) wf 10 ?_;intro g2 hg2;refine hg2 _ _ ?_;cbv;refine oU hS ?_;cbv;refine zn hS O (cI hM) ?_;intro y3 O;cbv;refine hg2 _ _ ?_;cbv;refine oU hS ?_;cbv;refine zn hS O (cI hM) ?_;intro y4 O;cbv;refine hg2 _ _ ?_;cbv;refine oU hS ?_;cbv;refine zn hS O (cI hM) ?_;intro y5 O;cbv;refine hg2 _ _ ?_;cbv;refine oU hS ?_;cbv;refine zn hS O (cI hM) ?_;intro y6 O;cbv;refine hg2 _ _ ?_;cbv;refine oU hS ?_;cbv;refine zn hS O (cI hM) ?_;intro y7 O;cbv;refine hg2 _ _ ?_;cbv;refine oU hS ?_;cbv;refine zn hS O (cI hM) ?_;intro y8 O;cbv;refine hg2 _ _ ?_;cbv;refine oU hS ?_;cbv;refine zn hS O (cI hM) ?_;intro y9 O;cbv;refine hg2 _ _ ?_;cbv;refine oU hS ?_;cbv;refine zn hS O (cI hM) ?_;intro y10 O;cbv;refine hg2 _ _ ?_;cbv;refine oU hS ?_;cbv;exact ahN
instance o283 {cards}{s}{all}{pe}:CZ M 283 (zy cards s all pe) [oh M cards,.agg (iF M s),lq M all,.agg (jZ M pe)] [] 0 (λr=>.os 0 0 (M.n gX r)) (λr=>[(0,(aR 3 (ry M r)))]) 1:=by
 have:=ct 15 [0,2,5,7,9] (λ_ (_:Unit)=>jO []);have:=ct 10 [0,2,5,7,9,10,55] (λ_ s=>jO [(55,.sb s)]);have:=lo 8 [0,2,5,7,9,63,64,65] (λ_ (s:Int×(List gX))=>up [(9,.os 2 0 (M.n gX s.2)),(65,sI s.1)] [(2,(aR 3 (ry M s.2)))]) [.tO 9 3];have:=lo 12 [0,2,5,7,9,14,16,63,64,65,79,80,81] (λ_ (s:iw×Int×(List gX))=>up [(9,.os 2 0 (M.n gX s.2.2)),(81,sI s.2.1)] [(2,(aR 3 (ry M s.2.2))),(3,(vR (jQ M s.1)))]) [.tO 9 3];have:=ct 33 [0,2,5,7,9,14,16,63,64,65,79,80,81] (λ_ (s:iw×(List gX))=>up [(9,.os 2 0 (M.n gX s.2))] [(2,(aR 3 (ry M s.2))),(3,(vR (jQ M s.1)))]) [.tO 9 3];have:=ct 28 [0,2,5,7,9,14,16,18,63,64,65,79,80,81,106] (λ_ s=>jO [(106,.sb s)]);have:=ct 36 [0,2,5,7,9,123] (λ_ s=>jO [(123,.sb s)]);exact wZ (iV 0 [10,15,28,33,36] [[(3,true)]]) func283 call283
end Go.Proofs.YtchmoabpofnbaaaGreat
