import Derived.Test.YtddcpnlflncahaaGreatC07
set_option linter.all false
namespace Go.Proofs.YtddcpnlflncahaaGreat
open Go Go.Pv
set_option maxRecDepth 100000
set_option maxHeartbeats 2000000
theorem c103 {M:EncM} (hM:M=mapE) {p:Arr6 Int} {r:Bool} (hf:r08_Whole p=some r):Pv.Fn Tryz.prog glF 103 [.agg [.si .i64 p.a0,.si .i64 p.a1,.si .i64 p.a2,.si .i64 p.a3,.si .i64 p.a4,.si .i64 p.a5]] (fun u=>u=.sb r):=by
 refine fn_dec (T:=(tabc [4,8])) (tabcOK [4,8]) rfl wf Tryz.func103 rfl Tryz.call103 rfl ?_
 intro S R hS hR
 have q:=sf hM hS
 unfold r08_Whole at hf
 cbv
 refine d_lp hS (tabcOK [4,8]) wf [] [1,3] (fun s1=>⟨tpsL 0 18 [(1,.lv 0 0),(3,.si .i64 s1)],[(0,some (.var false [.si .i64 p.a0,.si .i64 p.a1,.si .i64 p.a2,.si .i64 p.a3,.si .i64 p.a4,.si .i64 p.a5]))],1⟩) hf ?_
 intro Ik2 k2 s1 hk2 hf e he; subst he
 unfold r08_Whole_l1 at hf
 cbv
 refine l_seq hS ?_; cbv
 refine d_b hS hf ?_ ?_
 ·intro hf; cbv
  refine d_cut hS [] [1,3,17] (fun s4=>⟨tpsL 0 18 [(1,.lv 0 0),(3,.si .i64 s1),(17,.sb s4)],[(0,some (.var false [.si .i64 p.a0,.si .i64 p.a1,.si .i64 p.a2,.si .i64 p.a3,.si .i64 p.a4,.si .i64 p.a5]))],1⟩) hf ?_ ?_
  ·intro Ik5 k5 hk5 hf; cbv
   obtain ⟨j7,hj7,ej7,hf⟩:=d_cases hf
   refine d_ixa hS rfl ⟨j7,hj7,ej7,?_⟩
   rcases lt6 hj7 with rfl | rfl | rfl | rfl | rfl | rfl
   ·cbv
    refine d_b hS hf ?_ ?_
    ·intro hf; cbv
     exact d_x hk5 hf
    intro hf; cbv
    obtain ⟨j8,hj8,ej8,hf⟩:=d_cases hf
    refine d_ixa hS rfl ⟨j8,hj8,ej8,?_⟩
    rcases lt6 hj8 with rfl | rfl | rfl | rfl | rfl | rfl
    ·cbv
     exact d_x hk5 hf
    ·cbv
     exact d_x hk5 hf
    ·cbv
     exact d_x hk5 hf
    ·cbv
     exact d_x hk5 hf
    ·cbv
     exact d_x hk5 hf
    cbv
    exact d_x hk5 hf
   ·cbv
    refine d_b hS hf ?_ ?_
    ·intro hf; cbv
     exact d_x hk5 hf
    intro hf; cbv
    obtain ⟨j9,hj9,ej9,hf⟩:=d_cases hf
    refine d_ixa hS rfl ⟨j9,hj9,ej9,?_⟩
    rcases lt6 hj9 with rfl | rfl | rfl | rfl | rfl | rfl
    ·cbv
     exact d_x hk5 hf
    ·cbv
     exact d_x hk5 hf
    ·cbv
     exact d_x hk5 hf
    ·cbv
     exact d_x hk5 hf
    ·cbv
     exact d_x hk5 hf
    cbv
    exact d_x hk5 hf
   ·cbv
    refine d_b hS hf ?_ ?_
    ·intro hf; cbv
     exact d_x hk5 hf
    intro hf; cbv
    obtain ⟨j10,hj10,ej10,hf⟩:=d_cases hf
    refine d_ixa hS rfl ⟨j10,hj10,ej10,?_⟩
    rcases lt6 hj10 with rfl | rfl | rfl | rfl | rfl | rfl
    ·cbv
     exact d_x hk5 hf
    ·cbv
     exact d_x hk5 hf
    ·cbv
     exact d_x hk5 hf
    ·cbv
     exact d_x hk5 hf
    ·cbv
     exact d_x hk5 hf
    cbv
    exact d_x hk5 hf
   ·cbv
    refine d_b hS hf ?_ ?_
    ·intro hf; cbv
     exact d_x hk5 hf
    intro hf; cbv
    obtain ⟨j11,hj11,ej11,hf⟩:=d_cases hf
    refine d_ixa hS rfl ⟨j11,hj11,ej11,?_⟩
    rcases lt6 hj11 with rfl | rfl | rfl | rfl | rfl | rfl
    ·cbv
     exact d_x hk5 hf
    ·cbv
     exact d_x hk5 hf
    ·cbv
     exact d_x hk5 hf
    ·cbv
     exact d_x hk5 hf
    ·cbv
     exact d_x hk5 hf
    cbv
    exact d_x hk5 hf
   ·cbv
    refine d_b hS hf ?_ ?_
    ·intro hf; cbv
     exact d_x hk5 hf
    intro hf; cbv
    obtain ⟨j12,hj12,ej12,hf⟩:=d_cases hf
    refine d_ixa hS rfl ⟨j12,hj12,ej12,?_⟩
    rcases lt6 hj12 with rfl | rfl | rfl | rfl | rfl | rfl
    ·cbv
     exact d_x hk5 hf
    ·cbv
     exact d_x hk5 hf
    ·cbv
     exact d_x hk5 hf
    ·cbv
     exact d_x hk5 hf
    ·cbv
     exact d_x hk5 hf
    cbv
    exact d_x hk5 hf
   cbv
   refine d_b hS hf ?_ ?_
   ·intro hf; cbv
    exact d_x hk5 hf
   intro hf; cbv
   obtain ⟨j13,hj13,ej13,hf⟩:=d_cases hf
   refine d_ixa hS rfl ⟨j13,hj13,ej13,?_⟩
   rcases lt6 hj13 with rfl | rfl | rfl | rfl | rfl | rfl
   ·cbv
    exact d_x hk5 hf
   ·cbv
    exact d_x hk5 hf
   ·cbv
    exact d_x hk5 hf
   ·cbv
    exact d_x hk5 hf
   ·cbv
    exact d_x hk5 hf
   cbv
   exact d_x hk5 hf
  intro s4 hf; cbv
  refine d_br hS hf rfl ?_ ?_
  ·intro hf; cbv
   cases hf; exact hR _ (lp_eq rfl)
  intro hf; cbv
  exact d_x hk2 hf
 intro hf; cbv
 cases hf; exact hR _ (lp_eq rfl)
theorem c89 {M:EncM} (hM:M=mapE) {a:GAbility} {r:GAbility} (hf:r25_ability a=some r):Pv.Fn Tryz.prog glF 89 [.agg (eGAbility M a)] (fun u=>u=.agg (eGAbility M r)):=by
 refine fn_dec (T:=tab) tabOK rfl wf Tryz.func89 rfl Tryz.call89 rfl ?_
 intro S R hS hR
 have q:=sf hM hS
 unfold r25_ability at hf
 cbv
 refine d_room hS hf d_e ?_
 intro hf; cbv
 refine d_room hS hf d_e ?_
 intro hf; cbv
 refine d_lp hS tabOK wf [.cO 2 49 64] [1,2,3,4] (fun s1=>⟨tpsL 0 42 [(1,.lv 0 0),(2,.lv 1 0),(3,.lv 2 0),(4,.si .i64 s1.1)],[(0,some (.var false (eGAbility M a))),(1,some (.var false [.si .i64 0,.si .i64 0,.si .i64 0,.si .i64 0,.si .i64 0,.si .i64 0,.si .i64 0,.si .i64 0,.str (bs []),.si .i64 0,.si .i64 0,.si .i64 0,.si .i64 0,.si .i64 0,.si .i64 0,.si .i64 0,.si .i64 0,.sl 0 [] true,.si .i64 0,.si .i64 0,.si .i64 0,.si .i64 0,.si .i64 0,.si .i64 0,.si .i64 0,.sb false,.sb false,.si .i64 0,.sb false,.si .i64 0,.si .i64 0,.si .i64 0,.si .i64 0,.si .i64 0,.si .i64 0,.si .i64 0,.si .i64 0,.si .i64 0,.str (bs []),.si .i64 0,.si .i64 0,.si .i64 0,.si .i64 0,.si .i64 0,.si .i64 0,.si .i64 0,.si .i64 0,.sb false,.sl 0 [] true,.sl 0 [] true,.si .i64 0,.si .i64 0,.si .i64 0,.si .i64 0,.si .i64 0,.si .i64 0,.si .i64 0,.si .i64 0,.si .i64 0,.str (bs []),.si .i64 0,.si .i64 0,.si .i64 0,.si .i64 0,.si .i64 0,.si .i64 0,.si .i64 0,.si .i64 0,.si .i64 0,.si .i64 0,.si .i64 0,.si .i64 0])),(2,some (.var false [.si .i64 a.kind,.si .i64 a.filter.zone,.si .i64 a.filter.who,.si .i64 a.filter.self,.si .i64 a.filter.types,.si .i64 a.filter.notTypes,.si .i64 a.filter.colors,.si .i64 a.filter.notColors,.str a.filter.sub,.si .i64 a.filter.keys,.si .i64 a.filter.tap,.si .i64 a.filter.power.kind,.si .i64 a.filter.power.n,.si .i64 a.filter.tough.kind,.si .i64 a.filter.tough.n,.si .i64 a.filter.value.kind,.si .i64 a.filter.value.n,.os 3 0 (S.lenN (S.app (S.sub ([]) 0 0) (M.m GMod (eGMod M) a.mods))),.si .i64 a.price.mana.generic,.si .i64 a.price.mana.x,.si .i64 a.price.mana.color.a0,.si .i64 a.price.mana.color.a1,.si .i64 a.price.mana.color.a2,.si .i64 a.price.mana.color.a3,.si .i64 a.price.mana.color.a4,.sb a.price.tap,.sb a.price.sacrifice,.si .i64 a.price.life,.sb a.slow,.si .i64 a.trigger.when,.si .i64 a.trigger.who,.si .i64 a.trigger.filter.zone,.si .i64 a.trigger.filter.who,.si .i64 a.trigger.filter.self,.si .i64 a.trigger.filter.types,.si .i64 a.trigger.filter.notTypes,.si .i64 a.trigger.filter.colors,.si .i64 a.trigger.filter.notColors,.str a.trigger.filter.sub,.si .i64 a.trigger.filter.keys,.si .i64 a.trigger.filter.tap,.si .i64 a.trigger.filter.power.kind,.si .i64 a.trigger.filter.power.n,.si .i64 a.trigger.filter.tough.kind,.si .i64 a.trigger.filter.tough.n,.si .i64 a.trigger.filter.value.kind,.si .i64 a.trigger.filter.value.n,.sb a.may,.os 4 0 (S.lenN (S.app (S.sub ([]) 0 0) (M.m GSpec (eGSpec M) a.specs))),.os 5 0 (S.lenN (M.m GEffect (eGEffect M) s1.2)),.si .i64 a.replace.on,.si .i64 a.replace.who,.si .i64 a.replace.filter.zone,.si .i64 a.replace.filter.who,.si .i64 a.replace.filter.self,.si .i64 a.replace.filter.types,.si .i64 a.replace.filter.notTypes,.si .i64 a.replace.filter.colors,.si .i64 a.replace.filter.notColors,.str a.replace.filter.sub,.si .i64 a.replace.filter.keys,.si .i64 a.replace.filter.tap,.si .i64 a.replace.filter.power.kind,.si .i64 a.replace.filter.power.n,.si .i64 a.replace.filter.tough.kind,.si .i64 a.replace.filter.tough.n,.si .i64 a.replace.filter.value.kind,.si .i64 a.replace.filter.value.n,.si .i64 a.replace.doF,.si .i64 a.replace.n,.si .i64 a.replace.zone,.si .i64 a.replace.counter])),(3,some (.arr false 20 (S.app (S.sub ([]) 0 0) (M.m GMod (eGMod M) a.mods)))),(4,some (.arr false 18 (S.app (S.sub ([]) 0 0) (M.m GSpec (eGSpec M) a.specs)))),(5,some (.arr false 64 (M.m GEffect (eGEffect M) s1.2)))],6⟩) hf ?_
 intro Ik2 k2 s1 hk2 hf e he; subst he
 unfold r25_ability_l1 at hf
 cbv
 refine d_b hS hf ?_ ?_
 ·intro hf; cbv
  refine d_idx hS hM hf rfl rfl ?_
  intro x4 hf; cbv
  refine d_room hS hf d_e ?_
  intro hf; cbv
  refine d_room hS hf d_e ?_
  intro hf; cbv
  exact d_x hk2 hf
 intro hf; cbv
 cases hf; exact hR _ d_l
theorem c102 {M:EncM} (hM:M=mapE) {c:GCost} {r:Bool} (hf:r08_Is c=some r):Pv.Fn Tryz.prog glF 102 [.agg (eGCost M c)] (fun u=>u=.sb r):=by
 refine fn_dec (T:=(tabc [2,8,12])) (tabcOK [2,8,12]) rfl wf Tryz.func102 rfl Tryz.call102 rfl ?_
 intro S R hS hR
 have q:=sf hM hS
 unfold r08_Is at hf
 cbv
 refine d_cut hS [] [1,21] (fun s1=>⟨tpsL 0 38 [(1,.lv 0 0),(21,.sb s1)],[(0,some (.var false (eGCost M c)))],1⟩) hf ?_ ?_
 ·intro Ik2 k2 hk2 hf; cbv
  refine d_b hS hf ?_ ?_
  ·intro hf; cbv
   exact d_x hk2 hf
  intro hf; cbv
  refine d_b hS hf ?_ ?_
  ·intro hf; cbv
   exact d_x hk2 hf
  intro hf; cbv
  refine d_b hS hf ?_ ?_
  ·intro hf; cbv
   exact d_x hk2 hf
  intro hf; cbv
  exact d_x hk2 hf
 intro s1 hf; cbv
 refine d_br hS hf rfl ?_ ?_
 ·intro hf; cbv
  cases hf; exact hR _ (lp_eq rfl)
 intro hf; cbv
 refine d_lp hS (tabcOK [2,8,12]) wf [] [1,3] (fun s4=>⟨tpsL 0 38 [(1,.lv 0 0),(3,.si .i64 s4)],[(0,some (.var false (eGCost M c)))],1⟩) hf ?_
 intro Ik5 k5 s4 hk5 hf e he; subst he
 unfold r08_Is_l1 at hf
 cbv
 refine l_seq hS ?_; cbv
 refine d_b hS hf ?_ ?_
 ·intro hf; cbv
  refine d_cut hS [] [1,3,37] (fun s7=>⟨tpsL 0 38 [(1,.lv 0 0),(3,.si .i64 s4),(37,.sb s7)],[(0,some (.var false (eGCost M c)))],1⟩) hf ?_ ?_
  ·intro Ik8 k8 hk8 hf; cbv
   obtain ⟨j10,hj10,ej10,hf⟩:=d_cases hf
   refine d_ixa hS rfl ⟨j10,hj10,ej10,?_⟩
   rcases lt5 hj10 with rfl | rfl | rfl | rfl | rfl
   ·cbv
    refine d_b hS hf ?_ ?_
    ·intro hf; cbv
     exact d_x hk8 hf
    intro hf; cbv
    obtain ⟨j11,hj11,ej11,hf⟩:=d_cases hf
    refine d_ixa hS rfl ⟨j11,hj11,ej11,?_⟩
    rcases lt5 hj11 with rfl | rfl | rfl | rfl | rfl
    ·cbv
     exact d_x hk8 hf
    ·cbv
     exact d_x hk8 hf
    ·cbv
     exact d_x hk8 hf
    ·cbv
     exact d_x hk8 hf
    cbv
    exact d_x hk8 hf
   ·cbv
    refine d_b hS hf ?_ ?_
    ·intro hf; cbv
     exact d_x hk8 hf
    intro hf; cbv
    obtain ⟨j12,hj12,ej12,hf⟩:=d_cases hf
    refine d_ixa hS rfl ⟨j12,hj12,ej12,?_⟩
    rcases lt5 hj12 with rfl | rfl | rfl | rfl | rfl
    ·cbv
     exact d_x hk8 hf
    ·cbv
     exact d_x hk8 hf
    ·cbv
     exact d_x hk8 hf
    ·cbv
     exact d_x hk8 hf
    cbv
    exact d_x hk8 hf
   ·cbv
    refine d_b hS hf ?_ ?_
    ·intro hf; cbv
     exact d_x hk8 hf
    intro hf; cbv
    obtain ⟨j13,hj13,ej13,hf⟩:=d_cases hf
    refine d_ixa hS rfl ⟨j13,hj13,ej13,?_⟩
    rcases lt5 hj13 with rfl | rfl | rfl | rfl | rfl
    ·cbv
     exact d_x hk8 hf
    ·cbv
     exact d_x hk8 hf
    ·cbv
     exact d_x hk8 hf
    ·cbv
     exact d_x hk8 hf
    cbv
    exact d_x hk8 hf
   ·cbv
    refine d_b hS hf ?_ ?_
    ·intro hf; cbv
     exact d_x hk8 hf
    intro hf; cbv
    obtain ⟨j14,hj14,ej14,hf⟩:=d_cases hf
    refine d_ixa hS rfl ⟨j14,hj14,ej14,?_⟩
    rcases lt5 hj14 with rfl | rfl | rfl | rfl | rfl
    ·cbv
     exact d_x hk8 hf
    ·cbv
     exact d_x hk8 hf
    ·cbv
     exact d_x hk8 hf
    ·cbv
     exact d_x hk8 hf
    cbv
    exact d_x hk8 hf
   cbv
   refine d_b hS hf ?_ ?_
   ·intro hf; cbv
    exact d_x hk8 hf
   intro hf; cbv
   obtain ⟨j15,hj15,ej15,hf⟩:=d_cases hf
   refine d_ixa hS rfl ⟨j15,hj15,ej15,?_⟩
   rcases lt5 hj15 with rfl | rfl | rfl | rfl | rfl
   ·cbv
    exact d_x hk8 hf
   ·cbv
    exact d_x hk8 hf
   ·cbv
    exact d_x hk8 hf
   ·cbv
    exact d_x hk8 hf
   cbv
   exact d_x hk8 hf
  intro s7 hf; cbv
  refine d_br hS hf rfl ?_ ?_
  ·intro hf; cbv
   cases hf; exact hR _ (lp_eq rfl)
  intro hf; cbv
  exact d_x hk5 hf
 intro hf; cbv
 cases hf; exact hR _ (lp_eq rfl)
theorem o37 {M:EncM} (hM:M=mapE) {players:Int} {first:Int} {seed:Int} {r:GState} (hf:r26_New players first seed=some r):Pv.FnS Tryz.prog glF 37 [.si .i64 players,.si .i64 first,.si .u64 seed] [] 0 (fun u s n=>u=.agg [.os 0 0 (M.n GPlayer r.players),.sl 19 (M.m GObject (eGObject M) r.objects) false,.sl 1 (M.m Int (eI .i64) r.battlefield) false,.sl 1 (M.m Int (eI .i64) r.exile) false,.sl 94 (M.m GItem (eGItem M) r.stack) false,.sl 89 (M.m GWaiting (eGWaiting M) r.waiting) false,.sl 6 (M.m GCont (eGCont M) r.conts) false,.si .i64 r.turn,.si .i64 r.active,.si .i64 r.step,.sb r.begun,.si .i64 r.priority,.si .i64 r.passes,.si .i64 r.nextId,.si .i64 r.nextStamp,.si .u64 r.seed,.sl 1 (M.m Int (eI .i64) r.extra) false,.si .i64 r.over,.si .i64 r.winner]∧s=[(0,some (.arr false 14 (M.m GPlayer (eGPlayer M) r.players)))]∧n=1):=by
 refine fnS_dec (T:=(tabx 0 [14] [[(14,true),(0,false),(0,false),(0,false),(0,false),(0,false),(0,false),(0,false),(0,false),(0,false),(0,false),(0,false),(0,false),(0,false),(0,false),(0,false),(0,false),(0,false),(0,false)]])) (tabxOK 0 [14] [[(14,true),(0,false),(0,false),(0,false),(0,false),(0,false),(0,false),(0,false),(0,false),(0,false),(0,false),(0,false),(0,false),(0,false),(0,false),(0,false),(0,false),(0,false),(0,false)]]) wf Tryz.func37 rfl Tryz.call37 rfl ?_
 intro S R hS hR
 have q:=sf hM hS
 unfold r26_New at hf
 cbv
 refine d_lp hS (tabxOK 0 [14] [[(14,true),(0,false),(0,false),(0,false),(0,false),(0,false),(0,false),(0,false),(0,false),(0,false),(0,false),(0,false),(0,false),(0,false),(0,false),(0,false),(0,false),(0,false),(0,false)]]) wf [.cO 1 0 14] [1,6,7,8,9] (fun s1=>⟨tpsL 0 38 [(1,.si .i64 first),(6,.lv 0 0),(7,.si .i64 (S.smin (S.smax players 2) 4)),(8,.lv 1 0),(9,.si .i64 s1.1)],[(0,some (.var false [.sl 0 [] true,.sl 0 [] true,.sl 0 [] true,.sl 0 [] true,.sl 0 [] true,.sl 0 [] true,.sl 0 [] true,.si .i64 0,.si .i64 0,.si .i64 0,.sb false,.si .i64 0,.si .i64 0,.si .i64 0,.si .i64 0,.si .u64 0,.sl 0 [] true,.si .i64 0,.si .i64 0])),(1,some (.var false [.os 2 0 (S.lenN (M.m GPlayer (eGPlayer M) s1.2)),.sl 0 [] true,.sl 0 [] true,.sl 0 [] true,.sl 0 [] true,.sl 0 [] true,.sl 0 [] true,.si .i64 0,.si .i64 0,.si .i64 0,.sb false,.si .i64 0,.si .i64 0,.si .i64 1,.si .i64 1,.si .u64 seed,.sl 0 [] true,.si .i64 0,.si .i64 (-1)])),(2,some (.arr false 14 (M.m GPlayer (eGPlayer M) s1.2)))],3⟩) hf ?_
 intro Ik2 k2 s1 hk2 hf e he; subst he
 unfold r26_New_l1 at hf
 cbv
 replace hf:=d_lt hf
 refine d_b hS hf ?_ ?_
 ·intro hf; cbv
  refine d_wk hS (e:=(eGPlayer M)) hf d_st ?_
  intro x5 hf; cbv
  refine d_room hS hf d_e ?_
  intro hf; cbv
  exact d_x hk2 hf
 intro hf; cbv
 refine d_cut hS [] [1,6,8,32] (fun s6=>⟨tpsL 0 38 [(1,.si .i64 first),(6,.lv 0 0),(8,.lv 1 0),(32,.sb s6)],[(0,some (.var false [.sl 0 [] true,.sl 0 [] true,.sl 0 [] true,.sl 0 [] true,.sl 0 [] true,.sl 0 [] true,.sl 0 [] true,.si .i64 0,.si .i64 0,.si .i64 0,.sb false,.si .i64 0,.si .i64 0,.si .i64 0,.si .i64 0,.si .u64 0,.sl 0 [] true,.si .i64 0,.si .i64 0])),(1,some (.var false [.os 2 0 (S.lenN (M.m GPlayer (eGPlayer M) s1.2)),.sl 0 [] true,.sl 0 [] true,.sl 0 [] true,.sl 0 [] true,.sl 0 [] true,.sl 0 [] true,.si .i64 0,.si .i64 0,.si .i64 0,.sb false,.si .i64 0,.si .i64 0,.si .i64 1,.si .i64 1,.si .u64 seed,.sl 0 [] true,.si .i64 0,.si .i64 (-1)])),(2,some (.arr false 14 (M.m GPlayer (eGPlayer M) s1.2)))],3⟩) hf ?_ ?_
 ·intro Ik7 k7 hk7 hf; cbv
  refine d_b hS hf ?_ ?_
  ·intro hf; cbv
   replace hf:=d_lt hf
   exact d_x hk7 hf
  intro hf; cbv
  exact d_x hk7 hf
 intro s6 hf; cbv
 refine d_br hS hf rfl ?_ ?_
 ·intro hf; cbv
  cases hf; exact hR _ _ _ d_st d_st rfl
 intro hf; cbv
 cases hf; exact hR _ _ _ d_st d_st rfl
theorem c164 {M:EncM} (hM:M=mapE) {c:Arr3 Int} {r:Bool} (hf:r12_Is c=some r):Pv.Fn Tryz.prog glF 164 [.agg [.si .i64 c.a0,.si .i64 c.a1,.si .i64 c.a2]] (fun u=>u=.sb r):=by
 refine fn_dec (T:=(tabc [4,8])) (tabcOK [4,8]) rfl wf Tryz.func164 rfl Tryz.call164 rfl ?_
 intro S R hS hR
 have q:=sf hM hS
 unfold r12_Is at hf
 cbv
 refine d_lp hS (tabcOK [4,8]) wf [] [1,3] (fun s1=>⟨tpsL 0 18 [(1,.lv 0 0),(3,.si .i64 s1)],[(0,some (.var false [.si .i64 c.a0,.si .i64 c.a1,.si .i64 c.a2]))],1⟩) hf ?_
 intro Ik2 k2 s1 hk2 hf e he; subst he
 unfold r12_Is_l1 at hf
 cbv
 refine l_seq hS ?_; cbv
 refine d_b hS hf ?_ ?_
 ·intro hf; cbv
  refine d_cut hS [] [1,3,17] (fun s4=>⟨tpsL 0 18 [(1,.lv 0 0),(3,.si .i64 s1),(17,.sb s4)],[(0,some (.var false [.si .i64 c.a0,.si .i64 c.a1,.si .i64 c.a2]))],1⟩) hf ?_ ?_
  ·intro Ik5 k5 hk5 hf; cbv
   obtain ⟨j7,hj7,ej7,hf⟩:=d_cases hf
   refine d_ixa hS rfl ⟨j7,hj7,ej7,?_⟩
   rcases lt3 hj7 with rfl | rfl | rfl
   ·cbv
    refine d_b hS hf ?_ ?_
    ·intro hf; cbv
     exact d_x hk5 hf
    intro hf; cbv
    obtain ⟨j8,hj8,ej8,hf⟩:=d_cases hf
    refine d_ixa hS rfl ⟨j8,hj8,ej8,?_⟩
    rcases lt3 hj8 with rfl | rfl | rfl
    ·cbv
     exact d_x hk5 hf
    ·cbv
     exact d_x hk5 hf
    cbv
    exact d_x hk5 hf
   ·cbv
    refine d_b hS hf ?_ ?_
    ·intro hf; cbv
     exact d_x hk5 hf
    intro hf; cbv
    obtain ⟨j9,hj9,ej9,hf⟩:=d_cases hf
    refine d_ixa hS rfl ⟨j9,hj9,ej9,?_⟩
    rcases lt3 hj9 with rfl | rfl | rfl
    ·cbv
     exact d_x hk5 hf
    ·cbv
     exact d_x hk5 hf
    cbv
    exact d_x hk5 hf
   cbv
   refine d_b hS hf ?_ ?_
   ·intro hf; cbv
    exact d_x hk5 hf
   intro hf; cbv
   obtain ⟨j10,hj10,ej10,hf⟩:=d_cases hf
   refine d_ixa hS rfl ⟨j10,hj10,ej10,?_⟩
   rcases lt3 hj10 with rfl | rfl | rfl
   ·cbv
    exact d_x hk5 hf
   ·cbv
    exact d_x hk5 hf
   cbv
   exact d_x hk5 hf
  intro s4 hf; cbv
  refine d_br hS hf rfl ?_ ?_
  ·intro hf; cbv
   cases hf; exact hR _ (lp_eq rfl)
  intro hf; cbv
  exact d_x hk2 hf
 intro hf; cbv
 cases hf; exact hR _ (lp_eq rfl)
theorem c96 {M:EncM} (hM:M=mapE) {c:GCost} {r:Bool} (hf:mana_Is c=some r):Pv.Fn Tryz.prog glF 96 [.agg (eGCost M c)] (fun u=>u=.sb r):=by
 refine fn_dec (T:=(tabc [4,6,8])) (tabcOK [4,6,8]) rfl wf Tryz.func96 rfl Tryz.call96 rfl ?_
 intro S R hS hR
 have q:=sf hM hS
 unfold mana_Is at hf
 cbv
 refine d_lp hS (tabcOK [4,6,8]) wf [] [1,6,7] (fun s1=>⟨tpsL 0 35 [(1,.lv 0 0),(6,.agg [.si .i64 c.color.a0,.si .i64 c.color.a1,.si .i64 c.color.a2,.si .i64 c.color.a3,.si .i64 c.color.a4]),(7,.si .i64 s1)],[(0,some (.var false (eGCost M c)))],1⟩) hf ?_
 intro Ik2 k2 s1 hk2 hf e he; subst he
 unfold mana_Is_l1 at hf
 cbv
 refine l_seq hS ?_; cbv
 refine d_b hS hf ?_ ?_
 ·intro hf; cbv
  refine d_cut hS [] [1,4,6,7] (fun s4=>⟨tpsL 0 35 [(1,.lv 0 0),(4,.si .i64 s4),(6,.agg [.si .i64 c.color.a0,.si .i64 c.color.a1,.si .i64 c.color.a2,.si .i64 c.color.a3,.si .i64 c.color.a4]),(7,.si .i64 s1)],[(0,some (.var false (eGCost M c)))],1⟩) hf ?_ ?_
  ·intro Ik5 k5 hk5 hf; cbv
   obtain ⟨j7,hj7,ej7,hf⟩:=d_cases hf
   refine d_ixa hS rfl ⟨j7,hj7,ej7,?_⟩
   rcases lt5 hj7 with rfl | rfl | rfl | rfl | rfl
   ·cbv
    exact d_x hk5 hf
   ·cbv
    exact d_x hk5 hf
   ·cbv
    exact d_x hk5 hf
   ·cbv
    exact d_x hk5 hf
   cbv
   exact d_x hk5 hf
  intro s4 hf; cbv
  refine d_cut hS [] [1,6,7,15] (fun s8=>⟨tpsL 0 35 [(1,.lv 0 0),(6,.agg [.si .i64 c.color.a0,.si .i64 c.color.a1,.si .i64 c.color.a2,.si .i64 c.color.a3,.si .i64 c.color.a4]),(7,.si .i64 s1),(15,.sb s8)],[(0,some (.var false (eGCost M c)))],1⟩) hf ?_ ?_
  ·intro Ik9 k9 hk9 hf; cbv
   refine d_b hS hf ?_ ?_
   ·intro hf; cbv
    exact d_x hk9 hf
   intro hf; cbv
   exact d_x hk9 hf
  intro s8 hf; cbv
  refine d_br hS hf rfl ?_ ?_
  ·intro hf; cbv
   cases hf; exact hR _ (lp_eq rfl)
  intro hf; cbv
  exact d_x hk2 hf
 intro hf; cbv
 refine d_b hS hf ?_ ?_
 ·intro hf; cbv
  refine d_b hS hf ?_ ?_
  ·intro hf; cbv
   refine d_b hS hf ?_ ?_
   ·intro hf; cbv
    cases hf; exact hR _ d_l
   intro hf; cbv
   cases hf; exact hR _ (lp_eq rfl)
  intro hf; cbv
  cases hf; exact hR _ (lp_eq rfl)
 intro hf; cbv
 cases hf; exact hR _ (lp_eq rfl)
theorem c246 {M:EncM} (hM:M=mapE) {op:Int} {r:ByteArray} (hf:r17_Uses op=some r):Pv.Fn Tryz.prog glF 246 [.si .i64 op] (fun u=>u=.str r):=by
 refine fn_dec (T:=tab) tabOK rfl wf Tryz.func246 rfl Tryz.call246 rfl ?_
 intro S R hS hR
 have q:=sf hM hS
 unfold r17_Uses at hf
 cbv
 refine d_b hS hf ?_ ?_
 ·intro hf; cbv
  cases hf; exact hR _ (lp_eq rfl)
 intro hf; cbv
 refine d_b hS hf ?_ ?_
 ·intro hf; cbv
  cases hf; exact hR _ (lp_eq rfl)
 intro hf; cbv
 refine d_b hS hf ?_ ?_
 ·intro hf; cbv
  cases hf; exact hR _ (lp_eq rfl)
 intro hf; cbv
 refine d_b hS hf ?_ ?_
 ·intro hf; cbv
  cases hf; exact hR _ (lp_eq rfl)
 intro hf; cbv
 refine d_b hS hf ?_ ?_
 ·intro hf; cbv
  cases hf; exact hR _ (lp_eq rfl)
 intro hf; cbv
 refine d_b hS hf ?_ ?_
 ·intro hf; cbv
  cases hf; exact hR _ (lp_eq rfl)
 intro hf; cbv
 refine d_b hS hf ?_ ?_
 ·intro hf; cbv
  cases hf; exact hR _ (lp_eq rfl)
 intro hf; cbv
 refine d_b hS hf ?_ ?_
 ·intro hf; cbv
  cases hf; exact hR _ (lp_eq rfl)
 intro hf; cbv
 refine d_b hS hf ?_ ?_
 ·intro hf; cbv
  cases hf; exact hR _ (lp_eq rfl)
 intro hf; cbv
 refine d_b hS hf ?_ ?_
 ·intro hf; cbv
  cases hf; exact hR _ (lp_eq rfl)
 intro hf; cbv
 refine d_b hS hf ?_ ?_
 ·intro hf; cbv
  cases hf; exact hR _ (lp_eq rfl)
 intro hf; cbv
 refine d_b hS hf ?_ ?_
 ·intro hf; cbv
  cases hf; exact hR _ (lp_eq rfl)
 intro hf; cbv
 refine d_b hS hf ?_ ?_
 ·intro hf; cbv
  cases hf; exact hR _ (lp_eq rfl)
 intro hf; cbv
 refine d_b hS hf ?_ ?_
 ·intro hf; cbv
  cases hf; exact hR _ (lp_eq rfl)
 intro hf; cbv
 refine d_b hS hf ?_ ?_
 ·intro hf; cbv
  cases hf; exact hR _ (lp_eq rfl)
 intro hf; cbv
 refine d_b hS hf ?_ ?_
 ·intro hf; cbv
  cases hf; exact hR _ (lp_eq rfl)
 intro hf; cbv
 refine d_b hS hf ?_ ?_
 ·intro hf; cbv
  cases hf; exact hR _ (lp_eq rfl)
 intro hf; cbv
 refine d_b hS hf ?_ ?_
 ·intro hf; cbv
  cases hf; exact hR _ (lp_eq rfl)
 intro hf; cbv
 cases hf; exact hR _ (lp_eq rfl)
theorem c190 {M:EncM} (hM:M=mapE) {a:Int} {b:Int} {most:Int} {r:Bool} (hf:r13_apart a b most=some r):Pv.Fn Tryz.prog glF 190 [.si .i64 a,.si .i64 b,.si .i64 most] (fun u=>u=.sb r):=by
 refine fn_dec (T:=(tabc [2,8,12])) (tabcOK [2,8,12]) rfl wf Tryz.func190 rfl Tryz.call190 rfl ?_
 intro S R hS hR
 have q:=sf hM hS
 unfold r13_apart at hf
 cbv
 refine d_cut hS [] [0,1,23] (fun s1=>⟨tpsL 0 40 [(0,.si .i64 a),(1,.si .i64 b),(23,.sb s1)],[],0⟩) hf ?_ ?_
 ·intro Ik2 k2 hk2 hf; cbv
  refine d_b hS hf ?_ ?_
  ·intro hf; cbv
   exact d_x hk2 hf
  intro hf; cbv
  refine d_b hS hf ?_ ?_
  ·intro hf; cbv
   exact d_x hk2 hf
  intro hf; cbv
  refine d_b hS hf ?_ ?_
  ·intro hf; cbv
   exact d_x hk2 hf
  intro hf; cbv
  exact d_x hk2 hf
 intro s1 hf; cbv
 refine d_br hS hf rfl ?_ ?_
 ·intro hf; cbv
  cases hf; exact hR _ (lp_eq rfl)
 intro hf; cbv
 refine d_lp hS (tabcOK [2,8,12]) wf [] [0,1,7] (fun s4=>⟨tpsL 0 40 [(0,.si .i64 s4.1),(1,.si .i64 s4.2.1),(7,.si .i64 s4.2.2)],[],0⟩) hf ?_
 intro Ik5 k5 s4 hk5 hf e he; subst he
 unfold r13_apart_l1 at hf
 cbv
 refine l_seq hS ?_; cbv
 refine d_b hS hf ?_ ?_
 ·intro hf; cbv
  refine d_cut hS [] [0,1,7,35] (fun s7=>⟨tpsL 0 40 [(0,.si .i64 s4.1),(1,.si .i64 s4.2.1),(7,.si .i64 s4.2.2),(35,.sb s7)],[],0⟩) hf ?_ ?_
  ·intro Ik8 k8 hk8 hf; cbv
   refine d_div hS hf rfl rfl ?_
   intro x10 hf; cbv
   refine d_b hS hf ?_ ?_
   ·intro hf; cbv
    refine d_div hS hf rfl rfl ?_
    intro x11 hf; cbv
    exact d_x hk8 hf
   intro hf; cbv
   exact d_x hk8 hf
  intro s7 hf; cbv
  refine d_br hS hf rfl ?_ ?_
  ·intro hf; cbv
   cases hf; exact hR _ (lp_eq rfl)
  intro hf; cbv
  refine d_div hS hf rfl rfl ?_
  intro x12 hf; cbv
  refine d_div hS hf rfl rfl ?_
  intro x13 hf; cbv
  exact d_x hk5 hf
 intro hf; cbv
 cases hf; exact hR _ (lp_eq rfl)
theorem c97 {M:EncM} (hM:M=mapE) {p:Arr6 Int} {r:Bool} (hf:mana_Whole p=some r):Pv.Fn Tryz.prog glF 97 [.agg [.si .i64 p.a0,.si .i64 p.a1,.si .i64 p.a2,.si .i64 p.a3,.si .i64 p.a4,.si .i64 p.a5]] (fun u=>u=.sb r):=by
 refine fn_dec (T:=(tabc [4,6,8])) (tabcOK [4,6,8]) rfl wf Tryz.func97 rfl Tryz.call97 rfl ?_
 intro S R hS hR
 have q:=sf hM hS
 unfold mana_Whole at hf
 cbv
 refine d_lp hS (tabcOK [4,6,8]) wf [] [5,6] (fun s1=>⟨tpsL 0 16 [(5,.agg [.si .i64 p.a0,.si .i64 p.a1,.si .i64 p.a2,.si .i64 p.a3,.si .i64 p.a4,.si .i64 p.a5]),(6,.si .i64 s1)],[],0⟩) hf ?_
 intro Ik2 k2 s1 hk2 hf e he; subst he
 unfold mana_Whole_l1 at hf
 cbv
 refine l_seq hS ?_; cbv
 refine d_b hS hf ?_ ?_
 ·intro hf; cbv
  refine d_cut hS [] [4,5,6] (fun s4=>⟨tpsL 0 16 [(4,.si .i64 s4),(5,.agg [.si .i64 p.a0,.si .i64 p.a1,.si .i64 p.a2,.si .i64 p.a3,.si .i64 p.a4,.si .i64 p.a5]),(6,.si .i64 s1)],[],0⟩) hf ?_ ?_
  ·intro Ik5 k5 hk5 hf; cbv
   obtain ⟨j7,hj7,ej7,hf⟩:=d_cases hf
   refine d_ixa hS rfl ⟨j7,hj7,ej7,?_⟩
   rcases lt6 hj7 with rfl | rfl | rfl | rfl | rfl | rfl
   ·cbv
    exact d_x hk5 hf
   ·cbv
    exact d_x hk5 hf
   ·cbv
    exact d_x hk5 hf
   ·cbv
    exact d_x hk5 hf
   ·cbv
    exact d_x hk5 hf
   cbv
   exact d_x hk5 hf
  intro s4 hf; cbv
  refine d_cut hS [] [5,6,14] (fun s8=>⟨tpsL 0 16 [(5,.agg [.si .i64 p.a0,.si .i64 p.a1,.si .i64 p.a2,.si .i64 p.a3,.si .i64 p.a4,.si .i64 p.a5]),(6,.si .i64 s1),(14,.sb s8)],[],0⟩) hf ?_ ?_
  ·intro Ik9 k9 hk9 hf; cbv
   refine d_b hS hf ?_ ?_
   ·intro hf; cbv
    exact d_x hk9 hf
   intro hf; cbv
   exact d_x hk9 hf
  intro s8 hf; cbv
  refine d_br hS hf rfl ?_ ?_
  ·intro hf; cbv
   cases hf; exact hR _ (lp_eq rfl)
  intro hf; cbv
  exact d_x hk2 hf
 intro hf; cbv
 cases hf; exact hR _ (lp_eq rfl)
theorem c138 {M:EncM} (hM:M=mapE) {a:List Int} {n:Int} {r:Bool} (hf:r36_indexes a n=some r):Pv.Fn Tryz.prog glF 138 [.sl 1 (M.m Int (eI .i64) a) false,.si .i64 n] (fun u=>u=.sb r):=by
 refine fn_dec (T:=(tabc [8])) (tabcOK [8]) rfl wf Tryz.func138 rfl Tryz.call138 rfl ?_
 intro S R hS hR
 have q:=sf hM hS
 unfold r36_indexes at hf
 cbv
 refine d_lp hS (tabcOK [8]) wf [] [0,1,5] (fun s1=>⟨tpsL 0 40 [(0,.sl 1 (M.m Int (eI .i64) a) false),(1,.si .i64 n),(5,.si .i64 s1)],[],0⟩) hf ?_
 intro Ik2 k2 s1 hk2 hf e he; subst he
 unfold r36_indexes_l2 at hf
 cbv
 refine d_b hS hf ?_ ?_
 ·intro hf; cbv
  refine d_cut hS [] [0,1,5,25] (fun s4=>⟨tpsL 0 40 [(0,.sl 1 (M.m Int (eI .i64) a) false),(1,.si .i64 n),(5,.si .i64 s1),(25,.sb s4)],[],0⟩) hf ?_ ?_
  ·intro Ik5 k5 hk5 hf; cbv
   refine d_idx hS hM hf rfl rfl ?_
   intro x7 hf; cbv
   refine d_b hS hf ?_ ?_
   ·intro hf; cbv
    exact d_x hk5 hf
   intro hf; cbv
   refine d_idx hS hM hf rfl rfl ?_
   intro x8 hf; cbv
   exact d_x hk5 hf
  intro s4 hf; cbv
  refine d_br hS hf rfl ?_ ?_
  ·intro hf; cbv
   cases hf; exact hR _ (lp_eq rfl)
  intro hf; cbv
  refine d_lp hS (tabcOK [8]) wf [] [0,1,5,6] (fun s9=>⟨tpsL 0 40 [(0,.sl 1 (M.m Int (eI .i64) a) false),(1,.si .i64 n),(5,.si .i64 s1),(6,.si .i64 s9)],[],0⟩) hf ?_
  intro Ik10 k10 s9 hk10 hf e he; subst he
  unfold r36_indexes_l1 at hf
  cbv
  refine d_b hS hf ?_ ?_
  ·intro hf; cbv
   refine d_o hS ?_; cbv
   refine d_idx hS hM hf rfl rfl ?_
   intro x12 hf; cbv
   refine d_idx hS hM hf rfl rfl ?_
   intro x13 hf; cbv
   refine d_b hS hf ?_ ?_
   ·intro hf; cbv
    cases hf; exact hR _ (lp_eq rfl)
   intro hf; cbv
   exact d_x hk10 hf
  intro hf; cbv
  exact d_x hk2 hf
 intro hf; cbv
 cases hf; exact hR _ (lp_eq rfl)
end Go.Proofs.YtddcpnlflncahaaGreat
