import Derived.Test.YthfepelpmalckaaGreatB07
set_option linter.all false
namespace Go.Proofs.YthfepelpmalckaaGreat
open Go Go.Pv
set_option maxRecDepth 100000
set_option maxHeartbeats 2000000
section
variable {M:EncM} (hM:M=mapE)
include hM
theorem c102 {a:GAbility} {r:GAbility} (hf:r28_ability a=some r):Pv.Fn Tryz.prog glF 102 [.agg (eGAbility M a)] (fun u=>u=.agg (eGAbility M r)):=by
 refine fn_D tabOK Tryz.func102 Tryz.call102 ?_
 intro S R hS hR
 have q:=sf hM hS
 unfold r28_ability at hf
 cbv
 refine d_room hS hf d_e ?_
 intro hf; cbv
 refine d_room hS hf d_e ?_
 intro hf; cbv
 refine d_lp hS tabOK wf [.cO 2 49 64] [1,2,3,4] (fun s1=>f3 42 [(1,.lv 0 0),(2,.lv 1 0),(3,.lv 2 0),(4,sI s1.1)] [vR (eGAbility M a),vR [sI 0,sI 0,sI 0,sI 0,sI 0,sI 0,sI 0,sI 0,.str (bs []),sI 0,sI 0,sI 0,sI 0,sI 0,sI 0,sI 0,sI 0,.sl 0 [] true,sI 0,sI 0,sI 0,sI 0,sI 0,sI 0,sI 0,.sb false,.sb false,sI 0,.sb false,sI 0,sI 0,sI 0,sI 0,sI 0,sI 0,sI 0,sI 0,sI 0,.str (bs []),sI 0,sI 0,sI 0,sI 0,sI 0,sI 0,sI 0,sI 0,.sb false,.sl 0 [] true,.sl 0 [] true,sI 0,sI 0,sI 0,sI 0,sI 0,sI 0,sI 0,sI 0,sI 0,.str (bs []),sI 0,sI 0,sI 0,sI 0,sI 0,sI 0,sI 0,sI 0,sI 0,sI 0,sI 0,sI 0],vR [sI a.kind,sI a.filter.zone,sI a.filter.who,sI a.filter.self,sI a.filter.types,sI a.filter.notTypes,sI a.filter.colors,sI a.filter.notColors,.str a.filter.sub,sI a.filter.keys,sI a.filter.tap,sI a.filter.power.kind,sI a.filter.power.n,sI a.filter.tough.kind,sI a.filter.tough.n,sI a.filter.value.kind,sI a.filter.value.n,.os 3 0 (S.lenN (S.app (S.sub ([]) 0 0) (M.m GMod (eGMod M) a.mods))),sI a.price.mana.generic,sI a.price.mana.x,sI a.price.mana.color.a0,sI a.price.mana.color.a1,sI a.price.mana.color.a2,sI a.price.mana.color.a3,sI a.price.mana.color.a4,.sb a.price.tap,.sb a.price.sacrifice,sI a.price.life,.sb a.slow,sI a.trigger.when,sI a.trigger.who,sI a.trigger.filter.zone,sI a.trigger.filter.who,sI a.trigger.filter.self,sI a.trigger.filter.types,sI a.trigger.filter.notTypes,sI a.trigger.filter.colors,sI a.trigger.filter.notColors,.str a.trigger.filter.sub,sI a.trigger.filter.keys,sI a.trigger.filter.tap,sI a.trigger.filter.power.kind,sI a.trigger.filter.power.n,sI a.trigger.filter.tough.kind,sI a.trigger.filter.tough.n,sI a.trigger.filter.value.kind,sI a.trigger.filter.value.n,.sb a.may,.os 4 0 (S.lenN (S.app (S.sub ([]) 0 0) (M.m GSpec (eGSpec M) a.specs))),.os 5 0 (S.lenN (M.m GEffect (eGEffect M) s1.2)),sI a.replace.on,sI a.replace.who,sI a.replace.filter.zone,sI a.replace.filter.who,sI a.replace.filter.self,sI a.replace.filter.types,sI a.replace.filter.notTypes,sI a.replace.filter.colors,sI a.replace.filter.notColors,.str a.replace.filter.sub,sI a.replace.filter.keys,sI a.replace.filter.tap,sI a.replace.filter.power.kind,sI a.replace.filter.power.n,sI a.replace.filter.tough.kind,sI a.replace.filter.tough.n,sI a.replace.filter.value.kind,sI a.replace.filter.value.n,sI a.replace.doF,sI a.replace.n,sI a.replace.zone,sI a.replace.counter],aR 20 (S.app (S.sub ([]) 0 0) (M.m GMod (eGMod M) a.mods)),aR 18 (S.app (S.sub ([]) 0 0) (M.m GSpec (eGSpec M) a.specs)),aR 64 (M.m GEffect (eGEffect M) s1.2)]) hf ?_
 intro Ik2 k2 s1 hk2 hf e he; subst he
 unfold r28_ability_l1 at hf
 cbv
 refine d_B ?_ ?_
 ·intro hf; cbv
  refine d_I ?_
  intro x4 hf; cbv
  refine d_room hS hf d_e ?_
  intro hf; cbv
  refine d_room hS hf d_e ?_
  exact d_X
 exact d_R
theorem o11 {players:Int} {first:Int} {seed:Int} {r:GState} (hf:r26_New players first seed=some r):Pv.FnS Tryz.prog glF 11 [sI players,sI first,.si .u64 seed] [] 0 (fun u s n=>u=.agg [.os 0 0 (M.n GPlayer r.players),.os 1 0 (M.n GObject r.objects),.os 2 0 (M.n Int r.battlefield),.os 3 0 (M.n Int r.exile),.os 4 0 (M.n GItem r.stack),.os 5 0 (M.n GWaiting r.waiting),.os 6 0 (M.n GCont r.conts),sI r.turn,sI r.active,sI r.step,.sb r.begun,sI r.priority,sI r.passes,sI r.nextId,sI r.nextStamp,.si .u64 r.seed,.os 7 0 (M.n Int r.extra),sI r.over,sI r.winner]∧s=[(0,(aR 14 (M.m GPlayer (eGPlayer M) r.players))),(1,(aR 19 (M.m GObject (eGObject M) r.objects))),(2,(aR 1 (mI M r.battlefield))),(3,(aR 1 (mI M r.exile))),(4,(aR 94 (M.m GItem (eGItem M) r.stack))),(5,(aR 89 (M.m GWaiting (eGWaiting M) r.waiting))),(6,(aR 6 (M.m GCont (eGCont M) r.conts))),(7,(aR 1 (mI M r.extra)))]∧n=8):=by
 refine fnS_dec (T:=(tabx 0 [14] [[(14,true),(19,true),(1,true),(1,true),(94,true),(89,true),(6,true),(0,false),(0,false),(0,false),(0,false),(0,false),(0,false),(0,false),(0,false),(0,false),(1,true),(0,false),(0,false)]])) (tabxOK 0 [14] [[(14,true),(19,true),(1,true),(1,true),(94,true),(89,true),(6,true),(0,false),(0,false),(0,false),(0,false),(0,false),(0,false),(0,false),(0,false),(0,false),(1,true),(0,false),(0,false)]]) wf Tryz.func11 rfl Tryz.call11 rfl ?_
 intro S R hS hR
 have q:=sf hM hS
 unfold r26_New at hf
 cbv
 refine d_lp hS (tabxOK 0 [14] [[(14,true),(19,true),(1,true),(1,true),(94,true),(89,true),(6,true),(0,false),(0,false),(0,false),(0,false),(0,false),(0,false),(0,false),(0,false),(0,false),(1,true),(0,false),(0,false)]]) wf [.cO 1 0 14] [1,6,7,8,9] (fun s1=>f3 38 [(1,sI first),(6,.lv 0 0),(7,sI (S.smin (S.smax players 2) 4)),(8,.lv 1 0),(9,sI s1.1)] [vR [.sl 0 [] true,.sl 0 [] true,.sl 0 [] true,.sl 0 [] true,.sl 0 [] true,.sl 0 [] true,.sl 0 [] true,sI 0,sI 0,sI 0,.sb false,sI 0,sI 0,sI 0,sI 0,.si .u64 0,.sl 0 [] true,sI 0,sI 0],vR [.os 2 0 (S.lenN (M.m GPlayer (eGPlayer M) s1.2)),.sl 0 [] true,.sl 0 [] true,.sl 0 [] true,.sl 0 [] true,.sl 0 [] true,.sl 0 [] true,sI 0,sI 0,sI 0,.sb false,sI 0,sI 0,sI 1,sI 1,.si .u64 seed,.sl 0 [] true,sI 0,sI (-1)],aR 14 (M.m GPlayer (eGPlayer M) s1.2)]) hf ?_
 intro Ik2 k2 s1 hk2 hf e he; subst he
 unfold r26_New_l1 at hf
 cbv
 replace hf:=d_lt hf
 refine d_B ?_ ?_
 ·intro hf; cbv
  refine d_wk hS (e:=(eGPlayer M)) hf d_st ?_
  intro x5 hf; cbv
  refine d_room hS hf d_e ?_
  exact d_X
 intro hf; cbv
 refine d_cut hS [] [1,6,8,32] (fun s6=>f3 38 [(1,sI first),(6,.lv 0 0),(8,.lv 1 0),(32,.sb s6)] [vR [.sl 0 [] true,.sl 0 [] true,.sl 0 [] true,.sl 0 [] true,.sl 0 [] true,.sl 0 [] true,.sl 0 [] true,sI 0,sI 0,sI 0,.sb false,sI 0,sI 0,sI 0,sI 0,.si .u64 0,.sl 0 [] true,sI 0,sI 0],vR [.os 2 0 (S.lenN (M.m GPlayer (eGPlayer M) s1.2)),.sl 0 [] true,.sl 0 [] true,.sl 0 [] true,.sl 0 [] true,.sl 0 [] true,.sl 0 [] true,sI 0,sI 0,sI 0,.sb false,sI 0,sI 0,sI 1,sI 1,.si .u64 seed,.sl 0 [] true,sI 0,sI (-1)],aR 14 (M.m GPlayer (eGPlayer M) s1.2)]) hf ?_ ?_
 ·intro Ik7 k7 hk7 hf; cbv
  refine d_B ?_ ?_
  ·intro hf; cbv
   replace hf:=d_lt hf
   exact d_Xz
  exact d_X
 intro s6 hf; cbv
 refine d_br hS hf rfl ?_ ?_
 ·intro hf; cbv
  cases hf; exact hR _ _ _ d_st d_st rfl
 intro hf; cbv
 cases hf; exact hR _ _ _ d_st d_st rfl
theorem c157 {c:GCost} {r:Bool} (hf:r08_Is c=some r):Pv.Fn Tryz.prog glF 157 [.agg (eGCost M c)] (fun u=>u=.sb r):=by
 refine fn_D (tabcOK [2,8,12]) Tryz.func157 Tryz.call157 ?_
 intro S R hS hR
 have q:=sf hM hS
 unfold r08_Is at hf
 cbv
 refine d_cut hS [] [1,21] (fun s1=>f3 38 [(1,.lv 0 0),(21,.sb s1)] [vR (eGCost M c)]) hf ?_ ?_
 ·intro Ik2 k2 hk2 hf; cbv
  refine d_B ?_ ?_
  ·exact d_X
  intro hf; cbv
  refine d_B ?_ ?_
  ·exact d_X
  intro hf; cbv
  refine d_B ?_ ?_ <;> exact d_X
 intro s1 hf; cbv
 refine d_br hS hf rfl ?_ ?_
 ·exact d_R
 intro hf; cbv
 refine d_lp hS (tabcOK [2,8,12]) wf [] [1,3] (fun s4=>f3 38 [(1,.lv 0 0),(3,sI s4)] [vR (eGCost M c)]) hf ?_
 intro Ik5 k5 s4 hk5 hf e he; subst he
 unfold r08_Is_l1 at hf
 cbv
 refine l_seq hS ?_; cbv
 refine d_B ?_ ?_
 ·intro hf; cbv
  refine d_cut hS [] [1,3,37] (fun s7=>f3 38 [(1,.lv 0 0),(3,sI s4),(37,.sb s7)] [vR (eGCost M c)]) hf ?_ ?_
  ·intro Ik8 k8 hk8 hf; cbv
   obtain ⟨j10,hj10,ej10,hf⟩:=d_cases hf
   refine d_ixa hS rfl ⟨j10,hj10,ej10,?_⟩
   rcases lt5 hj10 with rfl | rfl | rfl | rfl | rfl
   ·cbv
    refine d_B ?_ ?_
    ·exact d_X
    intro hf; cbv
    obtain ⟨j11,hj11,ej11,hf⟩:=d_cases hf
    refine d_ixa hS rfl ⟨j11,hj11,ej11,?_⟩
    rcases lt5 hj11 with rfl | rfl | rfl | rfl | rfl
    ·cbv
     exact d_Xz
    ·cbv
     exact d_Xz
    ·cbv
     exact d_Xz
    ·cbv
     exact d_Xz
    cbv
    exact d_Xz
   ·cbv
    refine d_B ?_ ?_
    ·exact d_X
    intro hf; cbv
    obtain ⟨j12,hj12,ej12,hf⟩:=d_cases hf
    refine d_ixa hS rfl ⟨j12,hj12,ej12,?_⟩
    rcases lt5 hj12 with rfl | rfl | rfl | rfl | rfl
    ·cbv
     exact d_Xz
    ·cbv
     exact d_Xz
    ·cbv
     exact d_Xz
    ·cbv
     exact d_Xz
    cbv
    exact d_Xz
   ·cbv
    refine d_B ?_ ?_
    ·exact d_X
    intro hf; cbv
    obtain ⟨j13,hj13,ej13,hf⟩:=d_cases hf
    refine d_ixa hS rfl ⟨j13,hj13,ej13,?_⟩
    rcases lt5 hj13 with rfl | rfl | rfl | rfl | rfl
    ·cbv
     exact d_Xz
    ·cbv
     exact d_Xz
    ·cbv
     exact d_Xz
    ·cbv
     exact d_Xz
    cbv
    exact d_Xz
   ·cbv
    refine d_B ?_ ?_
    ·exact d_X
    intro hf; cbv
    obtain ⟨j14,hj14,ej14,hf⟩:=d_cases hf
    refine d_ixa hS rfl ⟨j14,hj14,ej14,?_⟩
    rcases lt5 hj14 with rfl | rfl | rfl | rfl | rfl
    ·cbv
     exact d_Xz
    ·cbv
     exact d_Xz
    ·cbv
     exact d_Xz
    ·cbv
     exact d_Xz
    cbv
    exact d_Xz
   cbv
   refine d_B ?_ ?_
   ·exact d_X
   intro hf; cbv
   obtain ⟨j15,hj15,ej15,hf⟩:=d_cases hf
   refine d_ixa hS rfl ⟨j15,hj15,ej15,?_⟩
   rcases lt5 hj15 with rfl | rfl | rfl | rfl | rfl
   ·cbv
    exact d_Xz
   ·cbv
    exact d_Xz
   ·cbv
    exact d_Xz
   ·cbv
    exact d_Xz
   cbv
   exact d_Xz
  intro s7 hf; cbv
  refine d_br hS hf rfl ?_ ?_
  ·exact d_R
  exact d_X
 exact d_R
theorem c219 {a:Int} {b:Int} {most:Int} {r:Bool} (hf:r13_apart a b most=some r):Pv.Fn Tryz.prog glF 219 [sI a,sI b,sI most] (fun u=>u=.sb r):=by
 refine fn_D (tabcOK [2,8,12]) Tryz.func219 Tryz.call219 ?_
 intro S R hS hR
 have q:=sf hM hS
 unfold r13_apart at hf
 cbv
 refine d_cut hS [] [0,1,23] (fun s1=>f3 40 [(0,sI a),(1,sI b),(23,.sb s1)] []) hf ?_ ?_
 ·intro Ik2 k2 hk2 hf; cbv
  refine d_B ?_ ?_
  ·exact d_X
  intro hf; cbv
  refine d_B ?_ ?_
  ·exact d_X
  intro hf; cbv
  refine d_B ?_ ?_ <;> exact d_X
 intro s1 hf; cbv
 refine d_br hS hf rfl ?_ ?_
 ·exact d_R
 intro hf; cbv
 refine d_lp hS (tabcOK [2,8,12]) wf [] [0,1,7] (fun s4=>f3 40 [(0,sI s4.1),(1,sI s4.2.1),(7,sI s4.2.2)] []) hf ?_
 intro Ik5 k5 s4 hk5 hf e he; subst he
 unfold r13_apart_l1 at hf
 cbv
 refine l_seq hS ?_; cbv
 refine d_B ?_ ?_
 ·intro hf; cbv
  refine d_cut hS [] [0,1,7,35] (fun s7=>f3 40 [(0,sI s4.1),(1,sI s4.2.1),(7,sI s4.2.2),(35,.sb s7)] []) hf ?_ ?_
  ·intro Ik8 k8 hk8 hf; cbv
   refine d_div hS hf rfl rfl ?_
   intro x10 hf; cbv
   refine d_B ?_ ?_
   ·intro hf; cbv
    refine d_div hS hf rfl rfl ?_
    exact d_Xy
   exact d_X
  intro s7 hf; cbv
  refine d_br hS hf rfl ?_ ?_
  ·exact d_R
  intro hf; cbv
  refine d_div hS hf rfl rfl ?_
  intro x12 hf; cbv
  refine d_div hS hf rfl rfl ?_
  exact d_Xy
 exact d_R
theorem c61 {kind:Int} {r:Int} (hf:r15_Stage kind=some r):Pv.Fn Tryz.prog glF 61 [sI kind] (fun u=>u=sI r):=by
 refine fn_D tabOK Tryz.func61 Tryz.call61 ?_
 intro S R hS hR
 have q:=sf hM hS
 unfold r15_Stage at hf
 cbv
 refine d_B ?_ ?_
 ·exact d_R
 intro hf; cbv
 refine d_B ?_ ?_
 ·exact d_R
 intro hf; cbv
 refine d_B ?_ ?_
 ·exact d_R
 intro hf; cbv
 refine d_B ?_ ?_
 ·exact d_R
 intro hf; cbv
 refine d_B ?_ ?_
 ·exact d_R
 intro hf; cbv
 refine d_B ?_ ?_
 ·exact d_R
 intro hf; cbv
 refine d_B ?_ ?_
 ·exact d_R
 intro hf; cbv
 refine d_B ?_ ?_
 ·exact d_R
 intro hf; cbv
 refine d_B ?_ ?_
 ·exact d_R
 intro hf; cbv
 refine d_B ?_ ?_
 ·exact d_R
 intro hf; cbv
 refine d_B ?_ ?_
 ·exact d_R
 intro hf; cbv
 refine d_B ?_ ?_
 ·exact d_R
 intro hf; cbv
 refine d_B ?_ ?_
 ·exact d_R
 intro hf; cbv
 refine d_B ?_ ?_ <;> exact d_R
theorem c33 {l:List Int} {n:Int} {r:List Int} (hf:r03_Without l n=some r):Pv.Fn Tryz.prog glF 33 [.sl 1 (mI M l) false,sI n] (fun u=>u=.sl 1 (mI M r) false):=by
 refine fn_D (tabcOK [9]) Tryz.func33 Tryz.call33 ?_
 intro S R hS hR
 have q:=sf hM hS
 unfold r03_Without at hf
 cbv
 refine d_lp hS (tabcOK [9]) wf [.tO 5 1] [0,1,5,6] (fun s1=>f3 27 [(0,.sl 1 (mI M l) false),(1,sI n),(5,.os 0 0 (S.lenN (mI M s1.2))),(6,sI s1.1)] [aR 1 (mI M s1.2)]) hf ?_
 intro Ik2 k2 s1 hk2 hf e he; subst he
 unfold r03_Without_l1 at hf
 cbv
 refine d_B ?_ ?_
 ·intro hf; cbv
  refine d_cut hS [.tO 5 1] [0,1,5,6] (fun s4=>f3 27 [(0,.sl 1 (mI M l) false),(1,sI n),(5,.os 0 0 (S.lenN (mI M s4))),(6,sI s1.1)] [aR 1 (mI M s4)]) hf ?_ ?_
  ·intro Ik5 k5 hk5 hf; cbv
   refine d_I ?_
   intro x7 hf; cbv
   refine d_B ?_ ?_
   ·intro hf; cbv
    refine d_I ?_
    intro x8 hf; cbv
    refine d_room hS hf d_e ?_
    exact d_X
   exact d_X
  intro s4 hf; cbv
  exact d_Xz
 exact d_R
theorem c225 {m:GMod} {r:GMod} (hf:r15_used m=some r):Pv.Fn Tryz.prog glF 225 [.agg (eGMod M m)] (fun u=>u=.agg (eGMod M r)):=by
 refine fn_D tabOK Tryz.func225 Tryz.call225 ?_
 intro S R hS hR
 have q:=sf hM hS
 unfold r15_used at hf
 cbv
 refine d_B ?_ ?_
 ·exact d_R
 intro hf; cbv
 refine d_B ?_ ?_
 ·exact d_R
 intro hf; cbv
 refine d_B ?_ ?_
 ·exact d_R
 intro hf; cbv
 refine d_B ?_ ?_
 ·exact d_R
 intro hf; cbv
 refine d_B ?_ ?_
 ·exact d_R
 intro hf; cbv
 refine d_B ?_ ?_
 ·exact d_R
 intro hf; cbv
 refine d_B ?_ ?_
 ·exact d_R
 intro hf; cbv
 refine d_B ?_ ?_
 ·exact d_R
 intro hf; cbv
 refine d_B ?_ ?_
 ·exact d_R
 intro hf; cbv
 refine d_B ?_ ?_
 ·exact d_R
 intro hf; cbv
 refine d_B ?_ ?_ <;> exact d_R
theorem c105 {a:List Int} {b:List Int} {r:Bool} (hf:r03_Same a b=some r):Pv.Fn Tryz.prog glF 105 [.sl 1 (mI M a) false,.sl 1 (mI M b) false] (fun u=>u=.sb r):=by
 refine fn_D tabOK Tryz.func105 Tryz.call105 ?_
 intro S R hS hR
 have q:=sf hM hS
 unfold r03_Same at hf
 cbv
 refine d_B ?_ ?_
 ·exact d_R
 intro hf; cbv
 refine d_lp hS tabOK wf [] [0,1,5] (fun s1=>f3 26 [(0,.sl 1 (mI M a) false),(1,.sl 1 (mI M b) false),(5,sI s1)] []) hf ?_
 intro Ik2 k2 s1 hk2 hf e he; subst he
 unfold r03_Same_l1 at hf
 cbv
 refine d_B ?_ ?_
 ·intro hf; cbv
  refine d_o hS ?_; cbv
  refine d_I ?_
  intro x4 hf; cbv
  refine d_I ?_
  intro x5 hf; cbv
  refine d_B ?_ ?_
  ·exact d_R
  exact d_X
 exact d_R
theorem c36 {s:List GOption} {v:GOption} {r:Int} (hf:slices_Index_option s v=some r):Pv.Fn Tryz.prog glF 36 [.sl 3 (M.m GOption (eGOption M) s) false,.agg (eGOption M v)] (fun u=>u=sI r):=by
 refine fn_D tabOK Tryz.func36 Tryz.call36 ?_
 intro S R hS hR
 have q:=sf hM hS
 unfold slices_Index_option at hf
 cbv
 refine d_lp hS tabOK wf [] [0,3,7,8] (fun s1=>f3 19 [(0,.sl 3 (M.m GOption (eGOption M) s) false),(3,.lv 0 0),(7,sI (S.len (M.m GOption (eGOption M) s))),(8,sI s1)] [vR (eGOption M v)]) hf ?_
 intro Ik2 k2 s1 hk2 hf e he; subst he
 unfold slices_Index_option_l1 at hf
 cbv
 refine d_B ?_ ?_
 ·intro hf; cbv
  refine d_o hS ?_; cbv
  refine d_I ?_
  intro x4 hf; cbv
  replace hf:=d_lt hf
  refine d_B ?_ ?_
  ·exact d_R
  exact d_X
 exact d_R
theorem c221 {b:GBound} {r:Bool} (hf:r13_bound b=some r):Pv.Fn Tryz.prog glF 221 [.agg (eGBound M b)] (fun u=>u=.sb r):=by
 refine fn_D (tabcOK [2]) Tryz.func221 Tryz.call221 ?_
 intro S R hS hR
 have q:=sf hM hS
 unfold r13_bound at hf
 cbv
 refine d_cut hS [] [1,20] (fun s1=>f3 29 [(1,.lv 0 0),(20,.sb s1)] [vR (eGBound M b)]) hf ?_ ?_
 ·intro Ik2 k2 hk2 hf; cbv
  refine d_B ?_ ?_
  ·exact d_X
  intro hf; cbv
  refine d_B ?_ ?_
  ·exact d_X
  intro hf; cbv
  refine d_B ?_ ?_ <;> exact d_X
 intro s1 hf; cbv
 refine d_br hS hf rfl ?_ ?_
 ·exact d_R
 intro hf; cbv
 refine d_B ?_ ?_ <;> exact d_R
theorem c222 {l:List ByteArray} {s:ByteArray} {r:Int} (hf:r10_index l s=some r):Pv.Fn Tryz.prog glF 222 [.sl 1 (M.m ByteArray eS l) false,.str s] (fun u=>u=sI r):=by
 refine fn_D tabOK Tryz.func222 Tryz.call222 ?_
 intro S R hS hR
 have q:=sf hM hS
 unfold r10_index at hf
 cbv
 refine d_lp hS tabOK wf [] [0,1,5] (fun s1=>f3 19 [(0,.sl 1 (M.m ByteArray eS l) false),(1,.str s),(5,sI s1)] []) hf ?_
 intro Ik2 k2 s1 hk2 hf e he; subst he
 unfold r10_index_l1 at hf
 cbv
 refine d_B ?_ ?_
 ·intro hf; cbv
  refine d_I ?_
  intro x4 hf; cbv
  refine d_B ?_ ?_
  ·exact d_R
  exact d_X
 exact d_R
theorem c111 {l:List Int} {n:Int} {r:Int} (hf:r03_Index l n=some r):Pv.Fn Tryz.prog glF 111 [.sl 1 (mI M l) false,sI n] (fun u=>u=sI r):=by
 refine fn_D tabOK Tryz.func111 Tryz.call111 ?_
 intro S R hS hR
 have q:=sf hM hS
 unfold r03_Index at hf
 cbv
 refine d_lp hS tabOK wf [] [0,1,5] (fun s1=>f3 19 [(0,.sl 1 (mI M l) false),(1,sI n),(5,sI s1)] []) hf ?_
 intro Ik2 k2 s1 hk2 hf e he; subst he
 unfold r03_Index_l1 at hf
 cbv
 refine d_B ?_ ?_
 ·intro hf; cbv
  refine d_I ?_
  intro x4 hf; cbv
  refine d_B ?_ ?_
  ·exact d_R
  exact d_X
 exact d_R
theorem c108 {s:GState} {id:Int} {r:Int} (hf:r30_place s id=some r):Pv.Fn Tryz.prog glF 108 [.agg (eGState M s),sI id] (fun u=>u=sI r):=by
 refine fn_D tabOK Tryz.func108 Tryz.call108 ?_
 intro S R hS hR
 have q:=sf hM hS
 unfold r30_place at hf
 cbv
 refine d_lp hS tabOK wf [] [1,2,5] (fun s1=>f3 22 [(1,sI id),(2,.lv 0 0),(5,sI s1)] [vR (eGState M s)]) hf ?_
 intro Ik2 k2 s1 hk2 hf e he; subst he
 unfold r30_place_l1 at hf
 cbv
 refine d_B ?_ ?_
 ·intro hf; cbv
  refine d_I ?_
  intro x4 hf; cbv
  refine d_B ?_ ?_
  ·exact d_R
  exact d_X
 exact d_R
theorem c160 {l:List Int} {i:Int} {r:Bool} (hf:r07_has l i=some r):Pv.Fn Tryz.prog glF 160 [.sl 1 (mI M l) false,sI i] (fun u=>u=.sb r):=by
 refine fn_D tabOK Tryz.func160 Tryz.call160 ?_
 intro S R hS hR
 have q:=sf hM hS
 unfold r07_has at hf
 cbv
 refine d_lp hS tabOK wf [] [0,1,5] (fun s1=>f3 18 [(0,.sl 1 (mI M l) false),(1,sI i),(5,sI s1)] []) hf ?_
 intro Ik2 k2 s1 hk2 hf e he; subst he
 unfold r07_has_l1 at hf
 cbv
 refine d_B ?_ ?_
 ·intro hf; cbv
  refine d_I ?_
  intro x4 hf; cbv
  refine d_B ?_ ?_
  ·exact d_R
  exact d_X
 exact d_R
theorem c159 {needs:List (List Bool)} {i:Int} {j:Int} {r:Bool} (hf:r07_need needs i j=some r):Pv.Fn Tryz.prog glF 159 [.sl 1 (M.m (List Bool) (eL M 1 eB) needs) false,sI i,sI j] (fun u=>u=.sb r):=by
 refine fn_D tabOK Tryz.func159 Tryz.call159 ?_
 intro S R hS hR
 have q:=sf hM hS
 unfold r07_need at hf
 cbv
 refine d_B ?_ ?_
 ·intro hf; cbv
  refine d_I ?_
  intro x1 hf; cbv
  refine d_B ?_ ?_
  ·intro hf; cbv
   refine d_I ?_
   intro x2 hf; cbv
   refine d_I ?_
   exact d_Ry
  exact d_R
 exact d_R
theorem c223 {b:GBound} {n:Int} {r:Bool} (hf:r01_Meets b n=some r):Pv.Fn Tryz.prog glF 223 [.agg (eGBound M b),sI n] (fun u=>u=.sb r):=by
 refine fn_D tabOK Tryz.func223 Tryz.call223 ?_
 intro S R hS hR
 have q:=sf hM hS
 unfold r01_Meets at hf
 cbv
 refine d_B ?_ ?_
 ·exact d_R
 intro hf; cbv
 refine d_B ?_ ?_
 ·exact d_R
 intro hf; cbv
 refine d_B ?_ ?_
 ·exact d_R
 intro hf; cbv
 refine d_B ?_ ?_ <;> exact d_R
theorem c170 {all:List GTraits} {i:Int} {r:GTraits} (hf:r29_At all i=some r):Pv.Fn Tryz.prog glF 170 [.sl 17 (M.m GTraits (eGTraits M) all) false,sI i] (fun u=>u=.agg (eGTraits M r)):=by
 refine fn_D tabOK Tryz.func170 Tryz.call170 ?_
 intro S R hS hR
 have q:=sf hM hS
 unfold r29_At at hf
 cbv
 refine d_B ?_ ?_
 ·intro hf; cbv
  cases hf; exact hR _ d_st
 intro hf; cbv
 refine d_B ?_ ?_
 ·intro hf; cbv
  cases hf; exact hR _ d_st
 intro hf; cbv
 refine d_I ?_
 exact d_Ry
theorem c163 {control:Int} {you:Int} {w:Int} {r:Bool} (hf:r29_who control you w=some r):Pv.Fn Tryz.prog glF 163 [sI control,sI you,sI w] (fun u=>u=.sb r):=by
 refine fn_D tabOK Tryz.func163 Tryz.call163 ?_
 intro S R hS hR
 have q:=sf hM hS
 unfold r29_who at hf
 cbv
 refine d_B ?_ ?_
 ·exact d_R
 intro hf; cbv
 refine d_B ?_ ?_ <;> exact d_R
theorem c164 {id:Int} {source:Int} {w:Int} {r:Bool} (hf:r29_self id source w=some r):Pv.Fn Tryz.prog glF 164 [sI id,sI source,sI w] (fun u=>u=.sb r):=by
 refine fn_D tabOK Tryz.func164 Tryz.call164 ?_
 intro S R hS hR
 have q:=sf hM hS
 unfold r29_self at hf
 cbv
 refine d_B ?_ ?_
 ·exact d_R
 intro hf; cbv
 refine d_B ?_ ?_ <;> exact d_R
theorem c14 {all:List GTraits} {i:Int} {r:GTraits} (hf:block_traits all i=some r):Pv.Fn Tryz.prog glF 14 [.sl 17 (M.m GTraits (eGTraits M) all) false,sI i] (fun u=>u=.agg (eGTraits M r)):=by
 refine fn_D tabOK Tryz.func14 Tryz.call14 ?_
 intro S R hS hR
 have q:=sf hM hS
 unfold block_traits at hf
 cbv
 refine d_B ?_ ?_
 ·intro hf; cbv
  refine d_I ?_
  exact d_Ry
 intro hf; cbv
 cases hf; exact hR _ d_st
end
end Go.Proofs.YthfepelpmalckaaGreat
