import Derived.Test.YthfepelpmalckaaGreatDoorD16
set_option linter.all false
namespace Go.Proofs.YthfepelpmalckaaGreatDoor
open Go Go.Pv
set_option maxRecDepth 100000
set_option maxHeartbeats 2000000
section
variable {M:EncM} (hM:M=mapE)
include hM
theorem c7 {k:GAskAsker} {cards:List GCard} {s:GState} {ctx:GContext} {l:List GEffect} {r:GState} (hf:resolve_Effects k cards s ctx l=some r):Pv.Fn Tryz.prog glF 7 [.pp (eGAskAsker M k),.sl 17 (M.m GCard (eGCard M) cards) false,.agg (eGState M s),.agg (eGContext M ctx),.sl 64 (M.m GEffect (eGEffect M) l) false] (fun u=>u=.agg (eGState M r)):=by
 refine fn_D tabOK Tryz.func7 Tryz.call7 ?_
 intro S R hS hR
 have q:=sf hM hS
 unfold resolve_Effects at hf
 cbv
 refine d_o hS ?_; cbv
 refine d_c hS hf (fun _=>c15 hM) ?_
 intro y1 hf; cbv
 refine d_lp hS tabOK wf [] [1,8,10,11,21,22,23] (fun s2=>f3 109 [(1,.sl 17 (M.m GCard (eGCard M) cards) false),(8,.lv 0 0),(10,.lv 1 0),(11,.lv 2 0),(21,.sl 64 (M.m GEffect (eGEffect M) l) false),(22,sI (S.len (M.m GEffect (eGEffect M) l))),(23,sI 0)] [vR (eGContext M ctx),vR [.sl 0 [] true,.sl 0 [] true,.sl 0 [] true,.sl 0 [] true,.sl 0 [] true,.sl 0 [] true,.sl 0 [] true,sI 0,sI 0,sI 0,.sb false,sI 0,sI 0,sI 0,sI 0,.si .u64 0,.sl 0 [] true,sI 0,sI 0],vR [.pp (eGAskAsker M k),.sl 17 (M.m GCard (eGCard M) cards) false,.sl 14 (M.m GPlayer (eGPlayer M) y1.players) false,.sl 19 (M.m GObject (eGObject M) y1.objects) false,.sl 1 (mI M y1.battlefield) false,.sl 1 (mI M y1.exile) false,.sl 94 (M.m GItem (eGItem M) y1.stack) false,.sl 89 (M.m GWaiting (eGWaiting M) y1.waiting) false,.sl 6 (M.m GCont (eGCont M) y1.conts) false,sI y1.turn,sI y1.active,sI y1.step,.sb y1.begun,sI y1.priority,sI y1.passes,sI y1.nextId,sI y1.nextStamp,.si .u64 y1.seed,.sl 1 (mI M y1.extra) false,sI y1.over,sI y1.winner,sI ctx.you,sI ctx.source,sI ctx.x,.sl 2 (M.m GTarget (eGTarget M) ctx.targets) false,sI ctx.event.kind,sI ctx.event.source,sI ctx.event.object,sI ctx.event.player,sI ctx.event.amount,sI ctx.event.fromF,sI ctx.event.to,sI ctx.event.cause,sI ctx.event.counter,sI ctx.event.card,.sb ctx.event.combat,.sb ctx.event.tapped,sI ctx.event.extra.a0,sI ctx.event.extra.a1,sI ctx.event.extra.a2,sI 0,sI 0,sI 0,sI 0,sI 0,sI 0,sI 0,sI 0,sI 0,sI 0,.str (bs []),sI 0,sI 0,sI 0,sI 0,sI 0,sI 0,sI 0,sI 0,sI 0,sI 0,sI 0,sI 0,sI 0,sI 0,sI 0,sI 0,sI 0,sI 0,.str (bs []),sI 0,sI 0,sI 0,sI 0,sI 0,sI 0,sI 0,sI 0,sI 0,sI 0,.str (bs []),sI 0,sI 0,sI 0,sI 0,sI 0,sI 0,sI 0,.str (bs []),sI 0,sI 0,sI 0,sI 0,sI 0,sI 0,sI 0,sI 0,sI 0,sI 0,sI 0,sI 0,sI 0,sI 0,.sl 0 [] true,.sl 0 [] true,sI 0,.sl 0 [] true,.sl 0 [] true]]) hf ?_
 intro Ik3 k3 s2 hk3 hf e he; subst he
 unfold resolve_Effects_l1 at hf
 cbv
 refine d_B ?_ ?_
 ·intro hf; cbv
  refine d_I ?_
  intro x5 hf; cbv
  refine d_B ?_ ?_
  ·exact d_R
  intro hf; cbv
  refine d_o hS ?_; cbv
  cases hf
 exact d_R
theorem c166 {f:GFilter} {r:Bool} (hf:r13_Is f=some r):Pv.Fn Tryz.prog glF 166 [.agg (eGFilter M f)] (fun u=>u=.sb r):=by
 refine fn_D (tabcOK [2,6,10]) Tryz.func166 Tryz.call166 ?_
 intro S R hS hR
 have q:=sf hM hS
 unfold r13_Is at hf
 cbv
 refine d_cut hS [] [1,40] (fun s1=>f3 87 [(1,.lv 0 0),(40,.sb s1)] [vR (eGFilter M f)]) hf ?_ ?_
 ·intro Ik2 k2 hk2 hf; cbv
  refine d_B ?_ ?_
  ·exact d_X
  intro hf; cbv
  refine d_B ?_ ?_
  ·exact d_X
  intro hf; cbv
  refine d_B ?_ ?_
  ·exact d_X
  intro hf; cbv
  refine d_B ?_ ?_
  ·exact d_X
  intro hf; cbv
  refine d_B ?_ ?_
  ·exact d_X
  intro hf; cbv
  refine d_B ?_ ?_
  ·exact d_X
  intro hf; cbv
  refine d_B ?_ ?_ <;> exact d_X
 intro s1 hf; cbv
 refine d_br hS hf rfl ?_ ?_
 ·exact d_R
 intro hf; cbv
 refine d_cut hS [] [1,54] (fun s4=>f3 87 [(1,.lv 0 0),(54,.sb s4)] [vR (eGFilter M f)]) hf ?_ ?_
 ·intro Ik5 k5 hk5 hf; cbv
  refine d_p hS hf (fun _=>c231 hM) ?_
  intro y7 hf; cbv
  refine d_B ?_ ?_
  ·exact d_X
  intro hf; cbv
  refine d_p hS hf (fun _=>c231 hM) ?_
  exact d_Xy
 intro s4 hf; cbv
 refine d_br hS hf rfl ?_ ?_
 ·exact d_R
 intro hf; cbv
 refine d_cut hS [] [1,73] (fun s9=>f3 87 [(1,.lv 0 0),(73,.sb s9)] [vR (eGFilter M f)]) hf ?_ ?_
 ·intro Ik10 k10 hk10 hf; cbv
  refine d_B ?_ ?_
  ·intro hf; cbv
   refine d_p hS hf (fun _=>c164 hM) ?_
   intro y12 hf; cbv
   refine d_B ?_ ?_
   ·exact d_X
   intro hf; cbv
   refine d_B ?_ ?_ <;> exact d_X
  intro hf; cbv
  refine d_B ?_ ?_ <;> exact d_X
 intro s9 hf; cbv
 refine d_br hS hf rfl ?_ ?_
 ·exact d_R
 intro hf; cbv
 refine d_p hS hf (fun _=>c232 hM) ?_
 intro y13 hf; cbv
 refine d_br hS hf rfl ?_ ?_
 ·intro hf; cbv
  refine d_p hS hf (fun _=>c232 hM) ?_
  intro y14 hf; cbv
  refine d_br hS hf rfl ?_ ?_
  ·intro hf; cbv
   refine d_p hS hf (fun _=>c232 hM) ?_
   exact d_Ry
  exact d_R
 exact d_R
theorem c105 {l:GLine} {r:Bool} (hf:r10_Is l=some r):Pv.Fn Tryz.prog glF 105 [.agg (eGLine M l)] (fun u=>u=.sb r):=by
 refine fn_D (tabcOK [2,12]) Tryz.func105 Tryz.call105 ?_
 intro S R hS hR
 have q:=sf hM hS
 unfold r10_Is at hf
 cbv
 refine d_cut hS [] [1,27] (fun s1=>f3 80 [(1,.lv 0 0),(27,.sb s1)] [vR (eGLine M l)]) hf ?_ ?_
 ·intro Ik2 k2 hk2 hf; cbv
  refine d_B ?_ ?_
  ·exact d_X
  intro hf; cbv
  refine d_B ?_ ?_
  ·exact d_X
  intro hf; cbv
  refine d_B ?_ ?_
  ·exact d_X
  intro hf; cbv
  refine d_B ?_ ?_ <;> exact d_X
 intro s1 hf; cbv
 refine d_br hS hf rfl ?_ ?_
 ·exact d_R
 intro hf; cbv
 refine d_lp hS (tabcOK [2,12]) wf [] [1,3] (fun s4=>f3 80 [(1,.lv 0 0),(3,sI s4)] [vR (eGLine M l)]) hf ?_
 intro Ik5 k5 s4 hk5 hf e he; subst he
 unfold r10_Is_l1 at hf
 cbv
 refine d_B ?_ ?_
 ·intro hf; cbv
  refine d_cut hS [] [1,3,59] (fun s7=>f3 80 [(1,.lv 0 0),(3,sI s4),(59,.sb s7)] [vR (eGLine M l)]) hf ?_ ?_
  ·intro Ik8 k8 hk8 hf; cbv
   refine d_o hS ?_; cbv
   refine d_I ?_
   intro x10 hf; cbv
   refine d_c hS hf (fun _=>c164 hM) ?_
   intro y11 hf; cbv
   refine d_B ?_ ?_
   ·exact d_X
   intro hf; cbv
   refine d_B ?_ ?_
   ·intro hf; cbv
    refine d_idx hS hM hf rfl d_e ?_
    intro x12 hf; cbv
    refine d_I ?_
    exact d_Xy
   exact d_X
  intro s7 hf; cbv
  refine d_br hS hf rfl ?_ ?_
  ·exact d_R
  exact d_X
 intro hf; cbv
 refine d_B ?_ ?_
 ·exact d_R
 intro hf; cbv
 refine d_B ?_ ?_
 ·exact d_R
 intro hf; cbv
 refine d_p hS hf (fun _=>c165 hM) ?_
 intro y14 hf; cbv
 refine d_B ?_ ?_
 ·intro hf; cbv
  refine d_p hS hf (fun _=>c165 hM) ?_
  exact d_Ry
 exact d_R
theorem c161 {a:GAbility} {b:GAbility} {r:Bool} (hf:r20_Same a b=some r):Pv.Fn Tryz.prog glF 161 [.agg (eGAbility M a),.agg (eGAbility M b)] (fun u=>u=.sb r):=by
 refine fn_D tabOK Tryz.func161 Tryz.call161 ?_
 intro S R hS hR
 have q:=sf hM hS
 unfold r20_Same at hf
 cbv
 refine d_B ?_ ?_
 ·exact d_R
 intro hf; cbv
 refine d_lp hS tabOK wf [] [2,3,5] (fun s1=>f3 92 [(2,.lv 0 0),(3,.lv 1 0),(5,sI s1)] [vR (eGAbility M a),vR (eGAbility M b)]) hf ?_
 intro Ik2 k2 s1 hk2 hf e he; subst he
 unfold r20_Same_l1 at hf
 cbv
 refine d_B ?_ ?_
 ·intro hf; cbv
  refine d_o hS ?_; cbv
  refine d_I ?_
  intro x4 hf; cbv
  refine d_I ?_
  intro x5 hf; cbv
  replace hf:=d_lt hf
  refine d_B ?_ ?_
  ·exact d_R
  exact d_X
 intro hf; cbv
 refine d_B ?_ ?_
 ·intro hf; cbv
  replace hf:=d_lt hf
  refine d_B ?_ ?_
  ·intro hf; cbv
   refine d_p hS hf (fun _=>c226 hM) ?_
   intro y8 hf; cbv
   refine d_br hS hf rfl ?_ ?_
   ·intro hf; cbv
    replace hf:=d_lt hf
    refine d_B ?_ ?_
    ·intro hf; cbv
     refine d_B ?_ ?_
     ·intro hf; cbv
      replace hf:=d_lt hf
      refine d_B ?_ ?_
      ·intro hf; cbv
       refine d_B ?_ ?_
       ·intro hf; cbv
        refine d_p hS hf (fun _=>c227 hM) ?_
        intro y11 hf; cbv
        refine d_br hS hf rfl ?_ ?_
        ·intro hf; cbv
         replace hf:=d_lt hf
         exact d_Rz
        exact d_R
       exact d_R
      exact d_R
     exact d_R
    exact d_R
   exact d_R
  exact d_R
 exact d_R
theorem c112 {s:GState} {l:List Int} {zone:Int} {owner:Int} {r:Bool} (hf:r26_list s l zone owner=some r):Pv.Fn Tryz.prog glF 112 [.agg (eGState M s),.sl 1 (mI M l) false,sI zone,sI owner] (fun u=>u=.sb r):=by
 refine fn_D (tabcOK [10]) Tryz.func112 Tryz.call112 ?_
 intro S R hS hR
 have q:=sf hM hS
 unfold r26_list at hf
 cbv
 refine d_lp hS (tabcOK [10]) wf [] [1,2,3,4,9] (fun s1=>f3 54 [(1,.sl 1 (mI M l) false),(2,sI zone),(3,sI owner),(4,.lv 0 0),(9,sI s1)] [vR (eGState M s)]) hf ?_
 intro Ik2 k2 s1 hk2 hf e he; subst he
 unfold r26_list_l1 at hf
 cbv
 refine d_B ?_ ?_
 ·intro hf; cbv
  refine d_o hS ?_; cbv
  refine d_I ?_
  intro x4 hf; cbv
  refine d_c hS hf (fun _=>c172 hM) ?_
  intro y5 hf; cbv
  refine d_cut hS [] [1,2,3,4,9,53] (fun s6=>f3 54 [(1,.sl 1 (mI M l) false),(2,sI zone),(3,sI owner),(4,.lv 0 0),(9,sI s1),(53,.sb s6)] [vR (eGState M s)]) hf ?_ ?_
  ·intro Ik7 k7 hk7 hf; cbv
   refine d_B ?_ ?_
   ·exact d_X
   intro hf; cbv
   refine d_B ?_ ?_
   ·exact d_X
   intro hf; cbv
   refine d_B ?_ ?_
   ·intro hf; cbv
    refine d_B ?_ ?_
    ·exact d_X
    intro hf; cbv
    refine d_I ?_
    intro x9 hf; cbv
    refine d_p hS hf (fun _=>c173 hM) ?_
    exact d_Xy
   intro hf; cbv
   refine d_I ?_
   intro x11 hf; cbv
   refine d_p hS hf (fun _=>c173 hM) ?_
   exact d_Xy
  intro s6 hf; cbv
  refine d_br hS hf rfl ?_ ?_
  ·exact d_R
  exact d_X
 exact d_R
theorem c35 {cards:List GCard} {s:GState} {r:Bool} (hf:r26_objects cards s=some r):Pv.Fn Tryz.prog glF 35 [.sl 17 (M.m GCard (eGCard M) cards) false,.agg (eGState M s)] (fun u=>u=.sb r):=by
 refine fn_D (tabcOK [14]) Tryz.func35 Tryz.call35 ?_
 intro S R hS hR
 have q:=sf hM hS
 unfold r26_objects at hf
 cbv
 refine d_B ?_ ?_
 ·exact d_R
 intro hf; cbv
 refine d_lp hS (tabcOK [14]) wf [] [0,3,5] (fun s1=>f3 65 [(0,.sl 17 (M.m GCard (eGCard M) cards) false),(3,.lv 0 0),(5,sI s1)] [vR (eGState M s)]) hf ?_
 intro Ik2 k2 s1 hk2 hf e he; subst he
 unfold r26_objects_l1 at hf
 cbv
 refine d_B ?_ ?_
 ·intro hf; cbv
  refine d_I ?_
  intro x4 hf; cbv
  refine d_cut hS [] [0,3,5,6,60] (fun s5=>f3 65 [(0,.sl 17 (M.m GCard (eGCard M) cards) false),(3,.lv 0 0),(5,sI s1),(6,.lv 1 0),(60,.sb s5)] [vR (eGState M s),vR (eGObject M x4)]) hf ?_ ?_
  ·intro Ik6 k6 hk6 hf; cbv
   refine d_o hS ?_; cbv
   refine d_call hS hf (fun _=>c113 hM) d_le ?_
   intro y8 hf; cbv
   refine d_B ?_ ?_
   ·exact d_X
   intro hf; cbv
   refine d_B ?_ ?_
   ·exact d_X
   intro hf; cbv
   refine d_B ?_ ?_
   ·exact d_X
   intro hf; cbv
   refine d_B ?_ ?_
   ·intro hf; cbv
    refine d_idx hS hM hf rfl d_e ?_
    exact d_Xy
   exact d_X
  intro s5 hf; cbv
  refine d_br hS hf rfl ?_ ?_
  ·exact d_R
  intro hf; cbv
  refine d_p hS hf (fun _=>c114 hM) ?_
  intro y10 hf; cbv
  refine d_B ?_ ?_
  ·exact d_R
  exact d_X
 exact d_R
theorem c318 {i:Int} {r:ByteArray} (hf:r13_typeWord i=some r):Pv.Fn Tryz.prog glF 318 [sI i] (fun u=>u=.str r):=by
 refine fn_D tabOK Tryz.func318 Tryz.call318 ?_
 intro S R hS hR
 have q:=sf hM hS
 unfold r13_typeWord at hf
 cbv
 refine d_lp hS tabOK wf [] [0,3,4] (fun s1=>f3 14 [(0,sI i),(3,sI s1.1),(4,sI s1.2)] []) hf ?_
 intro Ik2 k2 s1 hk2 hf e he; subst he
 unfold r13_typeWord_l1 at hf
 cbv
 refine d_B ?_ ?_
 ·exact d_X
 intro hf; cbv
 refine d_p hS hf (fun _=>c245 hM) ?_
 exact d_Ry
theorem c8 {k:GAskAsker} {cards:List GCard} {s:GState} {r:GState} (hf:resolve_Top k cards s=some r):Pv.Fn Tryz.prog glF 8 [.pp (eGAskAsker M k),.sl 17 (M.m GCard (eGCard M) cards) false,.agg (eGState M s)] (fun u=>u=.agg (eGState M r)):=by
 refine fn_D tabOK Tryz.func8 Tryz.call8 ?_
 intro S R hS hR
 have q:=sf hM hS
 unfold resolve_Top at hf
 cbv
 refine d_B ?_ ?_
 ·intro hf; cbv
  refine d_p hS hf (fun _=>c15 hM) ?_
  exact d_Ry
 intro hf; cbv
 refine d_idx hS hM hf rfl d_e ?_
 intro x2 hf; cbv
 refine d_o hS ?_; cbv
 cases hf
theorem c305 {p:Arr6 Int} {r:ByteArray} (hf:r08_PoolText p=some r):Pv.Fn Tryz.prog glF 305 [.agg [sI p.a0,sI p.a1,sI p.a2,sI p.a3,sI p.a4,sI p.a5]] (fun u=>u=.str r):=by
 refine fn_D tabOK Tryz.func305 Tryz.call305 ?_
 intro S R hS hR
 have q:=sf hM hS
 unfold r08_PoolText at hf
 cbv
 refine d_p hS hf (fun _=>c359 hM) ?_
 intro y1 hf; cbv
 refine d_p hS hf (fun _=>c358 hM) ?_
 exact d_Ry
end
end Go.Proofs.YthfepelpmalckaaGreatDoor
