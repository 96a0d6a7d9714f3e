import Derived.Test.YthfepelpmalckaaGreatB14
set_option linter.all false
namespace Go.Proofs.YthfepelpmalckaaGreat
open Go Go.Pv
set_option maxRecDepth 100000
set_option maxHeartbeats 2000000
section
variable {M:EncM} (hM:M=mapE)
include hM
theorem c29 {w:GR30World} {r:GR30World} (hf:r30_counted w=some r):Pv.Fn Tryz.prog glF 29 [.agg (eGR30World M w)] (fun u=>u=.agg (eGR30World M r)):=by
 refine fn_D (tabcOK [11,16,25]) Tryz.func29 Tryz.call29 ?_
 intro S R hS hR
 have q:=sf hM hS
 unfold r30_counted at hf
 cbv
 refine d_lp hS (tabcOK [11,16,25]) wf [.cO 2 19 17] [1,2,3,4] (fun s1=>f3 59 [(1,.lv 0 0),(2,.lv 1 0),(3,.lv 2 0),(4,sI s1.1)] [vR (eGR30World M w),vR [.sl 0 [] true,.sl 0 [] true,.sl 0 [] true,.sl 0 [] true,.sl 0 [] true,.sl 0 [] true,.sl 0 [] true,sI 0,sI 0,sI 0,.sb false,sI 0,sI 0,sI 0,sI 0,.si .u64 0,.sl 0 [] true,sI 0,sI 0,.sl 0 [] true,.sl 0 [] true,.sl 0 [] true,.sl 0 [] true,.sl 0 [] true],vR [.sl 14 (M.m GPlayer (eGPlayer M) w.s.players) false,.sl 19 (M.m GObject (eGObject M) w.s.objects) false,.sl 1 (mI M w.s.battlefield) false,.sl 1 (mI M w.s.exile) false,.sl 94 (M.m GItem (eGItem M) w.s.stack) false,.sl 89 (M.m GWaiting (eGWaiting M) w.s.waiting) false,.sl 6 (M.m GCont (eGCont M) w.s.conts) false,sI w.s.turn,sI w.s.active,sI w.s.step,.sb w.s.begun,sI w.s.priority,sI w.s.passes,sI w.s.nextId,sI w.s.nextStamp,.si .u64 w.s.seed,.sl 1 (mI M w.s.extra) false,sI w.s.over,sI w.s.winner,.os 3 0 (S.lenN (M.m GTraits (eGTraits M) s1.2)),.sl 23 (M.m GR30Force (eGR30Force M) w.l) false,.sl 1 (M.m Bool eB w.begun) false,.sl 1 (M.m (List Int) (eL M 1 (eI .i64)) w.sets) false,.sl 1 (M.m Bool eB w.blank) false],aR 17 (M.m GTraits (eGTraits M) s1.2)]) hf ?_
 intro Ik2 k2 s1 hk2 hf e he; subst he
 unfold r30_counted_l1 at hf
 cbv
 refine d_B ?_ ?_
 ·intro hf; cbv
  refine d_cut hS [] [1,2,3,4] (fun s4=>f3 59 [(1,.lv 0 0),(2,.lv 1 0),(3,.lv 2 0),(4,sI s1.1)] [vR (eGR30World M w),vR [.sl 0 [] true,.sl 0 [] true,.sl 0 [] true,.sl 0 [] true,.sl 0 [] true,.sl 0 [] true,.sl 0 [] true,sI 0,sI 0,sI 0,.sb false,sI 0,sI 0,sI 0,sI 0,.si .u64 0,.sl 0 [] true,sI 0,sI 0,.sl 0 [] true,.sl 0 [] true,.sl 0 [] true,.sl 0 [] true,.sl 0 [] true],vR [.sl 14 (M.m GPlayer (eGPlayer M) w.s.players) false,.sl 19 (M.m GObject (eGObject M) w.s.objects) false,.sl 1 (mI M w.s.battlefield) false,.sl 1 (mI M w.s.exile) false,.sl 94 (M.m GItem (eGItem M) w.s.stack) false,.sl 89 (M.m GWaiting (eGWaiting M) w.s.waiting) false,.sl 6 (M.m GCont (eGCont M) w.s.conts) false,sI w.s.turn,sI w.s.active,sI w.s.step,.sb w.s.begun,sI w.s.priority,sI w.s.passes,sI w.s.nextId,sI w.s.nextStamp,.si .u64 w.s.seed,.sl 1 (mI M w.s.extra) false,sI w.s.over,sI w.s.winner,.os 3 0 (S.lenN (M.m GTraits (eGTraits M) s4)),.sl 23 (M.m GR30Force (eGR30Force M) w.l) false,.sl 1 (M.m Bool eB w.begun) false,.sl 1 (M.m (List Int) (eL M 1 (eI .i64)) w.sets) false,.sl 1 (M.m Bool eB w.blank) false],aR 17 (M.m GTraits (eGTraits M) s4)]) hf ?_ ?_
  ·intro Ik5 k5 hk5 hf; cbv
   refine d_I ?_
   intro x7 hf; cbv
   refine d_I ?_
   intro x8 hf; cbv
   refine d_cut hS [] [1,2,3,4,5] (fun s9=>f3 59 [(1,.lv 0 0),(2,.lv 1 0),(3,.lv 2 0),(4,sI s1.1),(5,.lv 4 0)] [vR (eGR30World M w),vR [.sl 0 [] true,.sl 0 [] true,.sl 0 [] true,.sl 0 [] true,.sl 0 [] true,.sl 0 [] true,.sl 0 [] true,sI 0,sI 0,sI 0,.sb false,sI 0,sI 0,sI 0,sI 0,.si .u64 0,.sl 0 [] true,sI 0,sI 0,.sl 0 [] true,.sl 0 [] true,.sl 0 [] true,.sl 0 [] true,.sl 0 [] true],vR [.sl 14 (M.m GPlayer (eGPlayer M) w.s.players) false,.sl 19 (M.m GObject (eGObject M) w.s.objects) false,.sl 1 (mI M w.s.battlefield) false,.sl 1 (mI M w.s.exile) false,.sl 94 (M.m GItem (eGItem M) w.s.stack) false,.sl 89 (M.m GWaiting (eGWaiting M) w.s.waiting) false,.sl 6 (M.m GCont (eGCont M) w.s.conts) false,sI w.s.turn,sI w.s.active,sI w.s.step,.sb w.s.begun,sI w.s.priority,sI w.s.passes,sI w.s.nextId,sI w.s.nextStamp,.si .u64 w.s.seed,.sl 1 (mI M w.s.extra) false,sI w.s.over,sI w.s.winner,.os 3 0 (S.lenN (M.m GTraits (eGTraits M) s1.2)),.sl 23 (M.m GR30Force (eGR30Force M) w.l) false,.sl 1 (M.m Bool eB w.begun) false,.sl 1 (M.m (List Int) (eL M 1 (eI .i64)) w.sets) false,.sl 1 (M.m Bool eB w.blank) false],aR 17 (M.m GTraits (eGTraits M) s1.2),vR [.str x7.name,sI x7.cost.generic,sI x7.cost.x,sI x7.cost.color.a0,sI x7.cost.color.a1,sI x7.cost.color.a2,sI x7.cost.color.a3,sI x7.cost.color.a4,sI x7.colors,sI x7.line.super,sI x7.line.types,.sl 1 (M.m ByteArray eS x7.line.subs) false,sI s9.1,sI s9.2,sI x7.keys,.sl 72 (M.m GAbility (eGAbility M) x7.abilities) false,sI x7.control]]) hf ?_ ?_
   ·intro Ik10 k10 hk10 hf; cbv
    refine d_cut hS [] [1,2,3,4,5,6,38] (fun s12=>f3 59 [(1,.lv 0 0),(2,.lv 1 0),(3,.lv 2 0),(4,sI s1.1),(5,.lv 4 0),(6,.lv 5 0),(38,.sb s12)] [vR (eGR30World M w),vR [.sl 0 [] true,.sl 0 [] true,.sl 0 [] true,.sl 0 [] true,.sl 0 [] true,.sl 0 [] true,.sl 0 [] true,sI 0,sI 0,sI 0,.sb false,sI 0,sI 0,sI 0,sI 0,.si .u64 0,.sl 0 [] true,sI 0,sI 0,.sl 0 [] true,.sl 0 [] true,.sl 0 [] true,.sl 0 [] true,.sl 0 [] true],vR [.sl 14 (M.m GPlayer (eGPlayer M) w.s.players) false,.sl 19 (M.m GObject (eGObject M) w.s.objects) false,.sl 1 (mI M w.s.battlefield) false,.sl 1 (mI M w.s.exile) false,.sl 94 (M.m GItem (eGItem M) w.s.stack) false,.sl 89 (M.m GWaiting (eGWaiting M) w.s.waiting) false,.sl 6 (M.m GCont (eGCont M) w.s.conts) false,sI w.s.turn,sI w.s.active,sI w.s.step,.sb w.s.begun,sI w.s.priority,sI w.s.passes,sI w.s.nextId,sI w.s.nextStamp,.si .u64 w.s.seed,.sl 1 (mI M w.s.extra) false,sI w.s.over,sI w.s.winner,.os 3 0 (S.lenN (M.m GTraits (eGTraits M) s1.2)),.sl 23 (M.m GR30Force (eGR30Force M) w.l) false,.sl 1 (M.m Bool eB w.begun) false,.sl 1 (M.m (List Int) (eL M 1 (eI .i64)) w.sets) false,.sl 1 (M.m Bool eB w.blank) false],aR 17 (M.m GTraits (eGTraits M) s1.2),vR (eGTraits M x7),vR (eGObject M x8)]) hf ?_ ?_
    ·intro Ik13 k13 hk13 hf; cbv
     refine d_B ?_ ?_
     ·intro hf; cbv
      refine d_div hS hf rfl rfl ?_
      intro x15 hf; cbv
      refine d_div hS hf rfl rfl ?_
      exact d_Xy
     exact d_X
    intro s12 hf; cbv
    refine d_br hS hf rfl ?_ ?_
    ·intro hf; cbv
     refine d_p hS hf (fun _=>c59 hM) ?_
     intro y17 hf; cbv
     refine d_p hS hf (fun _=>c60 hM) ?_
     intro y18 hf; cbv
     refine d_p hS hf (fun _=>c60 hM) ?_
     exact d_Xy
    exact d_X
   intro s9 hf; cbv
   refine d_room hS hf d_e ?_
   exact d_X
  intro s4 hf; cbv
  exact d_Xz
 exact d_R
theorem c7 {s:GState} {all:List GTraits} {p:Int} {r:List GOption} (hf:block_Able s all p=some r):Pv.Fn Tryz.prog glF 7 [.agg (eGState M s),.sl 17 (M.m GTraits (eGTraits M) all) false,sI p] (fun u=>u=.sl 3 (M.m GOption (eGOption M) r) false):=by
 refine fn_D (tabcOK [10,18,23,25]) Tryz.func7 Tryz.call7 ?_
 intro S R hS hR
 have q:=sf hM hS
 unfold block_Able at hf
 cbv
 refine d_lp hS (tabcOK [10,18,23,25]) wf [.tO 7 3] [1,2,3,7,13,14,15] (fun s1=>f3 70 [(1,.sl 17 (M.m GTraits (eGTraits M) all) false),(2,sI p),(3,.lv 0 0),(7,.os 1 0 (S.lenN (M.m GOption (eGOption M) s1.2))),(13,.sl 19 (M.m GObject (eGObject M) s.objects) false),(14,sI (S.len (M.m GObject (eGObject M) s.objects))),(15,sI s1.1)] [vR (eGState M s),aR 3 (M.m GOption (eGOption M) s1.2)]) hf ?_
 intro Ik2 k2 s1 hk2 hf e he; subst he
 unfold block_Able_l2 at hf
 cbv
 refine d_B ?_ ?_
 ·intro hf; cbv
  refine d_cut hS [.tO 7 3] [1,2,3,7,13,14,15] (fun s4=>f3 70 [(1,.sl 17 (M.m GTraits (eGTraits M) all) false),(2,sI p),(3,.lv 0 0),(7,.os 1 0 (S.lenN (M.m GOption (eGOption M) s4))),(13,.sl 19 (M.m GObject (eGObject M) s.objects) false),(14,sI (S.len (M.m GObject (eGObject M) s.objects))),(15,sI s1.1)] [vR (eGState M s),aR 3 (M.m GOption (eGOption M) s4)]) hf ?_ ?_
  ·intro Ik5 k5 hk5 hf; cbv
   refine d_I ?_
   intro x7 hf; cbv
   refine d_cut hS [] [1,2,3,7,8,9,13,14,15,30] (fun s8=>f3 70 [(1,.sl 17 (M.m GTraits (eGTraits M) all) false),(2,sI p),(3,.lv 0 0),(7,.os 1 0 (S.lenN (M.m GOption (eGOption M) s1.2))),(8,sI s1.1),(9,.lv 2 0),(13,.sl 19 (M.m GObject (eGObject M) s.objects) false),(14,sI (S.len (M.m GObject (eGObject M) s.objects))),(15,sI s1.1),(30,.sb s8)] [vR (eGState M s),aR 3 (M.m GOption (eGOption M) s1.2),vR (eGObject M x7)]) hf ?_ ?_
   ·intro Ik9 k9 hk9 hf; cbv
    refine d_B ?_ ?_
    ·exact d_X
    intro hf; cbv
    refine d_p hS hf (fun _=>c14 hM) ?_
    exact d_Xy
   intro s8 hf; cbv
   refine d_br hS hf rfl ?_ ?_
   ·exact d_X
   intro hf; cbv
   refine d_lp hS (tabcOK [10,18,23,25]) wf [.tO 7 3] [1,2,3,7,8,9,13,14,15,32,33,34] (fun s12=>f3 70 [(1,.sl 17 (M.m GTraits (eGTraits M) all) false),(2,sI p),(3,.lv 0 0),(7,.os 1 0 (S.lenN (M.m GOption (eGOption M) s12.2))),(8,sI s1.1),(9,.lv 2 0),(13,.sl 19 (M.m GObject (eGObject M) s.objects) false),(14,sI (S.len (M.m GObject (eGObject M) s.objects))),(15,sI s1.1),(32,.sl 19 (M.m GObject (eGObject M) s.objects) false),(33,sI (S.len (M.m GObject (eGObject M) s.objects))),(34,sI s12.1)] [vR (eGState M s),aR 3 (M.m GOption (eGOption M) s12.2),vR (eGObject M x7)]) hf ?_
   intro Ik13 k13 s12 hk13 hf e he; subst he
   unfold block_Able_l1 at hf
   cbv
   refine d_B ?_ ?_
   ·intro hf; cbv
    refine d_cut hS [.tO 7 3] [1,2,3,7,8,9,13,14,15,32,33,34] (fun s15=>f3 70 [(1,.sl 17 (M.m GTraits (eGTraits M) all) false),(2,sI p),(3,.lv 0 0),(7,.os 1 0 (S.lenN (M.m GOption (eGOption M) s15))),(8,sI s1.1),(9,.lv 2 0),(13,.sl 19 (M.m GObject (eGObject M) s.objects) false),(14,sI (S.len (M.m GObject (eGObject M) s.objects))),(15,sI s1.1),(32,.sl 19 (M.m GObject (eGObject M) s.objects) false),(33,sI (S.len (M.m GObject (eGObject M) s.objects))),(34,sI s12.1)] [vR (eGState M s),aR 3 (M.m GOption (eGOption M) s15),vR (eGObject M x7)]) hf ?_ ?_
    ·intro Ik16 k16 hk16 hf; cbv
     refine d_I ?_
     intro x18 hf; cbv
     refine d_cut hS [] [1,2,3,7,8,9,11,13,14,15,32,33,34,58] (fun s19=>f3 70 [(1,.sl 17 (M.m GTraits (eGTraits M) all) false),(2,sI p),(3,.lv 0 0),(7,.os 1 0 (S.lenN (M.m GOption (eGOption M) s12.2))),(8,sI s1.1),(9,.lv 2 0),(11,.lv 3 0),(13,.sl 19 (M.m GObject (eGObject M) s.objects) false),(14,sI (S.len (M.m GObject (eGObject M) s.objects))),(15,sI s1.1),(32,.sl 19 (M.m GObject (eGObject M) s.objects) false),(33,sI (S.len (M.m GObject (eGObject M) s.objects))),(34,sI s12.1),(58,.sb s19)] [vR (eGState M s),aR 3 (M.m GOption (eGOption M) s12.2),vR (eGObject M x7),vR (eGObject M x18)]) hf ?_ ?_
     ·intro Ik20 k20 hk20 hf; cbv
      refine d_o hS ?_; cbv
      refine d_B ?_ ?_
      ·intro hf; cbv
       refine d_B ?_ ?_
       ·intro hf; cbv
        refine d_c hS hf (fun _=>c14 hM) ?_
        intro y22 hf; cbv
        refine d_c hS hf (fun _=>c14 hM) ?_
        intro y23 hf; cbv
        refine d_c hS hf (fun _=>c15 hM) ?_
        exact d_Xy
       exact d_X
      exact d_X
     intro s19 hf; cbv
     refine d_br hS hf rfl ?_ ?_
     ·intro hf; cbv
      refine d_wk hS (e:=(eGOption M)) hf d_st ?_
      intro x25 hf; cbv
      refine d_room hS hf d_e ?_
      exact d_X
     exact d_X
    intro s15 hf; cbv
    exact d_Xz
   exact d_X
  intro s4 hf; cbv
  exact d_Xz
 exact d_R
theorem c162 {f:GFilter} {r:Bool} (hf:r13_Is f=some r):Pv.Fn Tryz.prog glF 162 [.agg (eGFilter M f)] (fun u=>u=.sb r):=by
 refine fn_D (tabcOK [2,6,10]) Tryz.func162 Tryz.call162 ?_
 intro S R hS hR
 have q:=sf hM hS
 unfold r13_Is at hf
 cbv
 refine d_cut hS [] [1,40] (fun s1=>f3 87 [(1,.lv 0 0),(40,.sb s1)] [vR (eGFilter M f)]) hf ?_ ?_
 ·intro Ik2 k2 hk2 hf; cbv
  refine d_B ?_ ?_
  ·exact d_X
  intro hf; cbv
  refine d_B ?_ ?_
  ·exact d_X
  intro hf; cbv
  refine d_B ?_ ?_
  ·exact d_X
  intro hf; cbv
  refine d_B ?_ ?_
  ·exact d_X
  intro hf; cbv
  refine d_B ?_ ?_
  ·exact d_X
  intro hf; cbv
  refine d_B ?_ ?_
  ·exact d_X
  intro hf; cbv
  refine d_B ?_ ?_ <;> exact d_X
 intro s1 hf; cbv
 refine d_br hS hf rfl ?_ ?_
 ·exact d_R
 intro hf; cbv
 refine d_cut hS [] [1,54] (fun s4=>f3 87 [(1,.lv 0 0),(54,.sb s4)] [vR (eGFilter M f)]) hf ?_ ?_
 ·intro Ik5 k5 hk5 hf; cbv
  refine d_p hS hf (fun _=>c219 hM) ?_
  intro y7 hf; cbv
  refine d_B ?_ ?_
  ·exact d_X
  intro hf; cbv
  refine d_p hS hf (fun _=>c219 hM) ?_
  exact d_Xy
 intro s4 hf; cbv
 refine d_br hS hf rfl ?_ ?_
 ·exact d_R
 intro hf; cbv
 refine d_cut hS [] [1,73] (fun s9=>f3 87 [(1,.lv 0 0),(73,.sb s9)] [vR (eGFilter M f)]) hf ?_ ?_
 ·intro Ik10 k10 hk10 hf; cbv
  refine d_B ?_ ?_
  ·intro hf; cbv
   refine d_p hS hf (fun _=>c220 hM) ?_
   intro y12 hf; cbv
   refine d_B ?_ ?_
   ·exact d_X
   intro hf; cbv
   refine d_B ?_ ?_ <;> exact d_X
  intro hf; cbv
  refine d_B ?_ ?_ <;> exact d_X
 intro s9 hf; cbv
 refine d_br hS hf rfl ?_ ?_
 ·exact d_R
 intro hf; cbv
 refine d_p hS hf (fun _=>c221 hM) ?_
 intro y13 hf; cbv
 refine d_br hS hf rfl ?_ ?_
 ·intro hf; cbv
  refine d_p hS hf (fun _=>c221 hM) ?_
  intro y14 hf; cbv
  refine d_br hS hf rfl ?_ ?_
  ·intro hf; cbv
   refine d_p hS hf (fun _=>c221 hM) ?_
   exact d_Ry
  exact d_R
 exact d_R
theorem c172 {l:GLine} {sub:ByteArray} {r:GLine} (hf:r10_AddSub l sub=some r):Pv.Fn Tryz.prog glF 172 [.agg (eGLine M l),.str sub] (fun u=>u=.agg (eGLine M r)):=by
 refine fn_D (tabcOK [4,10,1009]) Tryz.func172 Tryz.call172 ?_
 intro S R hS hR
 have q:=sf hM hS
 unfold r10_AddSub at hf
 cbv
 refine d_room hS hf d_e ?_
 intro hf; cbv
 refine d_cut hS [] [1,2,4,5,24] (fun s1=>f3 64 [(1,.str sub),(2,.lv 0 0),(4,.lv 1 0),(5,.os 2 0 (S.lenN (S.app (S.sub ([]) 0 0) (M.m ByteArray eS l.subs)))),(24,.sb s1)] [vR (eGLine M l),vR [sI 0,sI 0,.sl 0 [] true],aR 1 (S.app (S.sub ([]) 0 0) (M.m ByteArray eS l.subs))]) hf ?_ ?_
 ·intro Ik2 k2 hk2 hf; cbv
  refine d_p hS hf (fun _=>c220 hM) ?_
  intro y4 hf; cbv
  refine d_B ?_ ?_
  ·exact d_X
  intro hf; cbv
  refine d_p hS hf (fun _=>c167 hM) ?_
  intro y5 hf; cbv
  refine d_br hS hf rfl ?_ ?_ <;> exact d_X
 intro s1 hf; cbv
 refine d_br hS hf rfl ?_ ?_
 ·exact d_R
 intro hf; cbv
 refine d_lp hS (tabcOK [4,10,1009]) wf [] [1,2,4,5,6] (fun s6=>f3 64 [(1,.str sub),(2,.lv 0 0),(4,.lv 1 0),(5,.os 2 0 (S.lenN (S.app (S.sub ([]) 0 0) (M.m ByteArray eS l.subs)))),(6,sI s6)] [vR (eGLine M l),vR [sI 0,sI 0,.sl 0 [] true],aR 1 (S.app (S.sub ([]) 0 0) (M.m ByteArray eS l.subs))]) hf ?_
 intro Ik7 k7 s6 hk7 hf e he; subst he
 unfold r10_AddSub_l1 at hf
 cbv
 refine d_cut hS [] [1,2,4,5,6,42] (fun s9=>f3 64 [(1,.str sub),(2,.lv 0 0),(4,.lv 1 0),(5,.os 2 0 (S.lenN (S.app (S.sub ([]) 0 0) (M.m ByteArray eS l.subs)))),(6,sI s6),(42,.sb s9)] [vR (eGLine M l),vR [sI 0,sI 0,.sl 0 [] true],aR 1 (S.app (S.sub ([]) 0 0) (M.m ByteArray eS l.subs))]) hf ?_ ?_
 ·intro Ik10 k10 hk10 hf; cbv
  refine d_B ?_ ?_
  ·intro hf; cbv
   refine d_ix hS hf d_e rfl ?_
   intro j12 _ hf; cbv
   refine d_row hS hM (e:=eS) hf d_e d_e ?_
   exact d_Xy
  exact d_X
 intro s9 hf; cbv
 refine d_br hS hf rfl ?_ ?_
 ·exact d_X
 intro hf; cbv
 refine d_slc hS hf ?_ rfl rfl ?_
 ·simp only [q]
 intro x14 bx14 hf; cbv
 refine d_room hS hf d_e ?_
 intro hf; cbv
 refine d_room hS hf d_e ?_
 intro hf; cbv
 refine d_slc hS hf ?_ rfl ?_ ?_
 ·simp only [q]
 ·simp only [q]
 intro x15 bx15 hf; cbv
 refine d_room hS hf d_e ?_
 intro hf; cbv
 refine l_ordF hS (by kernel_rfl) ?_; cbv
 cases hf
 have e:∀ a b,S.app a b=a ++ b:=by intro a b; rw [hS]; rfl
 exact hR _ (d_l (by simp only [q]; simp [e,eGLine,eS,q]))
theorem c28 {cards:List GCard} {o:GObject} {r:GTraits} (hf:r28_Of cards o=some r):Pv.Fn Tryz.prog glF 28 [.sl 17 (M.m GCard (eGCard M) cards) false,.agg (eGObject M o)] (fun u=>u=.agg (eGTraits M r)):=by
 refine fn_D (tabcOK [9,10,15]) Tryz.func28 Tryz.call28 ?_
 intro S R hS hR
 have q:=sf hM hS
 unfold r28_Of at hf
 cbv
 refine d_cut hS [] [0,3,4,5] (fun s1=>f3 41 [(0,.sl 17 (M.m GCard (eGCard M) cards) false),(3,.lv 0 0),(4,.lv 1 0),(5,sI s1)] [vR (eGObject M o),vR [.str (bs []),sI 0,sI 0,sI 0,sI 0,sI 0,sI 0,sI 0,sI 0,sI 0,sI 0,.sl 0 [] true,sI 0,sI 0,sI 0,.sl 0 [] true,sI 0]]) hf ?_ ?_
 ·intro Ik2 k2 hk2 hf; cbv
  refine d_B ?_ ?_ <;> exact d_X
 intro s1 hf; cbv
 refine d_cut hS [.cS 2 11 1,.cS 2 15 72] [3,4,6] (fun s4=>f3 41 [(3,.lv 0 0),(4,.lv 1 0),(6,.lv 2 0)] [vR (eGObject M o),vR [.str (bs []),sI 0,sI 0,sI 0,sI 0,sI 0,sI 0,sI 0,sI 0,sI 0,sI 0,.sl 0 [] true,sI 0,sI 0,sI 0,.sl 0 [] true,sI 0],vR (eGTraits M s4)]) hf ?_ ?_
 ·intro Ik5 k5 hk5 hf; cbv
  refine d_cut hS [] [0,3,4,5,6,20] (fun s7=>f3 41 [(0,.sl 17 (M.m GCard (eGCard M) cards) false),(3,.lv 0 0),(4,.lv 1 0),(5,sI s1),(6,.lv 2 0),(20,.sb s7)] [vR (eGObject M o),vR [.str (bs []),sI 0,sI 0,sI 0,sI 0,sI 0,sI 0,sI 0,sI 0,sI 0,sI 0,.sl 0 [] true,sI 0,sI 0,sI 0,.sl 0 [] true,sI 0],vR [.str (bs []),sI 0,sI 0,sI 0,sI 0,sI 0,sI 0,sI 0,sI 0,sI 0,sI 0,.sl 0 [] true,sI 0,sI 0,sI 0,.sl 0 [] true,sI 0]]) hf ?_ ?_
  ·intro Ik8 k8 hk8 hf; cbv
   refine d_B ?_ ?_ <;> exact d_X
  intro s7 hf; cbv
  refine d_br hS hf rfl ?_ ?_
  ·intro hf; cbv
   refine d_I ?_
   intro x10 hf; cbv
   refine d_p hS hf (fun _=>c58 hM) ?_
   exact d_Xy
  intro hf; cbv
  exact d_x hk5 hf (by subst hM; rfl)
 intro s4 hf; cbv
 refine d_B ?_ ?_
 ·exact d_R
 intro hf; cbv
 refine d_B ?_ ?_ <;> exact d_R
theorem c63 {left:List Int} {stamps:List Int} {needs:List (List Bool)} {r:Int} (hf:r07_Next left stamps needs=some r):Pv.Fn Tryz.prog glF 63 [.sl 1 (mI M left) false,.sl 1 (mI M stamps) false,.sl 1 (M.m (List Bool) (eL M 1 eB) needs) false] (fun u=>u=sI r):=by
 refine fn_D (tabcOK [11,14]) Tryz.func63 Tryz.call63 ?_
 intro S R hS hR
 have q:=sf hM hS
 unfold r07_Next at hf
 cbv
 refine d_p hS hf (fun _=>c106 hM) ?_
 intro y1 hf; cbv
 refine d_lp hS (tabcOK [11,14]) wf [] [1,7,8,9] (fun s2=>f3 55 [(1,.sl 1 (mI M stamps) false),(7,.sl 1 (mI M y1) false),(8,sI s2.1),(9,sI s2.2)] []) hf ?_
 intro Ik3 k3 s2 hk3 hf e he; subst he
 unfold r07_Next_l1 at hf
 cbv
 refine d_B ?_ ?_
 ·intro hf; cbv
  refine d_cut hS [] [1,7,8,9] (fun s5=>f3 55 [(1,.sl 1 (mI M stamps) false),(7,.sl 1 (mI M y1) false),(8,sI s5),(9,sI s2.2)] []) hf ?_ ?_
  ·intro Ik6 k6 hk6 hf; cbv
   refine d_I ?_
   intro x8 hf; cbv
   refine d_p hS hf (fun _=>c107 hM) ?_
   intro y9 hf; cbv
   refine d_cut hS [] [1,7,8,9,49] (fun s10=>f3 55 [(1,.sl 1 (mI M stamps) false),(7,.sl 1 (mI M y1) false),(8,sI s2.1),(9,sI s2.2),(49,.sb s10)] []) hf ?_ ?_
   ·intro Ik11 k11 hk11 hf; cbv
    refine d_B ?_ ?_
    ·exact d_X
    intro hf; cbv
    refine d_p hS hf (fun _=>c107 hM) ?_
    intro y13 hf; cbv
    refine d_B ?_ ?_
    ·exact d_X
    intro hf; cbv
    refine d_p hS hf (fun _=>c107 hM) ?_
    intro y14 hf; cbv
    refine d_B ?_ ?_
    ·intro hf; cbv
     refine d_I ?_
     exact d_Xy
    exact d_X
   intro s10 hf; cbv
   refine d_br hS hf rfl ?_ ?_
   ·intro hf; cbv
    refine d_I ?_
    exact d_Xy
   exact d_X
  intro s5 hf; cbv
  exact d_Xz
 exact d_R
theorem c169 {t:GTraits} {f:GFilter} {r:Bool} (hf:r29_bounds t f=some r):Pv.Fn Tryz.prog glF 169 [.agg (eGTraits M t),.agg (eGFilter M f)] (fun u=>u=.sb r):=by
 refine fn_D (tabcOK [4,8]) Tryz.func169 Tryz.call169 ?_
 intro S R hS hR
 have q:=sf hM hS
 unfold r29_bounds at hf
 cbv
 refine d_p hS hf (fun _=>c166 hM) ?_
 intro y1 hf; cbv
 refine d_cut hS [] [2,3,5,24] (fun s2=>f3 46 [(2,.lv 0 0),(3,.lv 1 0),(5,.sb y1),(24,.sb s2)] [vR (eGTraits M t),vR (eGFilter M f)]) hf ?_ ?_
 ·intro Ik3 k3 hk3 hf; cbv
  refine d_B ?_ ?_
  ·intro hf; cbv
   refine d_br hS hf rfl ?_ ?_
   ·intro hf; cbv
    refine d_p hS hf (fun _=>c223 hM) ?_
    exact d_Xy
   exact d_X
  exact d_X
 intro s2 hf; cbv
 refine d_br hS hf rfl ?_ ?_
 ·exact d_R
 intro hf; cbv
 refine d_cut hS [] [2,3,39] (fun s6=>f3 46 [(2,.lv 0 0),(3,.lv 1 0),(39,.sb s6)] [vR (eGTraits M t),vR (eGFilter M f)]) hf ?_ ?_
 ·intro Ik7 k7 hk7 hf; cbv
  refine d_B ?_ ?_
  ·intro hf; cbv
   refine d_br hS hf rfl ?_ ?_
   ·intro hf; cbv
    refine d_p hS hf (fun _=>c223 hM) ?_
    exact d_Xy
   exact d_X
  exact d_X
 intro s6 hf; cbv
 refine d_br hS hf rfl ?_ ?_
 ·exact d_R
 intro hf; cbv
 refine d_o hS ?_; cbv
 refine d_c hS hf (fun _=>c224 hM) ?_
 intro y10 hf; cbv
 refine d_c hS hf (fun _=>c223 hM) ?_
 exact d_Ry
end
end Go.Proofs.YthfepelpmalckaaGreat
