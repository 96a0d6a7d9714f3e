import Derived.Test.YthfepelpmalckaaGreatB15
set_option linter.all false
namespace Go.Proofs.YthfepelpmalckaaGreat
open Go Go.Pv
set_option maxRecDepth 100000
set_option maxHeartbeats 2000000
section
variable {M:EncM} (hM:M=mapE)
include hM
theorem c8 {s:GState} {all:List GTraits} {p:Int} {l:List GOption} {r:Int} (hf:block_Check s all p l=some r):Pv.Fn Tryz.prog glF 8 [.agg (eGState M s),.sl 17 (M.m GTraits (eGTraits M) all) false,sI p,.sl 3 (M.m GOption (eGOption M) l) false] (fun u=>u=sI r):=by
 refine fn_D (tabcOK [12,39,45]) Tryz.func8 Tryz.call8 ?_
 intro S R hS hR
 have q:=sf hM hS
 unfold block_Check at hf
 cbv
 refine d_p hS hf (fun _=>c7 hM) ?_
 intro y1 hf; cbv
 refine d_lp hS (tabcOK [12,39,45]) wf [] [1,3,4,9,22,23,24] (fun s2=>f3 73 [(1,.sl 17 (M.m GTraits (eGTraits M) all) false),(3,.sl 3 (M.m GOption (eGOption M) l) false),(4,.lv 0 0),(9,.sl 3 (M.m GOption (eGOption M) y1) false),(22,.sl 3 (M.m GOption (eGOption M) l) false),(23,sI (S.len (M.m GOption (eGOption M) l))),(24,sI s2)] [vR (eGState M s)]) hf ?_
 intro Ik3 k3 s2 hk3 hf e he; subst he
 unfold block_Check_l3 at hf
 cbv
 refine d_B ?_ ?_
 ·intro hf; cbv
  refine d_I ?_
  intro x5 hf; cbv
  refine d_slc hS hf d_e rfl rfl ?_
  intro x6 bx6 hf; cbv
  refine d_callL hS hf (fun _=>c16_0 hM) d_le (fun _=>rfl) ?_
  intro y7 hf; cbv
  refine d_cut hS [] [1,3,4,9,22,23,24,40] (fun s8=>f3 73 [(1,.sl 17 (M.m GTraits (eGTraits M) all) false),(3,.sl 3 (M.m GOption (eGOption M) l) false),(4,.lv 0 0),(9,.sl 3 (M.m GOption (eGOption M) y1) false),(22,.sl 3 (M.m GOption (eGOption M) l) false),(23,sI (S.len (M.m GOption (eGOption M) l))),(24,sI s2),(40,.sb s8)] [vR (eGState M s)]) hf ?_ ?_
  ·intro Ik9 k9 hk9 hf; cbv
   refine d_br hS hf rfl ?_ ?_
   ·exact d_X
   intro hf; cbv
   refine d_p hS hf (fun _=>c18 hM) ?_
   exact d_Xy
  intro s8 hf; cbv
  refine d_br hS hf rfl ?_ ?_
  ·exact d_R
  exact d_X
 intro hf; cbv
 refine d_lp hS (tabcOK [12,39,45]) wf [] [1,3,43,44,45] (fun s12=>f3 73 [(1,.sl 17 (M.m GTraits (eGTraits M) all) false),(3,.sl 3 (M.m GOption (eGOption M) l) false),(43,.sl 19 (M.m GObject (eGObject M) s.objects) false),(44,sI (S.len (M.m GObject (eGObject M) s.objects))),(45,sI s12)] []) hf ?_
 intro Ik13 k13 s12 hk13 hf e he; subst he
 unfold block_Check_l2 at hf
 cbv
 refine d_B ?_ ?_
 ·intro hf; cbv
  refine d_cut hS [] [1,3,43,44,45] (fun s15=>f3 73 [(1,.sl 17 (M.m GTraits (eGTraits M) all) false),(3,.sl 3 (M.m GOption (eGOption M) l) false),(43,.sl 19 (M.m GObject (eGObject M) s.objects) false),(44,sI (S.len (M.m GObject (eGObject M) s.objects))),(45,sI s12)] []) hf ?_ ?_
  ·intro Ik16 k16 hk16 hf; cbv
   refine d_I ?_
   intro x18 hf; cbv
   refine d_p hS hf (fun _=>c14 hM) ?_
   intro y19 hf; cbv
   refine d_p hS hf (fun _=>c19 hM) ?_
   intro y20 hf; cbv
   refine d_B ?_ ?_
   ·exact d_X
   intro hf; cbv
   refine d_lp hS (tabcOK [12,39,45]) wf [] [1,3,14,15,43,44,45,56,57,58] (fun s21=>f3 73 [(1,.sl 17 (M.m GTraits (eGTraits M) all) false),(3,.sl 3 (M.m GOption (eGOption M) l) false),(14,.lv 0 0),(15,sI s21.1),(43,.sl 19 (M.m GObject (eGObject M) s.objects) false),(44,sI (S.len (M.m GObject (eGObject M) s.objects))),(45,sI s12),(56,.sl 3 (M.m GOption (eGOption M) l) false),(57,sI (S.len (M.m GOption (eGOption M) l))),(58,sI s21.2)] [vR (eGObject M x18)]) hf ?_
   intro Ik22 k22 s21 hk22 hf e he; subst he
   unfold block_Check_l1 at hf
   cbv
   refine d_B ?_ ?_
   ·intro hf; cbv
    refine d_cut hS [] [1,3,14,15,43,44,45,56,57,58] (fun s24=>f3 73 [(1,.sl 17 (M.m GTraits (eGTraits M) all) false),(3,.sl 3 (M.m GOption (eGOption M) l) false),(14,.lv 0 0),(15,sI s24),(43,.sl 19 (M.m GObject (eGObject M) s.objects) false),(44,sI (S.len (M.m GObject (eGObject M) s.objects))),(45,sI s12),(56,.sl 3 (M.m GOption (eGOption M) l) false),(57,sI (S.len (M.m GOption (eGOption M) l))),(58,sI s21.2)] [vR (eGObject M x18)]) hf ?_ ?_
    ·intro Ik25 k25 hk25 hf; cbv
     refine d_I ?_
     intro x27 hf; cbv
     refine d_B ?_ ?_ <;> exact d_X
    intro s24 hf; cbv
    exact d_Xz
   intro hf; cbv
   refine d_B ?_ ?_
   ·exact d_R
   exact d_X
  intro s15 hf; cbv
  exact d_Xz
 exact d_R
theorem c27 {cards:List GCard} {s:GState} {r:List GR30Force} (hf:r30_Forces cards s=some r):Pv.Fn Tryz.prog glF 27 [.sl 17 (M.m GCard (eGCard M) cards) false,.agg (eGState M s)] (fun u=>u=.sl 23 (M.m GR30Force (eGR30Force M) r) false):=by
 refine fn_D (tabcOK [9,21]) Tryz.func27 Tryz.call27 ?_
 intro S R hS hR
 have q:=sf hM hS
 unfold r30_Forces at hf
 cbv
 refine d_lp hS (tabcOK [9,21]) wf [] [0,3,5,6] (fun s1=>f3 89 [(0,.sl 17 (M.m GCard (eGCard M) cards) false),(3,.lv 0 0),(5,.os 1 0 (S.lenN (M.m GR30Force (eGR30Force M) s1.2))),(6,sI s1.1)] [vR (eGState M s),aR 23 (M.m GR30Force (eGR30Force M) s1.2)]) hf ?_
 intro Ik2 k2 s1 hk2 hf e he; subst he
 unfold r30_Forces_l3 at hf
 cbv
 refine d_B ?_ ?_
 ·intro hf; cbv
  refine d_cut hS [] [0,3,5,6] (fun s4=>f3 89 [(0,.sl 17 (M.m GCard (eGCard M) cards) false),(3,.lv 0 0),(5,.os 1 0 (S.lenN (M.m GR30Force (eGR30Force M) s4))),(6,sI s1.1)] [vR (eGState M s),aR 23 (M.m GR30Force (eGR30Force M) s4)]) hf ?_ ?_
  ·intro Ik5 k5 hk5 hf; cbv
   refine d_I ?_
   intro x7 hf; cbv
   refine d_B ?_ ?_
   ·exact d_X
   intro hf; cbv
   refine d_p hS hf (fun _=>c28 hM) ?_
   intro y8 hf; cbv
   refine d_lp hS (tabcOK [9,21]) wf [] [0,3,5,6,7,8,9] (fun s9=>f3 89 [(0,.sl 17 (M.m GCard (eGCard M) cards) false),(3,.lv 0 0),(5,.os 1 0 (S.lenN (M.m GR30Force (eGR30Force M) s9.2))),(6,sI s1.1),(7,.lv 2 0),(8,.lv 3 0),(9,sI s9.1)] [vR (eGState M s),aR 23 (M.m GR30Force (eGR30Force M) s9.2),vR (eGObject M x7),vR (eGTraits M y8)]) hf ?_
   intro Ik10 k10 s9 hk10 hf e he; subst he
   unfold r30_Forces_l1 at hf
   cbv
   refine d_B ?_ ?_
   ·intro hf; cbv
    refine d_cut hS [] [0,3,5,6,7,8,9] (fun s12=>f3 89 [(0,.sl 17 (M.m GCard (eGCard M) cards) false),(3,.lv 0 0),(5,.os 1 0 (S.lenN (M.m GR30Force (eGR30Force M) s12))),(6,sI s1.1),(7,.lv 2 0),(8,.lv 3 0),(9,sI s9.1)] [vR (eGState M s),aR 23 (M.m GR30Force (eGR30Force M) s12),vR (eGObject M x7),vR (eGTraits M y8)]) hf ?_ ?_
    ·intro Ik13 k13 hk13 hf; cbv
     refine d_I ?_
     intro x15 hf; cbv
     refine d_B ?_ ?_
     ·intro hf; cbv
      refine d_wk hS (e:=(eGR30Force M)) hf d_st ?_
      intro x16 hf; cbv
      refine d_room hS hf d_e ?_
      exact d_X
     exact d_X
    intro s12 hf; cbv
    exact d_Xz
   exact d_X
  intro s4 hf; cbv
  exact d_Xz
 intro hf; cbv
 refine d_lp hS (tabcOK [9,21]) wf [] [3,5,11] (fun s17=>f3 89 [(3,.lv 0 0),(5,.os 1 0 (S.lenN (M.m GR30Force (eGR30Force M) s17.2))),(11,sI s17.1)] [vR (eGState M s),aR 23 (M.m GR30Force (eGR30Force M) s17.2)]) hf ?_
 intro Ik18 k18 s17 hk18 hf e he; subst he
 unfold r30_Forces_l2 at hf
 cbv
 refine d_B ?_ ?_
 ·intro hf; cbv
  refine d_I ?_
  intro x20 hf
  generalize hq : @seqQ=q; cbv
  subst hq; cbv
  refine d_wk hS (e:=(eGR30Force M)) hf d_st ?_
  intro x21 hf; cbv
  refine d_room hS hf d_e ?_
  exact d_X
 exact d_R
theorem c109 {o:GObject} {t:GTraits} {you:Int} {source:Int} {f:GFilter} {r:Bool} (hf:r29_Object o t you source f=some r):Pv.Fn Tryz.prog glF 109 [.agg (eGObject M o),.agg (eGTraits M t),sI you,sI source,.agg (eGFilter M f)] (fun u=>u=.sb r):=by
 refine fn_D (tabcOK [2,6,10]) Tryz.func109 Tryz.call109 ?_
 intro S R hS hR
 have q:=sf hM hS
 unfold r29_Object at hf
 cbv
 refine d_cut hS [] [6,9,46] (fun s1=>f3 107 [(6,.lv 0 0),(9,.lv 1 0),(46,.sb s1)] [vR (eGTraits M t),vR (eGFilter M f)]) hf ?_ ?_
 ·intro Ik2 k2 hk2 hf; cbv
  refine d_p hS hf (fun _=>c162 hM) ?_
  intro y4 hf; cbv
  refine d_B ?_ ?_
  ·exact d_X
  intro hf; cbv
  refine d_B ?_ ?_
  ·exact d_X
  intro hf; cbv
  refine d_p hS hf (fun _=>c163 hM) ?_
  intro y5 hf; cbv
  refine d_B ?_ ?_
  ·exact d_X
  intro hf; cbv
  refine d_p hS hf (fun _=>c164 hM) ?_
  intro y6 hf; cbv
  refine d_B ?_ ?_
  ·exact d_X
  intro hf; cbv
  refine d_p hS hf (fun _=>c165 hM) ?_
  exact d_Xy
 intro s1 hf; cbv
 refine d_br hS hf rfl ?_ ?_
 ·exact d_R
 intro hf; cbv
 refine d_cut hS [] [6,9,66] (fun s8=>f3 107 [(6,.lv 0 0),(9,.lv 1 0),(66,.sb s8)] [vR (eGTraits M t),vR (eGFilter M f)]) hf ?_ ?_
 ·intro Ik9 k9 hk9 hf; cbv
  refine d_B ?_ ?_
  ·intro hf; cbv
   refine d_p hS hf (fun _=>c166 hM) ?_
   intro y11 hf; cbv
   refine d_B ?_ ?_
   ·exact d_X
   intro hf; cbv
   refine d_p hS hf (fun _=>c166 hM) ?_
   exact d_Xy
  intro hf; cbv
  refine d_p hS hf (fun _=>c166 hM) ?_
  exact d_Xy
 intro s8 hf; cbv
 refine d_br hS hf rfl ?_ ?_
 ·exact d_R
 intro hf; cbv
 refine d_cut hS [] [6,9,84] (fun s14=>f3 107 [(6,.lv 0 0),(9,.lv 1 0),(84,.sb s14)] [vR (eGTraits M t),vR (eGFilter M f)]) hf ?_ ?_
 ·intro Ik15 k15 hk15 hf; cbv
  refine d_B ?_ ?_
  ·intro hf; cbv
   refine d_p hS hf (fun _=>c166 hM) ?_
   intro y17 hf; cbv
   refine d_B ?_ ?_
   ·exact d_X
   intro hf; cbv
   refine d_p hS hf (fun _=>c166 hM) ?_
   exact d_Xy
  intro hf; cbv
  refine d_p hS hf (fun _=>c166 hM) ?_
  exact d_Xy
 intro s14 hf; cbv
 refine d_br hS hf rfl ?_ ?_
 ·exact d_R
 intro hf; cbv
 refine d_B ?_ ?_
 ·intro hf; cbv
  refine d_p hS hf (fun _=>c167 hM) ?_
  intro y20 hf; cbv
  refine d_B ?_ ?_
  ·exact d_R
  intro hf; cbv
  refine d_p hS hf (fun _=>c168 hM) ?_
  intro y21 hf; cbv
  refine d_B ?_ ?_
  ·exact d_R
  intro hf; cbv
  refine d_p hS hf (fun _=>c169 hM) ?_
  exact d_Ry
 intro hf; cbv
 refine d_p hS hf (fun _=>c168 hM) ?_
 intro y23 hf; cbv
 refine d_B ?_ ?_
 ·exact d_R
 intro hf; cbv
 refine d_p hS hf (fun _=>c169 hM) ?_
 exact d_Ry
theorem c171 {m:GMod} {r:Bool} (hf:r15_Is m=some r):Pv.Fn Tryz.prog glF 171 [.agg (eGMod M m)] (fun u=>u=.sb r):=by
 refine fn_D (tabcOK [2]) Tryz.func171 Tryz.call171 ?_
 intro S R hS hR
 have q:=sf hM hS
 unfold r15_Is at hf
 cbv
 refine d_cut hS [] [1,16] (fun s1=>f3 107 [(1,.lv 0 0),(16,.sb s1)] [vR (eGMod M m)]) hf ?_ ?_
 ·intro Ik2 k2 hk2 hf; cbv
  refine d_B ?_ ?_
  ·exact d_X
  intro hf; cbv
  refine d_B ?_ ?_
  ·exact d_X
  intro hf; cbv
  refine d_p hS hf (fun _=>c225 hM) ?_
  intro y4 hf; cbv
  replace hf:=d_lt hf
  exact d_Xz
 intro s1 hf; cbv
 refine d_br hS hf rfl ?_ ?_
 ·exact d_R
 intro hf; cbv
 refine d_B ?_ ?_
 ·intro hf; cbv
  refine d_p hS hf (fun _=>c226 hM) ?_
  exact d_Ry
 intro hf; cbv
 refine d_B ?_ ?_
 ·intro hf; cbv
  refine d_p hS hf (fun _=>c226 hM) ?_
  exact d_Ry
 intro hf; cbv
 refine d_B ?_ ?_
 ·intro hf; cbv
  refine d_p hS hf (fun _=>c220 hM) ?_
  exact d_Ry
 intro hf; cbv
 refine d_B ?_ ?_
 ·intro hf; cbv
  refine d_p hS hf (fun _=>c220 hM) ?_
  exact d_Ry
 intro hf; cbv
 refine d_B ?_ ?_
 ·intro hf; cbv
  refine d_B ?_ ?_ <;> exact d_R
 intro hf; cbv
 refine d_B ?_ ?_
 ·intro hf; cbv
  refine d_B ?_ ?_ <;> exact d_R
 intro hf; cbv
 refine d_B ?_ ?_
 ·intro hf; cbv
  refine d_B ?_ ?_ <;> exact d_R
 intro hf; cbv
 refine d_B ?_ ?_
 ·intro hf; cbv
  refine d_B ?_ ?_ <;> exact d_R
 intro hf; cbv
 refine d_B ?_ ?_
 ·intro hf; cbv
  refine d_p hS hf (fun _=>c162 hM) ?_
  exact d_Ry
 intro hf; cbv
 refine d_B ?_ ?_
 ·intro hf; cbv
  refine d_B ?_ ?_
  ·intro hf; cbv
   refine d_B ?_ ?_
   ·intro hf; cbv
    refine d_B ?_ ?_ <;> exact d_R
   exact d_R
  exact d_R
 intro hf; cbv
 refine d_B ?_ ?_
 ·intro hf; cbv
  refine d_B ?_ ?_
  ·intro hf; cbv
   refine d_B ?_ ?_
   ·intro hf; cbv
    refine d_B ?_ ?_ <;> exact d_R
   exact d_R
  exact d_R
 exact d_R
end
end Go.Proofs.YthfepelpmalckaaGreat
namespace Go.Proofs.YthfepelpmalckaaGreat
open Go Go.Pv
set_option maxRecDepth 100000
set_option maxHeartbeats 2000000
section
variable {M:EncM} (hM:M=mapE)
include hM
theorem c65 {w:GR30World} {i:Int} {r:List Int} (hf:r30_affects w i=some r):Pv.Fn Tryz.prog glF 65 [.agg (eGR30World M w),sI i] (fun u=>u=.sl 1 (mI M r) false):=by
 refine fn_D (tabcOK [19,24]) Tryz.func65 Tryz.call65 ?_
 intro S R hS hR
 have q:=sf hM hS
 unfold r30_affects at hf
 cbv
 refine d_I ?_
 intro x1 hf; cbv
 refine d_br hS hf rfl ?_ ?_
 ·intro hf; cbv
  refine d_I ?_
  exact d_Ry
 intro hf; cbv
 refine d_p hS hf (fun _=>c64 hM) ?_
 intro y3 hf; cbv
 refine d_B ?_ ?_
 ·exact d_R
 intro hf; cbv
 refine d_I ?_
 intro x4 hf; cbv
 refine d_lp hS (tabcOK [19,24]) wf [] [1,2,5,6,7] (fun s5=>f3 83 [(1,sI i),(2,.lv 0 0),(5,.os 1 0 (S.lenN (mI M s5.2))),(6,.lv 2 0),(7,sI s5.1)] [vR (eGR30World M w),aR 1 (mI M s5.2),vR (eGR30Force M x4)]) hf ?_
 intro Ik6 k6 s5 hk6 hf e he; subst he
 unfold r30_affects_l1 at hf
 cbv
 refine d_B ?_ ?_
 ·intro hf; cbv
  refine d_cut hS [] [1,2,5,6,7] (fun s8=>f3 83 [(1,sI i),(2,.lv 0 0),(5,.os 1 0 (S.lenN (mI M s8))),(6,.lv 2 0),(7,sI s5.1)] [vR (eGR30World M w),aR 1 (mI M s8),vR (eGR30Force M x4)]) hf ?_ ?_
  ·intro Ik9 k9 hk9 hf; cbv
   refine d_I ?_
   intro x11 hf; cbv
   refine d_B ?_ ?_
   ·exact d_X
   intro hf; cbv
   refine d_cut hS [] [1,2,5,6,7,8,76] (fun s12=>f3 83 [(1,sI i),(2,.lv 0 0),(5,.os 1 0 (S.lenN (mI M s5.2))),(6,.lv 2 0),(7,sI s5.1),(8,.lv 3 0),(76,.sb s12)] [vR (eGR30World M w),aR 1 (mI M s5.2),vR (eGR30Force M x4),vR (eGObject M x11)]) hf ?_ ?_
   ·intro Ik13 k13 hk13 hf; cbv
    refine d_o hS ?_; cbv
    refine d_br hS hf rfl ?_ ?_
    ·intro hf; cbv
     refine d_c hS hf (fun _=>c68 hM) ?_
     intro y15 hf; cbv
     refine d_br hS hf rfl ?_ ?_
     ·exact d_X
     intro hf; cbv
     refine d_B ?_ ?_
     ·intro hf; cbv
      refine d_I ?_
      intro x16 hf; cbv
      refine d_c hS hf (fun _=>c67 hM) ?_
      intro y17 hf; cbv
      refine d_c hS hf (fun _=>c109 hM) ?_
      exact d_Xy
     exact d_X
    intro hf; cbv
    refine d_B ?_ ?_
    ·intro hf; cbv
     refine d_I ?_
     intro x19 hf; cbv
     refine d_c hS hf (fun _=>c67 hM) ?_
     intro y20 hf; cbv
     refine d_c hS hf (fun _=>c109 hM) ?_
     exact d_Xy
    exact d_X
   intro s12 hf; cbv
   refine d_br hS hf rfl ?_ ?_
   ·intro hf; cbv
    refine d_room hS hf d_e ?_
    exact d_X
   exact d_X
  intro s8 hf; cbv
  exact d_Xz
 exact d_R
theorem c12 {cards:List GCard} {s:GState} {r:GR30World} (hf:r30_first cards s=some r):Pv.Fn Tryz.prog glF 12 [.sl 17 (M.m GCard (eGCard M) cards) false,.agg (eGState M s)] (fun u=>u=.agg (eGR30World M r)):=by
 refine fn_D tabOK Tryz.func12 Tryz.call12 ?_
 intro S R hS hR
 have q:=sf hM hS
 unfold r30_first at hf
 cbv
 refine d_o hS ?_; cbv
 refine d_c hS hf (fun _=>c27 hM) ?_
 intro y1 hf; cbv
 refine d_lp hS tabOK wf [.cO 2 19 17] [0,3,4,5,6] (fun s2=>f3 47 [(0,.sl 17 (M.m GCard (eGCard M) cards) false),(3,.lv 0 0),(4,.lv 1 0),(5,.lv 2 0),(6,sI s2.1)] [vR (eGState M s),vR [.sl 0 [] true,.sl 0 [] true,.sl 0 [] true,.sl 0 [] true,.sl 0 [] true,.sl 0 [] true,.sl 0 [] true,sI 0,sI 0,sI 0,.sb false,sI 0,sI 0,sI 0,sI 0,.si .u64 0,.sl 0 [] true,sI 0,sI 0,.sl 0 [] true,.sl 0 [] true,.sl 0 [] true,.sl 0 [] true,.sl 0 [] true],vR [.sl 14 (M.m GPlayer (eGPlayer M) s.players) false,.sl 19 (M.m GObject (eGObject M) s.objects) false,.sl 1 (mI M s.battlefield) false,.sl 1 (mI M s.exile) false,.sl 94 (M.m GItem (eGItem M) s.stack) false,.sl 89 (M.m GWaiting (eGWaiting M) s.waiting) false,.sl 6 (M.m GCont (eGCont M) s.conts) false,sI s.turn,sI s.active,sI s.step,.sb s.begun,sI s.priority,sI s.passes,sI s.nextId,sI s.nextStamp,.si .u64 s.seed,.sl 1 (mI M s.extra) false,sI s.over,sI s.winner,.os 3 0 (S.lenN (M.m GTraits (eGTraits M) s2.2)),.sl 23 (M.m GR30Force (eGR30Force M) y1) false,.sl 0 [] true,.sl 0 [] true,.sl 0 [] true],aR 17 (M.m GTraits (eGTraits M) s2.2)]) hf ?_
 intro Ik3 k3 s2 hk3 hf e he; subst he
 unfold r30_first_l1 at hf
 cbv
 refine d_B ?_ ?_
 ·intro hf; cbv
  refine d_o hS ?_; cbv
  refine d_I ?_
  intro x5 hf; cbv
  refine d_c hS hf (fun _=>c28 hM) ?_
  intro y6 hf; cbv
  refine d_room hS hf d_e ?_
  exact d_X
 intro hf; cbv
 refine d_mks hS hf d_e d_e ?_
 intro j7 hf; cbv
 refine d_wk hS (e:=eB) hf (by (try simp only [q]); repeat' constructor) ?_
 intro x8 hf; cbv
 refine d_mks hS hf d_e d_e ?_
 intro j9 hf; cbv
 refine d_wk hS (e:=(eL M 1 (eI .i64))) hf (by (try simp only [eL,q]); repeat' constructor) ?_
 intro x10 hf; cbv
 refine d_mks hS hf d_e d_e ?_
 intro j11 hf; cbv
 refine d_wk hS (e:=eB) hf (by (try simp only [q]); repeat' constructor) ?_
 intro x12 hf; cbv
 cases hf; exact hR _ (d_l (by (try simp only [eGR30World,eGTraits,eL,eS,q]); try first | rfl | simp [stdCmp,eI,eB,eL,eS,q]))
theorem c112 {t:GTraits} {m:GMod} {you:Int} {count:Int} {r:GTraits} (hf:r15_Apply t m you count=some r):Pv.Fn Tryz.prog glF 112 [.agg (eGTraits M t),.agg (eGMod M m),sI you,sI count] (fun u=>u=.agg (eGTraits M r)):=by
 refine fn_D tabOK Tryz.func112 Tryz.call112 ?_
 intro S R hS hR
 have q:=sf hM hS
 unfold r15_Apply at hf
 cbv
 refine d_p hS hf (fun _=>c171 hM) ?_
 intro y1 hf; cbv
 refine d_B ?_ ?_
 ·exact d_R
 intro hf; cbv
 refine d_B ?_ ?_
 ·exact d_R
 intro hf; cbv
 refine d_B ?_ ?_
 ·exact d_R
 intro hf; cbv
 refine d_B ?_ ?_
 ·intro hf; cbv
  cases hf; exact hR _ (d_l (by (try simp only [eGR30World,eGTraits,eL,eS,q]); try first | rfl | simp [stdCmp,eI,eB,eL,eS,q]))
 intro hf; cbv
 refine d_B ?_ ?_
 ·intro hf; cbv
  cases hf; exact hR _ (d_l (by (try simp only [eGR30World,eGTraits,eL,eS,q]); try first | rfl | simp [stdCmp,eI,eB,eL,eS,q]))
 intro hf; cbv
 refine d_B ?_ ?_
 ·intro hf; cbv
  refine d_p hS hf (fun _=>c172 hM) ?_
  exact d_Ry
 intro hf; cbv
 refine d_B ?_ ?_
 ·exact d_R
 intro hf; cbv
 refine d_B ?_ ?_
 ·intro hf; cbv
  cases hf; exact hR _ (d_l (by (try simp only [eGR30World,eGTraits,eL,eS,q]); try first | rfl | simp [stdCmp,eI,eB,eL,eS,q]))
 intro hf; cbv
 refine d_B ?_ ?_
 ·intro hf; cbv
  cases hf; exact hR _ (d_l (by (try simp only [eGR30World,eGTraits,eL,eS,q]); try first | rfl | simp [stdCmp,eI,eB,eL,eS,q]))
 intro hf; cbv
 refine d_B ?_ ?_
 ·intro hf; cbv
  cases hf; exact hR _ (d_l (by (try simp only [eGR30World,eGTraits,eL,eS,q]); try first | rfl | simp [stdCmp,eI,eB,eL,eS,q]))
 intro hf; cbv
 refine d_B ?_ ?_
 ·intro hf; cbv
  cases hf; exact hR _ d_st
 intro hf; cbv
 refine d_B ?_ ?_
 ·intro hf; cbv
  refine d_p hS hf (fun _=>c104 hM) ?_
  intro y3 hf; cbv
  refine d_p hS hf (fun _=>c104 hM) ?_
  exact d_Ry
 intro hf; cbv
 refine d_B ?_ ?_
 ·exact d_R
 intro hf; cbv
 refine d_B ?_ ?_
 ·intro hf; cbv
  refine d_p hS hf (fun _=>c60 hM) ?_
  intro y5 hf; cbv
  refine d_p hS hf (fun _=>c60 hM) ?_
  exact d_Ry
 intro hf; cbv
 refine d_B ?_ ?_ <;> exact d_R
theorem c110 {s:GState} {all:List GTraits} {you:Int} {source:Int} {f:GFilter} {r:List Int} (hf:r29_List s all you source f=some r):Pv.Fn Tryz.prog glF 110 [.agg (eGState M s),.sl 17 (M.m GTraits (eGTraits M) all) false,sI you,sI source,.agg (eGFilter M f)] (fun u=>u=.sl 1 (mI M r) false):=by
 refine fn_D (tabcOK [9]) Tryz.func110 Tryz.call110 ?_
 intro S R hS hR
 have q:=sf hM hS
 unfold r29_List at hf
 cbv
 refine d_lp hS (tabcOK [9]) wf [.tO 11 1] [1,2,3,5,9,11,12] (fun s1=>f3 42 [(1,.sl 17 (M.m GTraits (eGTraits M) all) false),(2,sI you),(3,sI source),(5,.lv 0 0),(9,.lv 1 0),(11,.os 2 0 (S.lenN (mI M s1.2))),(12,sI s1.1)] [vR (eGState M s),vR (eGFilter M f),aR 1 (mI M s1.2)]) hf ?_
 intro Ik2 k2 s1 hk2 hf e he; subst he
 unfold r29_List_l1 at hf
 cbv
 refine d_B ?_ ?_
 ·intro hf; cbv
  refine d_cut hS [.tO 11 1] [1,2,3,5,9,11,12] (fun s4=>f3 42 [(1,.sl 17 (M.m GTraits (eGTraits M) all) false),(2,sI you),(3,sI source),(5,.lv 0 0),(9,.lv 1 0),(11,.os 2 0 (S.lenN (mI M s4))),(12,sI s1.1)] [vR (eGState M s),vR (eGFilter M f),aR 1 (mI M s4)]) hf ?_ ?_
  ·intro Ik5 k5 hk5 hf; cbv
   refine d_o hS ?_; cbv
   refine d_I ?_
   intro x7 hf; cbv
   refine d_c hS hf (fun _=>c170 hM) ?_
   intro y8 hf; cbv
   refine d_c hS hf (fun _=>c109 hM) ?_
   intro y9 hf; cbv
   refine d_br hS hf rfl ?_ ?_
   ·intro hf; cbv
    refine d_I ?_
    intro x10 hf; cbv
    refine d_room hS hf d_e ?_
    exact d_X
   exact d_X
  intro s4 hf; cbv
  exact d_Xz
 exact d_R
end
end Go.Proofs.YthfepelpmalckaaGreat
