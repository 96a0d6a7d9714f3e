import Derived.Test.YthfepelpmalckaaGreatB13
set_option linter.all false
namespace Go.Proofs.YthfepelpmalckaaGreat
open Go Go.Pv
set_option maxRecDepth 100000
set_option maxHeartbeats 2000000
section
variable {M:EncM} (hM:M=mapE)
include hM
theorem c106 {left:List Int} {needs:List (List Bool)} {r:List Int} (hf:r07_Ready left needs=some r):Pv.Fn Tryz.prog glF 106 [.sl 1 (mI M left) false,.sl 1 (M.m (List Bool) (eL M 1 eB) needs) false] (fun u=>u=.sl 1 (mI M r) false):=by
 refine fn_D (tabcOK [11,19,20]) Tryz.func106 Tryz.call106 ?_
 intro S R hS hR
 have q:=sf hM hS
 unfold r07_Ready at hf
 cbv
 refine d_p hS hf (fun _=>c158 hM) ?_
 intro y1 hf; cbv
 refine d_lp hS (tabcOK [11,19,20]) wf [.tO 6 1] [1,5,6,7] (fun s2=>f3 63 [(1,.sl 1 (M.m (List Bool) (eL M 1 eB) needs) false),(5,.sl 1 (mI M y1) false),(6,.os 0 0 (S.lenN (mI M s2.2))),(7,sI s2.1)] [aR 1 (mI M s2.2)]) hf ?_
 intro Ik3 k3 s2 hk3 hf e he; subst he
 unfold r07_Ready_l2 at hf
 cbv
 refine d_B ?_ ?_
 ·intro hf; cbv
  refine d_cut hS [.tO 6 1] [1,5,6,7] (fun s5=>f3 63 [(1,.sl 1 (M.m (List Bool) (eL M 1 eB) needs) false),(5,.sl 1 (mI M y1) false),(6,.os 0 0 (S.lenN (mI M s5))),(7,sI s2.1)] [aR 1 (mI M s5)]) hf ?_ ?_
  ·intro Ik6 k6 hk6 hf; cbv
   refine d_lp hS (tabcOK [11,19,20]) wf [] [1,5,6,7,8,9] (fun s8=>f3 63 [(1,.sl 1 (M.m (List Bool) (eL M 1 eB) needs) false),(5,.sl 1 (mI M y1) false),(6,.os 0 0 (S.lenN (mI M s2.2))),(7,sI s2.1),(8,.sb s8.1),(9,sI s8.2)] [aR 1 (mI M s2.2)]) hf ?_
   intro Ik9 k9 s8 hk9 hf e he; subst he
   unfold r07_Ready_l1 at hf
   cbv
   refine d_B ?_ ?_
   ·intro hf; cbv
    refine d_cut hS [] [1,5,6,7,8,9] (fun s11=>f3 63 [(1,.sl 1 (M.m (List Bool) (eL M 1 eB) needs) false),(5,.sl 1 (mI M y1) false),(6,.os 0 0 (S.lenN (mI M s2.2))),(7,sI s2.1),(8,.sb s11),(9,sI s8.2)] [aR 1 (mI M s2.2)]) hf ?_ ?_
    ·intro Ik12 k12 hk12 hf; cbv
     refine d_cut hS [] [1,5,6,7,8,9,53] (fun s14=>f3 63 [(1,.sl 1 (M.m (List Bool) (eL M 1 eB) needs) false),(5,.sl 1 (mI M y1) false),(6,.os 0 0 (S.lenN (mI M s2.2))),(7,sI s2.1),(8,.sb s8.1),(9,sI s8.2),(53,.sb s14)] [aR 1 (mI M s2.2)]) hf ?_ ?_
     ·intro Ik15 k15 hk15 hf; cbv
      refine d_o hS ?_; cbv
      refine d_B ?_ ?_
      ·intro hf; cbv
       refine d_I ?_
       intro x17 hf; cbv
       refine d_I ?_
       intro x18 hf; cbv
       refine d_c hS hf (fun _=>c159 hM) ?_
       intro y19 hf; cbv
       refine d_br hS hf rfl ?_ ?_
       ·intro hf; cbv
        refine d_I ?_
        intro x20 hf; cbv
        refine d_c hS hf (fun _=>c161 hM) ?_
        intro y21 hf; cbv
        refine d_I ?_
        intro x22 hf; cbv
        refine d_c hS hf (fun _=>c160 hM) ?_
        exact d_Xy
       exact d_X
      exact d_X
     intro s14 hf; cbv
     refine d_br hS hf rfl ?_ ?_ <;> exact d_X
    intro s11 hf; cbv
    exact d_Xz
   intro hf; cbv
   refine d_br hS hf rfl ?_ ?_
   ·intro hf; cbv
    refine d_I ?_
    intro x24 hf; cbv
    refine d_room hS hf d_e ?_
    exact d_X
   exact d_X
  intro s5 hf; cbv
  exact d_Xz
 exact d_R
theorem c58 {c:GCard} {r:GTraits} (hf:r28_Printed c=some r):Pv.Fn Tryz.prog glF 58 [.agg (eGCard M c)] (fun u=>u=.agg (eGTraits M r)):=by
 refine fn_D tabOK Tryz.func58 Tryz.call58 ?_
 intro S R hS hR
 have q:=sf hM hS
 unfold r28_Printed at hf
 cbv
 refine d_o hS ?_; cbv
 refine d_c hS hf (fun _=>c101 hM) ?_
 intro y1 hf; cbv
 refine d_room hS hf d_e ?_
 intro hf; cbv
 refine d_lp hS tabOK wf [.cO 2 15 72] [1,2,3,4] (fun s2=>f3 50 [(1,.lv 0 0),(2,.lv 1 0),(3,.lv 2 0),(4,sI s2.1)] [vR (eGCard M c),vR [.str (bs []),sI 0,sI 0,sI 0,sI 0,sI 0,sI 0,sI 0,sI 0,sI 0,sI 0,.sl 0 [] true,sI 0,sI 0,sI 0,.sl 0 [] true,sI 0],vR [.str c.name,sI c.cost.generic,sI c.cost.x,sI c.cost.color.a0,sI c.cost.color.a1,sI c.cost.color.a2,sI c.cost.color.a3,sI c.cost.color.a4,sI (S.bin .or .i64 y1 c.color),sI c.line.super,sI c.line.types,.os 3 0 (S.lenN (S.app (S.sub ([]) 0 0) (M.m ByteArray eS c.line.subs))),sI c.power,sI c.tough,sI c.keys,.os 4 0 (S.lenN (M.m GAbility (eGAbility M) s2.2)),sI 0],aR 1 (S.app (S.sub ([]) 0 0) (M.m ByteArray eS c.line.subs)),aR 72 (M.m GAbility (eGAbility M) s2.2)]) hf ?_
 intro Ik3 k3 s2 hk3 hf e he; subst he
 unfold r28_Printed_l1 at hf
 cbv
 refine d_B ?_ ?_
 ·intro hf; cbv
  refine d_o hS ?_; cbv
  refine d_I ?_
  intro x5 hf; cbv
  refine d_c hS hf (fun _=>c102 hM) ?_
  intro y6 hf; cbv
  refine d_room hS hf d_e ?_
  exact d_X
 exact d_R
theorem c15 {b:GObject} {tb:GTraits} {a:GObject} {ta:GTraits} {r:Bool} (hf:block_Can b tb a ta=some r):Pv.Fn Tryz.prog glF 15 [.agg (eGObject M b),.agg (eGTraits M tb),.agg (eGObject M a),.agg (eGTraits M ta)] (fun u=>u=.sb r):=by
 refine fn_D (tabcOK [4]) Tryz.func15 Tryz.call15 ?_
 intro S R hS hR
 have q:=sf hM hS
 unfold block_Can at hf
 cbv
 refine d_cut hS [] [5,7,9,28] (fun s1=>f3 43 [(5,.lv 0 0),(7,.lv 1 0),(9,.fn 34 []),(28,.sb s1)] [vR (eGTraits M tb),vR (eGTraits M ta)]) hf ?_ ?_
 ·intro Ik2 k2 hk2 hf; cbv
  refine d_B ?_ ?_
  ·exact d_X
  intro hf; cbv
  refine d_br hS hf rfl ?_ ?_
  ·exact d_X
  intro hf; cbv
  refine d_p hS hf (fun _=>c34 hM) ?_
  intro y4 hf; cbv
  refine d_br hS hf rfl ?_ ?_
  ·exact d_X
  intro hf; cbv
  refine d_p hS hf (fun _=>c34 hM) ?_
  exact d_Xy
 intro s1 hf; cbv
 refine d_br hS hf rfl ?_ ?_
 ·exact d_R
 intro hf; cbv
 refine d_p hS hf (fun _=>c34 hM) ?_
 intro y6 hf; cbv
 refine d_B ?_ ?_
 ·exact d_R
 intro hf; cbv
 refine d_p hS hf (fun _=>c34 hM) ?_
 intro y7 hf; cbv
 refine d_br hS hf rfl ?_ ?_
 ·exact d_R
 intro hf; cbv
 refine d_p hS hf (fun _=>c34 hM) ?_
 exact d_Ry
theorem c224 {c:GCost} {x:Int} {r:Int} (hf:r08_Value c x=some r):Pv.Fn Tryz.prog glF 224 [.agg (eGCost M c),sI x] (fun u=>u=sI r):=by
 refine fn_D (tabcOK [10]) Tryz.func224 Tryz.call224 ?_
 intro S R hS hR
 have q:=sf hM hS
 unfold r08_Value at hf
 cbv
 refine d_p hS hf (fun _=>c157 hM) ?_
 intro y1 hf; cbv
 refine d_B ?_ ?_
 ·exact d_R
 intro hf; cbv
 refine l_roundsF hS (tabcOK [10]) wf 7 ?_; intro g2 hg2
 refine hg2 _ _ ?_; cbv
 refine l_seq hS ?_; cbv
 refine d_p hS hf (fun _=>c60 hM) ?_
 intro y3 hf; cbv
 refine hg2 _ _ ?_; cbv
 refine l_seq hS ?_; cbv
 refine d_p hS hf (fun _=>c60 hM) ?_
 intro y4 hf; cbv
 refine hg2 _ _ ?_; cbv
 refine l_seq hS ?_; cbv
 refine d_p hS hf (fun _=>c60 hM) ?_
 intro y5 hf; cbv
 refine hg2 _ _ ?_; cbv
 refine l_seq hS ?_; cbv
 refine d_p hS hf (fun _=>c60 hM) ?_
 intro y6 hf; cbv
 refine hg2 _ _ ?_; cbv
 refine l_seq hS ?_; cbv
 refine d_p hS hf (fun _=>c60 hM) ?_
 intro y7 hf; cbv
 refine hg2 _ _ ?_; cbv
 refine l_seq hS ?_; cbv
 refine d_B ?_ ?_
 ·intro hf; cbv
  refine d_p hS hf (fun _=>c265 hM) ?_
  intro y8 hf; cbv
  refine d_p hS hf (fun _=>c60 hM) ?_
  exact d_Ry
 intro hf; cbv
 refine d_p hS hf (fun _=>c265 hM) ?_
 intro y10 hf; cbv
 refine d_p hS hf (fun _=>c60 hM) ?_
 exact d_Ry
theorem c220 {s:ByteArray} {r:Bool} (hf:r10_IsSub s=some r):Pv.Fn Tryz.prog glF 220 [.str s] (fun u=>u=.sb r):=by
 refine fn_D tabOK Tryz.func220 Tryz.call220 ?_
 intro S R hS hR
 have q:=sf hM hS
 unfold r10_IsSub at hf
 cbv
 refine d_p hS hf (fun _=>c262 hM) ?_
 intro y1 hf; cbv
 refine d_br hS hf rfl ?_ ?_
 ·intro hf; cbv
  refine d_p hS hf (fun _=>c263 hM) ?_
  intro y2 hf; cbv
  refine d_p hS hf (fun _=>c222 hM) ?_
  intro y3 hf; cbv
  refine d_B ?_ ?_
  ·intro hf; cbv
   refine d_p hS hf (fun _=>c264 hM) ?_
   intro y4 hf; cbv
   refine d_p hS hf (fun _=>c222 hM) ?_
   exact d_Ry
  exact d_R
 exact d_R
theorem c16_0 {s:List GOption} {w1:GOption} {r:Bool} (hf:slices_ContainsFunc_option s (fun a0=>block_Check_1 a0 w1)=some r):Pv.Fn Tryz.prog glF 16 [.sl 3 (M.m GOption (eGOption M) s) false,.fn 17 [.pp (eGOption M w1)]] (fun u=>u=.sb r):=by
 refine fn_D tabOK Tryz.func16 Tryz.call16 ?_
 intro S R hS hR
 have q:=sf hM hS
 unfold slices_ContainsFunc_option at hf
 cbv
 refine d_p hS hf (fun _=>c35_0 hM) ?_
 exact d_Ry
theorem c59 {c:Arr3 Int} {r:Int} (hf:r12_Power c=some r):Pv.Fn Tryz.prog glF 59 [.agg [sI c.a0,sI c.a1,sI c.a2]] (fun u=>u=sI r):=by
 refine fn_D tabOK Tryz.func59 Tryz.call59 ?_
 intro S R hS hR
 have q:=sf hM hS
 unfold r12_Power at hf
 cbv
 refine d_p hS hf (fun _=>c103 hM) ?_
 exact d_Ry
end
end Go.Proofs.YthfepelpmalckaaGreat
