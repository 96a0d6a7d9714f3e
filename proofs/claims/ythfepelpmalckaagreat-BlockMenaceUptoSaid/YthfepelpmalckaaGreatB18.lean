import Derived.Test.YthfepelpmalckaaGreatB17
set_option linter.all false
namespace Go.Proofs.YthfepelpmalckaaGreat
open Go Go.Pv
set_option maxRecDepth 100000
set_option maxHeartbeats 2000000
section
variable {M:EncM} (hM:M=mapE)
include hM
theorem c13 {w:GR30World} {stage:Int} {r:GR30World × (List Int)} (hf:r30_staged w stage=some r):Pv.Fn Tryz.prog glF 13 [.agg (eGR30World M w),sI stage] (fun u=>u=.tup [.agg (eGR30World M r.1),.sl 1 (mI M r.2) false]):=by
 refine fn_D (tabcOK [7,13]) Tryz.func13 Tryz.call13 ?_
 intro S R hS hR
 have q:=sf hM hS
 unfold r30_staged at hf
 cbv
 refine d_cut hS [] [1,2,4] (fun s1=>f3 60 [(1,sI stage),(2,.lv 0 0),(4,.lv 1 0)] [vR (eGR30World M s1),vR [.sl 0 [] true,.sl 0 [] true,.sl 0 [] true,.sl 0 [] true,.sl 0 [] true,.sl 0 [] true,.sl 0 [] true,sI 0,sI 0,sI 0,.sb false,sI 0,sI 0,sI 0,sI 0,.si .u64 0,.sl 0 [] true,sI 0,sI 0,.sl 0 [] true,.sl 0 [] true,.sl 0 [] true,.sl 0 [] true,.sl 0 [] true]]) hf ?_ ?_
 ·intro Ik2 k2 hk2 hf; cbv
  refine d_B ?_ ?_
  ·intro hf; cbv
   refine d_p hS hf (fun _=>c29 hM) ?_
   exact d_Xy
  exact d_X
 intro s1 hf; cbv
 refine d_lp hS (tabcOK [7,13]) wf [] [1,2,4,6,7] (fun s5=>f3 60 [(1,sI stage),(2,.lv 0 0),(4,.lv 1 0),(6,.os 2 0 (S.lenN (mI M s5.2))),(7,sI s5.1)] [vR (eGR30World M s1),vR [.sl 0 [] true,.sl 0 [] true,.sl 0 [] true,.sl 0 [] true,.sl 0 [] true,.sl 0 [] true,.sl 0 [] true,sI 0,sI 0,sI 0,.sb false,sI 0,sI 0,sI 0,sI 0,.si .u64 0,.sl 0 [] true,sI 0,sI 0,.sl 0 [] true,.sl 0 [] true,.sl 0 [] true,.sl 0 [] true,.sl 0 [] true],aR 1 (mI M s5.2)]) hf ?_
 intro Ik6 k6 s5 hk6 hf e he; subst he
 unfold r30_staged_l2 at hf
 cbv
 refine d_B ?_ ?_
 ·intro hf; cbv
  refine d_cut hS [] [1,2,4,6,7] (fun s8=>f3 60 [(1,sI stage),(2,.lv 0 0),(4,.lv 1 0),(6,.os 2 0 (S.lenN (mI M s8))),(7,sI s5.1)] [vR (eGR30World M s1),vR [.sl 0 [] true,.sl 0 [] true,.sl 0 [] true,.sl 0 [] true,.sl 0 [] true,.sl 0 [] true,.sl 0 [] true,sI 0,sI 0,sI 0,.sb false,sI 0,sI 0,sI 0,sI 0,.si .u64 0,.sl 0 [] true,sI 0,sI 0,.sl 0 [] true,.sl 0 [] true,.sl 0 [] true,.sl 0 [] true,.sl 0 [] true],aR 1 (mI M s8)]) hf ?_ ?_
  ·intro Ik9 k9 hk9 hf; cbv
   refine d_I ?_
   intro x11 hf; cbv
   refine d_p hS hf (fun _=>c30 hM) ?_
   intro y12 hf; cbv
   refine d_br hS hf rfl ?_ ?_
   ·intro hf; cbv
    refine d_room hS hf d_e ?_
    exact d_X
   exact d_X
  intro s8 hf; cbv
  exact d_Xz
 intro hf; cbv
 refine d_lp hS (tabcOK [7,13]) wf [.tF 6,.tR 8] [1,2,4,6,8,9,10] (fun s13=>f3 60 [(1,sI stage),(2,.lv 0 0),(4,.lv 1 0),(6,.sl 1 (mI M s13.2.1) false),(8,.os 2 0 (S.lenN (mI M s13.2.2.2))),(9,sI (S.nint (S.lenN (mI M s5.2)))),(10,sI s13.2.2.1)] [vR (eGR30World M s13.1),vR [.sl 0 [] true,.sl 0 [] true,.sl 0 [] true,.sl 0 [] true,.sl 0 [] true,.sl 0 [] true,.sl 0 [] true,sI 0,sI 0,sI 0,.sb false,sI 0,sI 0,sI 0,sI 0,.si .u64 0,.sl 0 [] true,sI 0,sI 0,.sl 0 [] true,.sl 0 [] true,.sl 0 [] true,.sl 0 [] true,.sl 0 [] true],aR 1 (mI M s13.2.2.2)]) hf ?_
 intro Ik14 k14 s13 hk14 hf e he; subst he
 unfold r30_staged_l1 at hf
 cbv
 refine d_B ?_ ?_
 ·intro hf; cbv
  refine d_p hS hf (fun _=>c31 hM) ?_
  intro y16 hf; cbv
  refine d_room hS hf d_e ?_
  intro hf; cbv
  refine d_p hS hf (fun _=>c32 hM) ?_
  intro y17 hf; cbv
  refine d_p hS hf (fun _=>c33 hM) ?_
  exact d_Xy
 exact d_R
end
end Go.Proofs.YthfepelpmalckaaGreat
namespace Go.Proofs.YthfepelpmalckaaGreat
open Go Go.Pv
set_option maxRecDepth 100000
set_option maxHeartbeats 2000000
section
variable {M:EncM} (hM:M=mapE)
include hM
theorem c6 {cards:List GCard} {s:GState} {r:List GTraits} (hf:r30_All cards s=some r):Pv.Fn Tryz.prog glF 6 [.sl 17 (M.m GCard (eGCard M) cards) false,.agg (eGState M s)] (fun u=>u=.sl 17 (M.m GTraits (eGTraits M) r) false):=by
 refine fn_D (tabcOK [6]) Tryz.func6 Tryz.call6 ?_
 intro S R hS hR
 have q:=sf hM hS
 unfold r30_All at hf
 cbv
 refine d_p hS hf (fun _=>c12 hM) ?_
 intro y1 hf; cbv
 refine l_roundsF hS (tabcOK [6]) wf 10 ?_; intro g2 hg2
 refine hg2 _ _ ?_; cbv
 refine l_seq hS ?_; cbv
 refine d_p hS hf (fun _=>c13 hM) ?_
 intro y3 hf; cbv
 refine hg2 _ _ ?_; cbv
 refine l_seq hS ?_; cbv
 refine d_p hS hf (fun _=>c13 hM) ?_
 intro y4 hf; cbv
 refine hg2 _ _ ?_; cbv
 refine l_seq hS ?_; cbv
 refine d_p hS hf (fun _=>c13 hM) ?_
 intro y5 hf; cbv
 refine hg2 _ _ ?_; cbv
 refine l_seq hS ?_; cbv
 refine d_p hS hf (fun _=>c13 hM) ?_
 intro y6 hf; cbv
 refine hg2 _ _ ?_; cbv
 refine l_seq hS ?_; cbv
 refine d_p hS hf (fun _=>c13 hM) ?_
 intro y7 hf; cbv
 refine hg2 _ _ ?_; cbv
 refine l_seq hS ?_; cbv
 refine d_p hS hf (fun _=>c13 hM) ?_
 intro y8 hf; cbv
 refine hg2 _ _ ?_; cbv
 refine l_seq hS ?_; cbv
 refine d_p hS hf (fun _=>c13 hM) ?_
 intro y9 hf; cbv
 refine hg2 _ _ ?_; cbv
 refine l_seq hS ?_; cbv
 refine d_p hS hf (fun _=>c13 hM) ?_
 intro y10 hf; cbv
 refine hg2 _ _ ?_; cbv
 refine l_seq hS ?_; cbv
 exact d_Rz
end
end Go.Proofs.YthfepelpmalckaaGreat
namespace Go.Proofs.YthfepelpmalckaaGreat
open Go Go.Pv
set_option maxRecDepth 100000
set_option maxHeartbeats 2000000
section
variable {M:EncM} (hM:M=mapE)
include hM
theorem c3 {keys:Int} {n:Int} {picked:Int} {r:Bool} (hf:law46_BlockMenace keys n picked=some r):Pv.Fn Tryz.prog glF 3 [sI keys,sI n,sI picked] (fun u=>u=.sb r):=by
 refine fn_D (tabqOK [2,14,16,22,27] [77,90,96,97]) Tryz.func3 Tryz.call3 ?_
 intro S R hS hR
 have q:=sf hM hS
 unfold law46_BlockMenace at hf
 cbv
 refine d_cut hS [] [0,1,2,34] (fun s1=>f3 104 [(0,sI keys),(1,sI n),(2,sI picked),(34,.sb s1)] []) hf ?_ ?_
 ·intro Ik2 k2 hk2 hf; cbv
  refine d_B ?_ ?_
  ·exact d_X
  intro hf; cbv
  refine d_B ?_ ?_
  ·exact d_X
  intro hf; cbv
  refine d_B ?_ ?_
  ·exact d_X
  intro hf; cbv
  refine d_B ?_ ?_
  ·exact d_X
  intro hf; cbv
  refine d_B ?_ ?_ <;> exact d_X
 intro s1 hf; cbv
 refine d_br hS hf rfl ?_ ?_
 ·intro hf; cbv
  refine d_p hS hf (fun _=>c4 hM) ?_
  exact d_Ry
 intro hf; cbv
 refine d_p hS hf (fun _=>c5 hM) ?_
 intro y5 hf; cbv
 refine d_p hS hf (fun _=>c6 hM) ?_
 intro y6 hf; cbv
 refine d_p hS hf (fun _=>c7 hM) ?_
 intro y7 hf; cbv
 refine d_B ?_ ?_
 ·intro hf; cbv
  refine d_cut hS [] [6] (fun s8=>f3 104 [(6,.sb s8)] []) hf ?_ ?_
  ·intro Ik9 k9 hk9 hf; cbv
   refine d_p hS hf (fun _=>c4 hM) ?_
   intro y11 hf; cbv
   refine d_br hS hf rfl ?_ ?_ <;> exact d_X
  intro s8 hf; cbv
  exact d_Rz
 intro hf; cbv
 refine d_cut hS [] [0,1,2,8,9,10,67] (fun s12=>f3 104 [(0,sI keys),(1,sI n),(2,sI picked),(8,.lv 0 0),(9,.sl 17 (M.m GTraits (eGTraits M) y6) false),(10,.sl 3 (M.m GOption (eGOption M) y7) false),(67,.sb s12)] [vR (eGState M y5.2)]) hf ?_ ?_
 ·intro Ik13 k13 hk13 hf; cbv
  refine d_B ?_ ?_
  ·exact d_X
  intro hf; cbv
  refine d_p hS hf (fun _=>c7 hM) ?_
  exact d_Xy
 intro s12 hf; cbv
 refine d_br hS hf rfl ?_ ?_
 ·exact d_R
 intro hf; cbv
 refine l_seqC hS [.tP 8] ?_; cbv
 refine d_cut hS [] [1,2,8,9,10,11,74] (fun s16=>f3 104 [(1,sI n),(2,sI picked),(8,.lv 0 0),(9,.sl 17 (M.m GTraits (eGTraits M) y6) false),(10,.sl 3 (M.m GOption (eGOption M) y7) false),(11,sI 0),(74,.sb s16)] [vR (eGState M y5.2)]) hf ?_ ?_
 ·intro Ik17 k17 hk17 hf; cbv
  refine d_B ?_ ?_ <;> exact d_X
 intro s16 hf; cbv
 refine d_br hS hf rfl ?_ ?_
 ·intro hf; cbv
  refine d_o hS ?_; cbv
  refine d_c hS hf (fun _=>c4 hM) ?_
  intro y19 hf; cbv
  refine d_br hS hf rfl ?_ ?_
  ·intro hf; cbv
   refine d_slc hS hf d_e rfl rfl ?_
   intro x20 bx20 hf; cbv
   refine d_call hS hf (fun _=>c8 hM) d_le ?_
   intro y21 hf; cbv
   refine d_B ?_ ?_
   ·intro hf; cbv
    refine d_B ?_ ?_
    ·exact d_R
    intro hf; cbv
    refine d_room hS hf d_e ?_
    intro hf; cbv
    refine d_I ?_
    intro x22 hf; cbv
    refine d_room hS hf d_e ?_
    intro hf; cbv
    refine d_callf hS hf (fun _=>c8 hM) d_le (fun _=>rfl) ?_
    exact d_Ry
   exact d_R
  exact d_R
 intro hf; cbv
 refine d_o hS ?_; cbv
 refine d_c hS hf (fun _=>c4 hM) ?_
 intro y24 hf; cbv
 refine d_br hS hf rfl ?_ ?_
 ·intro hf; cbv
  refine d_slc hS hf d_e rfl rfl ?_
  intro x25 bx25 hf; cbv
  refine d_call hS hf (fun _=>c8 hM) d_le ?_
  intro y26 hf; cbv
  refine d_B ?_ ?_
  ·intro hf; cbv
   refine d_B ?_ ?_
   ·exact d_R
   intro hf; cbv
   refine d_room hS hf d_e ?_
   intro hf; cbv
   refine d_I ?_
   intro x27 hf; cbv
   refine d_room hS hf d_e ?_
   intro hf; cbv
   refine d_callf hS hf (fun _=>c8 hM) d_le (fun _=>rfl) ?_
   exact d_Ry
  exact d_R
 exact d_R
end
end Go.Proofs.YthfepelpmalckaaGreat
