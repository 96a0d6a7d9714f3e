import Derived.Test.YthfepelpmalckaaGreatDoorD18
set_option linter.all false
namespace Go.Proofs.YthfepelpmalckaaGreatDoor
open Go Go.Pv
set_option maxRecDepth 100000
set_option maxHeartbeats 2000000
section
variable {M:EncM} (hM:M=mapE)
include hM
theorem c27 {a:GState} {b:GState} {r:Bool} (hf:r26_lists a b=some r):Pv.Fn Tryz.prog glF 27 [.agg (eGState M a),.agg (eGState M b)] (fun u=>u=.sb r):=by
 refine fn_D (tabcOK [2]) Tryz.func27 Tryz.call27 ?_
 intro S R hS hR
 have q:=sf hM hS
 unfold r26_lists at hf
 cbv
 refine d_cut hS [] [2,3,52] (fun s1=>f3 147 [(2,.lv 0 0),(3,.lv 1 0),(52,.sb s1)] [vR (eGState M a),vR (eGState M b)]) hf ?_ ?_
 ·intro Ik2 k2 hk2 hf; cbv
  refine d_B ?_ ?_
  ·exact d_X
  intro hf; cbv
  refine d_B ?_ ?_
  ·exact d_X
  intro hf; cbv
  refine d_B ?_ ?_
  ·exact d_X
  intro hf; cbv
  refine d_B ?_ ?_ <;> exact d_X
 intro s1 hf; cbv
 refine d_br hS hf rfl ?_ ?_
 ·exact d_R
 intro hf; cbv
 refine d_lp hS (tabcOK [2]) wf [] [2,3,5] (fun s4=>f3 147 [(2,.lv 0 0),(3,.lv 1 0),(5,sI s4)] [vR (eGState M a),vR (eGState M b)]) hf ?_
 intro Ik5 k5 s4 hk5 hf e he; subst he
 unfold r26_lists_l5 at hf
 cbv
 refine d_B ?_ ?_
 ·intro hf; cbv
  refine d_o hS ?_; cbv
  refine d_I ?_
  intro x7 hf; cbv
  refine d_I ?_
  intro x8 hf; cbv
  refine d_c hS hf (fun _=>c99 hM) ?_
  intro y9 hf; cbv
  refine d_B ?_ ?_
  ·exact d_R
  exact d_X
 intro hf; cbv
 refine d_lp hS (tabcOK [2]) wf [] [2,3,6] (fun s10=>f3 147 [(2,.lv 0 0),(3,.lv 1 0),(6,sI s10)] [vR (eGState M a),vR (eGState M b)]) hf ?_
 intro Ik11 k11 s10 hk11 hf e he; subst he
 unfold r26_lists_l4 at hf
 cbv
 refine d_B ?_ ?_
 ·intro hf; cbv
  refine d_o hS ?_; cbv
  refine d_I ?_
  intro x13 hf; cbv
  refine d_I ?_
  intro x14 hf; cbv
  replace hf:=d_lt hf
  refine d_B ?_ ?_
  ·exact d_R
  exact d_X
 intro hf; cbv
 refine d_lp hS (tabcOK [2]) wf [] [2,3,7] (fun s16=>f3 147 [(2,.lv 0 0),(3,.lv 1 0),(7,sI s16)] [vR (eGState M a),vR (eGState M b)]) hf ?_
 intro Ik17 k17 s16 hk17 hf e he; subst he
 unfold r26_lists_l3 at hf
 cbv
 refine d_B ?_ ?_
 ·intro hf; cbv
  refine d_o hS ?_; cbv
  refine d_I ?_
  intro x19 hf; cbv
  refine d_I ?_
  intro x20 hf; cbv
  refine d_c hS hf (fun _=>c100 hM) ?_
  intro y21 hf; cbv
  refine d_B ?_ ?_
  ·exact d_R
  exact d_X
 intro hf; cbv
 refine d_lp hS (tabcOK [2]) wf [] [2,3,8] (fun s22=>f3 147 [(2,.lv 0 0),(3,.lv 1 0),(8,sI s22)] [vR (eGState M a),vR (eGState M b)]) hf ?_
 intro Ik23 k23 s22 hk23 hf e he; subst he
 unfold r26_lists_l2 at hf
 cbv
 refine d_B ?_ ?_
 ·intro hf; cbv
  refine d_o hS ?_; cbv
  refine d_I ?_
  intro x25 hf; cbv
  refine d_I ?_
  intro x26 hf; cbv
  refine d_c hS hf (fun _=>c101 hM) ?_
  intro y27 hf; cbv
  refine d_B ?_ ?_
  ·exact d_R
  exact d_X
 intro hf; cbv
 refine d_lp hS (tabcOK [2]) wf [] [2,3,9] (fun s28=>f3 147 [(2,.lv 0 0),(3,.lv 1 0),(9,sI s28)] [vR (eGState M a),vR (eGState M b)]) hf ?_
 intro Ik29 k29 s28 hk29 hf e he; subst he
 unfold r26_lists_l1 at hf
 cbv
 refine d_B ?_ ?_
 ·intro hf; cbv
  refine d_o hS ?_; cbv
  refine d_I ?_
  intro x31 hf; cbv
  refine d_I ?_
  intro x32 hf; cbv
  refine d_c hS hf (fun _=>c102 hM) ?_
  intro y33 hf; cbv
  refine d_B ?_ ?_
  ·exact d_R
  exact d_X
 exact d_R
theorem c180 {m:GMod} {r:ByteArray} (hf:r15_Text m=some r):Pv.Fn Tryz.prog glF 180 [.agg (eGMod M m)] (fun u=>u=.str r):=by
 refine fn_D tabOK Tryz.func180 Tryz.call180 ?_
 intro S R hS hR
 have q:=sf hM hS
 unfold r15_Text at hf
 cbv
 refine d_p hS hf (fun _=>c179 hM) ?_
 intro y1 hf; cbv
 refine d_B ?_ ?_
 ·exact d_R
 intro hf; cbv
 refine d_B ?_ ?_
 ·exact d_R
 intro hf; cbv
 refine d_B ?_ ?_
 ·intro hf; cbv
  refine d_p hS hf (fun _=>c245 hM) ?_
  intro y2 hf; cbv
  refine d_cat hS hf rfl rfl ?_
  exact d_Ry
 intro hf; cbv
 refine d_B ?_ ?_
 ·intro hf; cbv
  refine d_p hS hf (fun _=>c245 hM) ?_
  intro y4 hf; cbv
  refine d_cat hS hf rfl rfl ?_
  exact d_Ry
 intro hf; cbv
 refine d_B ?_ ?_
 ·intro hf; cbv
  refine d_cat hS hf rfl rfl ?_
  exact d_Ry
 intro hf; cbv
 refine d_B ?_ ?_
 ·intro hf; cbv
  refine d_cat hS hf rfl rfl ?_
  exact d_Ry
 intro hf; cbv
 refine d_B ?_ ?_
 ·intro hf; cbv
  refine d_p hS hf (fun _=>c246 hM) ?_
  intro y8 hf; cbv
  refine d_cat hS hf rfl rfl ?_
  exact d_Ry
 intro hf; cbv
 refine d_B ?_ ?_
 ·intro hf; cbv
  refine d_p hS hf (fun _=>c246 hM) ?_
  intro y10 hf; cbv
  refine d_cat hS hf rfl rfl ?_
  exact d_Ry
 intro hf; cbv
 refine d_B ?_ ?_
 ·intro hf; cbv
  refine d_p hS hf (fun _=>c247 hM) ?_
  intro y12 hf; cbv
  refine d_cat hS hf rfl rfl ?_
  exact d_Ry
 intro hf; cbv
 refine d_B ?_ ?_
 ·intro hf; cbv
  refine d_p hS hf (fun _=>c247 hM) ?_
  intro y14 hf; cbv
  refine d_cat hS hf rfl rfl ?_
  exact d_Ry
 intro hf; cbv
 refine d_B ?_ ?_
 ·exact d_R
 intro hf; cbv
 refine d_B ?_ ?_
 ·intro hf; cbv
  refine d_p hS hf (fun _=>c248 hM) ?_
  intro y16 hf; cbv
  refine d_cat hS hf rfl rfl ?_
  intro x17 hf; cbv
  refine d_cat hS hf rfl rfl ?_
  exact d_Ry
 intro hf; cbv
 refine d_B ?_ ?_
 ·intro hf; cbv
  refine d_o hS ?_; cbv
  refine d_c hS hf (fun _=>c249 hM) ?_
  intro y19 hf; cbv
  refine d_cat hS hf rfl rfl ?_
  intro x20 hf; cbv
  refine d_cat hS hf rfl rfl ?_
  intro x21 hf; cbv
  refine d_c hS hf (fun _=>c249 hM) ?_
  intro y22 hf; cbv
  refine d_cat hS hf rfl rfl ?_
  exact d_Ry
 intro hf; cbv
 refine d_B ?_ ?_
 ·intro hf; cbv
  refine d_o hS ?_; cbv
  refine d_c hS hf (fun _=>c249 hM) ?_
  intro y24 hf; cbv
  refine d_cat hS hf rfl rfl ?_
  intro x25 hf; cbv
  refine d_cat hS hf rfl rfl ?_
  intro x26 hf; cbv
  refine d_c hS hf (fun _=>c249 hM) ?_
  intro y27 hf; cbv
  refine d_cat hS hf rfl rfl ?_
  exact d_Ry
 exact d_R
theorem c236 {pr:GReplace} {r:Bool} (hf:r19_moves pr=some r):Pv.Fn Tryz.prog glF 236 [.agg (eGReplace M pr)] (fun u=>u=.sb r):=by
 refine fn_D (tabcOK [2]) Tryz.func236 Tryz.call236 ?_
 intro S R hS hR
 have q:=sf hM hS
 unfold r19_moves at hf
 cbv
 refine d_cut hS [] [1,11] (fun s1=>f3 79 [(1,.lv 0 0),(11,.sb s1)] [vR (eGReplace M pr)]) hf ?_ ?_
 ·intro Ik2 k2 hk2 hf; cbv
  refine d_B ?_ ?_
  ·exact d_X
  intro hf; cbv
  refine d_p hS hf (fun _=>c238 hM) ?_
  exact d_Xy
 intro s1 hf; cbv
 refine d_br hS hf rfl ?_ ?_
 ·exact d_R
 intro hf; cbv
 refine d_B ?_ ?_
 ·intro hf; cbv
  refine d_B ?_ ?_
  ·intro hf; cbv
   refine d_B ?_ ?_
   ·intro hf; cbv
    refine d_B ?_ ?_
    ·exact d_R
    intro hf; cbv
    refine d_B ?_ ?_ <;> exact d_R
   exact d_R
  exact d_R
 intro hf; cbv
 refine d_B ?_ ?_
 ·intro hf; cbv
  refine d_B ?_ ?_
  ·intro hf; cbv
   refine d_B ?_ ?_ <;> exact d_R
  exact d_R
 intro hf; cbv
 refine d_B ?_ ?_
 ·intro hf; cbv
  refine d_B ?_ ?_
  ·intro hf; cbv
   refine d_B ?_ ?_
   ·intro hf; cbv
    refine d_B ?_ ?_
    ·intro hf; cbv
     refine d_B ?_ ?_ <;> exact d_R
    exact d_R
   exact d_R
  exact d_R
 exact d_R
theorem c170 {l:List GSpec} {r:Bool} (hf:r20_specs l=some r):Pv.Fn Tryz.prog glF 170 [.sl 18 (M.m GSpec (eGSpec M) l) false] (fun u=>u=.sb r):=by
 refine fn_D tabOK Tryz.func170 Tryz.call170 ?_
 intro S R hS hR
 have q:=sf hM hS
 unfold r20_specs at hf
 cbv
 refine d_lp hS tabOK wf [] [0,3] (fun s1=>f3 19 [(0,.sl 18 (M.m GSpec (eGSpec M) l) false),(3,sI s1)] []) hf ?_
 intro Ik2 k2 s1 hk2 hf e he; subst he
 unfold r20_specs_l1 at hf
 cbv
 refine d_B ?_ ?_
 ·intro hf; cbv
  refine d_I ?_
  intro x4 hf; cbv
  refine d_p hS hf (fun _=>c239 hM) ?_
  intro y5 hf; cbv
  refine d_B ?_ ?_
  ·exact d_R
  exact d_X
 exact d_R
end
end Go.Proofs.YthfepelpmalckaaGreatDoor
namespace Go.Proofs.YthfepelpmalckaaGreatDoor
open Go Go.Pv
set_option maxRecDepth 100000
set_option maxHeartbeats 2000000
section
variable {M:EncM} (hM:M=mapE)
include hM
theorem c169 {pr:GReplace} {r:Bool} (hf:r19_Is pr=some r):Pv.Fn Tryz.prog glF 169 [.agg (eGReplace M pr)] (fun u=>u=.sb r):=by
 refine fn_D (tabcOK [12,18]) Tryz.func169 Tryz.call169 ?_
 intro S R hS hR
 have q:=sf hM hS
 unfold r19_Is at hf
 cbv
 refine d_B ?_ ?_
 ·intro hf; cbv
  refine d_p hS hf (fun _=>c236 hM) ?_
  exact d_Ry
 intro hf; cbv
 refine d_p hS hf (fun _=>c237 hM) ?_
 intro y2 hf; cbv
 refine d_B ?_ ?_
 ·exact d_R
 intro hf; cbv
 replace hf:=d_lt hf
 refine d_cut hS [] [1,3,4] (fun s4=>f3 127 [(1,.lv 0 0),(3,.sb s4.1),(4,.sb s4.2)] [vR (eGReplace M pr)]) hf ?_ ?_
 ·intro Ik5 k5 hk5 hf; cbv
  refine d_B ?_ ?_
  ·exact d_X
  intro hf; cbv
  refine d_B ?_ ?_ <;> exact d_X
 intro s4 hf; cbv
 refine d_B ?_ ?_
 ·intro hf; cbv
  refine d_cut hS [] [1,3,51] (fun s7=>f3 127 [(1,.lv 0 0),(3,.sb s4.1),(51,.sb s7)] [vR (eGReplace M pr)]) hf ?_ ?_
  ·intro Ik8 k8 hk8 hf; cbv
   refine d_B ?_ ?_
   ·intro hf; cbv
    refine d_B ?_ ?_
    ·intro hf; cbv
     refine d_B ?_ ?_ <;> exact d_X
    exact d_X
   exact d_X
  intro s7 hf; cbv
  refine d_br hS hf rfl ?_ ?_
  ·exact d_R
  intro hf; cbv
  refine d_B ?_ ?_
  ·intro hf; cbv
   refine d_p hS hf (fun _=>c238 hM) ?_
   intro y10 hf; cbv
   refine d_br hS hf rfl ?_ ?_
   ·exact d_R
   intro hf; cbv
   refine d_B ?_ ?_
   ·exact d_R
   intro hf; cbv
   refine d_B ?_ ?_ <;> exact d_R
  intro hf; cbv
  refine d_B ?_ ?_
  ·exact d_R
  intro hf; cbv
  refine d_B ?_ ?_ <;> exact d_R
 intro hf; cbv
 refine d_B ?_ ?_
 ·intro hf; cbv
  refine d_br hS hf rfl ?_ ?_
  ·intro hf; cbv
   refine d_B ?_ ?_
   ·intro hf; cbv
    refine d_p hS hf (fun _=>c238 hM) ?_
    exact d_Ry
   exact d_R
  exact d_R
 intro hf; cbv
 refine d_B ?_ ?_
 ·intro hf; cbv
  refine d_B ?_ ?_
  ·intro hf; cbv
   refine d_B ?_ ?_
   ·intro hf; cbv
    refine d_B ?_ ?_ <;> exact d_R
   exact d_R
  intro hf; cbv
  refine d_B ?_ ?_
  ·intro hf; cbv
   refine d_B ?_ ?_
   ·intro hf; cbv
    refine d_B ?_ ?_ <;> exact d_R
   exact d_R
  exact d_R
 intro hf; cbv
 refine d_B ?_ ?_
 ·intro hf; cbv
  refine d_br hS hf rfl ?_ ?_
  ·intro hf; cbv
   refine d_B ?_ ?_
   ·intro hf; cbv
    refine d_B ?_ ?_ <;> exact d_R
   exact d_R
  exact d_R
 intro hf; cbv
 refine d_B ?_ ?_
 ·intro hf; cbv
  refine d_br hS hf rfl ?_ ?_
  ·intro hf; cbv
   refine d_B ?_ ?_
   ·intro hf; cbv
    refine d_B ?_ ?_ <;> exact d_R
   exact d_R
  exact d_R
 intro hf; cbv
 refine d_B ?_ ?_
 ·intro hf; cbv
  refine d_br hS hf rfl ?_ ?_
  ·intro hf; cbv
   refine d_B ?_ ?_
   ·intro hf; cbv
    refine d_B ?_ ?_ <;> exact d_R
   exact d_R
  exact d_R
 exact d_R
theorem c10 {a:GState} {b:GState} {r:Bool} (hf:r26_Same a b=some r):Pv.Fn Tryz.prog glF 10 [.agg (eGState M a),.agg (eGState M b)] (fun u=>u=.sb r):=by
 refine fn_D (tabcOK [2]) Tryz.func10 Tryz.call10 ?_
 intro S R hS hR
 have q:=sf hM hS
 unfold r26_Same at hf
 cbv
 refine d_cut hS [] [2,3,79] (fun s1=>f3 104 [(2,.lv 0 0),(3,.lv 1 0),(79,.sb s1)] [vR (eGState M a),vR (eGState M b)]) hf ?_ ?_
 ·intro Ik2 k2 hk2 hf; cbv
  refine d_B ?_ ?_
  ·exact d_X
  intro hf; cbv
  refine d_B ?_ ?_
  ·exact d_X
  intro hf; cbv
  refine d_B ?_ ?_
  ·exact d_X
  intro hf; cbv
  refine d_B ?_ ?_
  ·exact d_X
  intro hf; cbv
  refine d_B ?_ ?_
  ·exact d_X
  intro hf; cbv
  refine d_B ?_ ?_
  ·exact d_X
  intro hf; cbv
  refine d_B ?_ ?_
  ·exact d_X
  intro hf; cbv
  refine d_B ?_ ?_
  ·exact d_X
  intro hf; cbv
  refine d_B ?_ ?_
  ·exact d_X
  intro hf; cbv
  refine d_B ?_ ?_ <;> exact d_X
 intro s1 hf; cbv
 refine d_br hS hf rfl ?_ ?_
 ·exact d_R
 intro hf; cbv
 refine d_p hS hf (fun _=>c27 hM) ?_
 intro y4 hf; cbv
 refine d_br hS hf rfl ?_ ?_
 ·intro hf; cbv
  refine d_p hS hf (fun _=>c28 hM) ?_
  intro y5 hf; cbv
  refine d_br hS hf rfl ?_ ?_
  ·intro hf; cbv
   refine d_p hS hf (fun _=>c28 hM) ?_
   intro y6 hf; cbv
   refine d_br hS hf rfl ?_ ?_
   ·intro hf; cbv
    refine d_p hS hf (fun _=>c28 hM) ?_
    exact d_Ry
   exact d_R
  exact d_R
 exact d_R
theorem c117 {l:List GMod} {r:ByteArray} (hf:r15_ListText l=some r):Pv.Fn Tryz.prog glF 117 [.sl 20 (M.m GMod (eGMod M) l) false] (fun u=>u=.str r):=by
 refine fn_D (tabcOK [2,13,23]) Tryz.func117 Tryz.call117 ?_
 intro S R hS hR
 have q:=sf hM hS
 unfold r15_ListText at hf
 cbv
 refine d_cut hS [] [0,12] (fun s1=>f3 37 [(0,.sl 20 (M.m GMod (eGMod M) l) false),(12,.sb s1)] []) hf ?_ ?_
 ·intro Ik2 k2 hk2 hf; cbv
  refine d_B ?_ ?_ <;> exact d_X
 intro s1 hf; cbv
 refine d_br hS hf rfl ?_ ?_
 ·exact d_R
 intro hf; cbv
 refine d_lp hS (tabcOK [2,13,23]) wf [] [0,3,4] (fun s4=>f3 37 [(0,.sl 20 (M.m GMod (eGMod M) l) false),(3,.str s4.1),(4,sI s4.2)] []) hf ?_
 intro Ik5 k5 s4 hk5 hf e he; subst he
 unfold r15_ListText_l1 at hf
 cbv
 refine d_B ?_ ?_
 ·intro hf; cbv
  refine d_cut hS [] [0,3,4] (fun s7=>f3 37 [(0,.sl 20 (M.m GMod (eGMod M) l) false),(3,.str s7),(4,sI s4.2)] []) hf ?_ ?_
  ·intro Ik8 k8 hk8 hf; cbv
   refine d_I ?_
   intro x10 hf; cbv
   refine d_p hS hf (fun _=>c179 hM) ?_
   intro y11 hf; cbv
   refine d_B ?_ ?_
   ·exact d_R
   intro hf; cbv
   refine d_cut hS [] [0,3,4] (fun s12=>f3 37 [(0,.sl 20 (M.m GMod (eGMod M) l) false),(3,.str s12),(4,sI s4.2)] []) hf ?_ ?_
   ·intro Ik13 k13 hk13 hf; cbv
    refine d_B ?_ ?_
    ·intro hf; cbv
     refine d_cat hS hf rfl rfl ?_
     exact d_Xy
    exact d_X
   intro s12 hf; cbv
   refine d_I ?_
   intro x16 hf; cbv
   refine d_p hS hf (fun _=>c180 hM) ?_
   intro y17 hf; cbv
   refine d_cat hS hf rfl rfl ?_
   exact d_Xy
  intro s7 hf; cbv
  exact d_Xz
 exact d_R
end
end Go.Proofs.YthfepelpmalckaaGreatDoor
