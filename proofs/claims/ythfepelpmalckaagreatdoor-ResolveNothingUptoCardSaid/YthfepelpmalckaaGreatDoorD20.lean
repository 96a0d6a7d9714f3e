import Derived.Test.YthfepelpmalckaaGreatDoorD19
set_option linter.all false
namespace Go.Proofs.YthfepelpmalckaaGreatDoor
open Go Go.Pv
set_option maxRecDepth 100000
set_option maxHeartbeats 2000000
section
variable {M:EncM} (hM:M=mapE)
include hM
theorem c304 {l:List GMod} {r:Bool} (hf:r17_mods l=some r):Pv.Fn Tryz.prog glF 304 [.sl 20 (M.m GMod (eGMod M) l) false] (fun u=>u=.sb r):=by
 refine fn_D tabOK Tryz.func304 Tryz.call304 ?_
 intro S R hS hR
 have q:=sf hM hS
 unfold r17_mods at hf
 cbv
 refine d_p hS hf (fun _=>c117 hM) ?_
 exact d_Ry
end
end Go.Proofs.YthfepelpmalckaaGreatDoor
namespace Go.Proofs.YthfepelpmalckaaGreatDoor
open Go Go.Pv
set_option maxRecDepth 100000
set_option maxHeartbeats 2000000
section
variable {M:EncM} (hM:M=mapE)
include hM
theorem c240 {pe:GEffect} {specs:Int} {r:Bool} (hf:r17_Is pe specs=some r):Pv.Fn Tryz.prog glF 240 [.agg (eGEffect M pe),sI specs] (fun u=>u=.sb r):=by
 refine fn_D (tabcOK [12,13,14,23,29,35,41,47]) Tryz.func240 Tryz.call240 ?_
 intro S R hS hR
 have q:=sf hM hS
 unfold r17_Is at hf
 cbv
 refine d_p hS hf (fun _=>c299 hM) ?_
 intro y1 hf; cbv
 refine d_B ?_ ?_
 ·exact d_R
 intro hf; cbv
 replace hf:=d_lt hf
 refine d_cut hS [] [2,5] (fun s3=>f3 138 [(2,.lv 0 0),(5,.sb s3)] [vR (eGEffect M pe)]) hf ?_ ?_
 ·intro Ik4 k4 hk4 hf; cbv
  refine d_p hS hf (fun _=>c300 hM) ?_
  intro y6 hf; cbv
  refine d_br hS hf rfl ?_ ?_
  ·intro hf; cbv
   refine d_p hS hf (fun _=>c301 hM) ?_
   exact d_Xy
  exact d_X
 intro s3 hf; cbv
 refine d_cut hS [] [2,5,6] (fun s8=>f3 138 [(2,.lv 0 0),(5,.sb s3),(6,.sb s8)] [vR (eGEffect M pe)]) hf ?_ ?_
 ·intro Ik9 k9 hk9 hf; cbv
  refine d_B ?_ ?_
  ·exact d_X
  intro hf; cbv
  refine d_p hS hf (fun _=>c300 hM) ?_
  intro y11 hf; cbv
  refine d_br hS hf rfl ?_ ?_
  ·intro hf; cbv
   refine d_B ?_ ?_ <;> exact d_X
  exact d_X
 intro s8 hf; cbv
 refine d_cut hS [] [2,5,6,7] (fun s12=>f3 138 [(2,.lv 0 0),(5,.sb s3),(6,.sb s8),(7,.sb s12)] [vR (eGEffect M pe)]) hf ?_ ?_
 ·intro Ik13 k13 hk13 hf; cbv
  refine d_B ?_ ?_
  ·exact d_X
  intro hf; cbv
  refine d_p hS hf (fun _=>c300 hM) ?_
  intro y15 hf; cbv
  refine d_br hS hf rfl ?_ ?_
  ·intro hf; cbv
   refine d_p hS hf (fun _=>c302 hM) ?_
   exact d_Xy
  exact d_X
 intro s12 hf; cbv
 refine d_cut hS [] [2,5,6,7,8] (fun s17=>f3 138 [(2,.lv 0 0),(5,.sb s3),(6,.sb s8),(7,.sb s12),(8,.sb s17)] [vR (eGEffect M pe)]) hf ?_ ?_
 ·intro Ik18 k18 hk18 hf; cbv
  refine d_p hS hf (fun _=>c300 hM) ?_
  intro y20 hf; cbv
  refine d_br hS hf rfl ?_ ?_
  ·intro hf; cbv
   refine d_p hS hf (fun _=>c103 hM) ?_
   exact d_Xy
  exact d_X
 intro s17 hf; cbv
 replace hf:=d_lt hf
 refine d_cut hS [] [2,5,6,7,8,9] (fun s23=>f3 138 [(2,.lv 0 0),(5,.sb s3),(6,.sb s8),(7,.sb s12),(8,.sb s17),(9,.sb s23)] [vR (eGEffect M pe)]) hf ?_ ?_
 ·intro Ik24 k24 hk24 hf; cbv
  refine d_p hS hf (fun _=>c300 hM) ?_
  intro y26 hf; cbv
  refine d_br hS hf rfl ?_ ?_
  ·intro hf; cbv
   refine d_p hS hf (fun _=>c303 hM) ?_
   exact d_Xy
  exact d_X
 intro s23 hf; cbv
 refine d_cut hS [] [2,5,6,7,8,9,10] (fun s28=>f3 138 [(2,.lv 0 0),(5,.sb s3),(6,.sb s8),(7,.sb s12),(8,.sb s17),(9,.sb s23),(10,.sb s28)] [vR (eGEffect M pe)]) hf ?_ ?_
 ·intro Ik29 k29 hk29 hf; cbv
  refine d_p hS hf (fun _=>c300 hM) ?_
  intro y31 hf; cbv
  refine d_br hS hf rfl ?_ ?_
  ·intro hf; cbv
   refine d_p hS hf (fun _=>c304 hM) ?_
   exact d_Xy
  exact d_X
 intro s28 hf; cbv
 replace hf:=d_lt hf
 refine d_cut hS [] [2,5,6,7,8,9,10,11] (fun s34=>f3 138 [(2,.lv 0 0),(5,.sb s3),(6,.sb s8),(7,.sb s12),(8,.sb s17),(9,.sb s23),(10,.sb s28),(11,.sb s34)] [vR (eGEffect M pe)]) hf ?_ ?_
 ·intro Ik35 k35 hk35 hf; cbv
  refine d_p hS hf (fun _=>c300 hM) ?_
  intro y37 hf; cbv
  refine d_br hS hf rfl ?_ ?_
  ·intro hf; cbv
   refine d_B ?_ ?_
   ·intro hf; cbv
    refine d_p hS hf (fun _=>c305 hM) ?_
    exact d_Xy
   exact d_X
  exact d_X
 intro s34 hf; cbv
 replace hf:=d_lt hf
 refine d_cut hS [] [5,6,7,8,9,10,11,12] (fun s40=>f3 138 [(5,.sb s3),(6,.sb s8),(7,.sb s12),(8,.sb s17),(9,.sb s23),(10,.sb s28),(11,.sb s34),(12,.sb s40)] []) hf ?_ ?_
 ·intro Ik41 k41 hk41 hf; cbv
  refine d_p hS hf (fun _=>c300 hM) ?_
  intro y43 hf; cbv
  refine d_br hS hf rfl ?_ ?_
  ·intro hf; cbv
   refine d_p hS hf (fun _=>c306 hM) ?_
   exact d_Xy
  exact d_X
 intro s40 hf; cbv
 refine d_br hS hf rfl ?_ ?_
 ·intro hf; cbv
  refine d_br hS hf rfl ?_ ?_
  ·intro hf; cbv
   refine d_br hS hf rfl ?_ ?_
   ·intro hf; cbv
    refine d_br hS hf rfl ?_ ?_
    ·intro hf; cbv
     refine d_br hS hf rfl ?_ ?_
     ·intro hf; cbv
      refine d_br hS hf rfl ?_ ?_
      ·intro hf; cbv
       refine d_br hS hf rfl ?_ ?_ <;> exact d_R
      exact d_R
     exact d_R
    exact d_R
   exact d_R
  exact d_R
 exact d_R
end
end Go.Proofs.YthfepelpmalckaaGreatDoor
namespace Go.Proofs.YthfepelpmalckaaGreatDoor
open Go Go.Pv
set_option maxRecDepth 100000
set_option maxHeartbeats 2000000
section
variable {M:EncM} (hM:M=mapE)
include hM
theorem c171 {l:List GEffect} {n:Int} {r:Bool} (hf:r20_effects l n=some r):Pv.Fn Tryz.prog glF 171 [.sl 64 (M.m GEffect (eGEffect M) l) false,sI n] (fun u=>u=.sb r):=by
 refine fn_D tabOK Tryz.func171 Tryz.call171 ?_
 intro S R hS hR
 have q:=sf hM hS
 unfold r20_effects at hf
 cbv
 refine d_lp hS tabOK wf [] [0,1,5] (fun s1=>f3 27 [(0,.sl 64 (M.m GEffect (eGEffect M) l) false),(1,sI n),(5,sI s1)] []) hf ?_
 intro Ik2 k2 s1 hk2 hf e he; subst he
 unfold r20_effects_l1 at hf
 cbv
 refine d_B ?_ ?_
 ·intro hf; cbv
  refine d_I ?_
  intro x4 hf; cbv
  refine d_p hS hf (fun _=>c240 hM) ?_
  intro y5 hf; cbv
  refine d_B ?_ ?_
  ·exact d_R
  exact d_X
 intro hf; cbv
 refine d_B ?_ ?_ <;> exact d_R
end
end Go.Proofs.YthfepelpmalckaaGreatDoor
namespace Go.Proofs.YthfepelpmalckaaGreatDoor
open Go Go.Pv
set_option maxRecDepth 100000
set_option maxHeartbeats 2000000
section
variable {M:EncM} (hM:M=mapE)
include hM
theorem c108 {a:GAbility} {r:Bool} (hf:r20_Is a=some r):Pv.Fn Tryz.prog glF 108 [.agg (eGAbility M a)] (fun u=>u=.sb r):=by
 refine fn_D (tabcOK [2,6,10,14,19,24,29,34,39,49,50]) Tryz.func108 Tryz.call108 ?_
 intro S R hS hR
 have q:=sf hM hS
 unfold r20_Is at hf
 cbv
 refine d_cut hS [] [1,11] (fun s1=>f3 117 [(1,.lv 0 0),(11,.sb s1)] [vR (eGAbility M a)]) hf ?_ ?_
 ·intro Ik2 k2 hk2 hf; cbv
  refine d_B ?_ ?_ <;> exact d_X
 intro s1 hf; cbv
 refine d_br hS hf rfl ?_ ?_
 ·exact d_R
 intro hf; cbv
 refine d_cut hS [] [1,3] (fun s4=>f3 117 [(1,.lv 0 0),(3,.sb s4)] [vR (eGAbility M a)]) hf ?_ ?_
 ·intro Ik5 k5 hk5 hf; cbv
  refine d_B ?_ ?_
  ·exact d_X
  intro hf; cbv
  refine d_B ?_ ?_ <;> exact d_X
 intro s4 hf; cbv
 refine d_cut hS [] [1,3] (fun s7=>f3 117 [(1,.lv 0 0),(3,.sb s4)] [vR (eGAbility M a)]) hf ?_ ?_
 ·intro Ik8 k8 hk8 hf; cbv
  refine d_B ?_ ?_
  ·intro hf; cbv
   refine d_cut hS [] [1,3,43] (fun s10=>f3 117 [(1,.lv 0 0),(3,.sb s4),(43,.sb s10)] [vR (eGAbility M a)]) hf ?_ ?_
   ·intro Ik11 k11 hk11 hf; cbv
    refine d_p hS hf (fun _=>c166 hM) ?_
    intro y13 hf; cbv
    refine d_B ?_ ?_
    ·exact d_X
    intro hf; cbv
    refine d_B ?_ ?_
    ·exact d_X
    intro hf; cbv
    refine d_p hS hf (fun _=>c117 hM) ?_
    exact d_Xy
   intro s10 hf; cbv
   refine d_br hS hf rfl ?_ ?_
   ·exact d_R
   exact d_X
  intro hf; cbv
  refine d_cut hS [] [1,3,53] (fun s15=>f3 117 [(1,.lv 0 0),(3,.sb s4),(53,.sb s15)] [vR (eGAbility M a)]) hf ?_ ?_
  ·intro Ik16 k16 hk16 hf; cbv
   replace hf:=d_lt hf
   refine d_B ?_ ?_ <;> exact d_X
  intro s15 hf; cbv
  refine d_br hS hf rfl ?_ ?_
  ·exact d_R
  exact d_X
 intro s7 hf; cbv
 refine d_cut hS [] [1,3] (fun s19=>f3 117 [(1,.lv 0 0),(3,.sb s4)] [vR (eGAbility M a)]) hf ?_ ?_
 ·intro Ik20 k20 hk20 hf; cbv
  refine d_B ?_ ?_
  ·intro hf; cbv
   refine d_p hS hf (fun _=>c167 hM) ?_
   intro y22 hf; cbv
   refine d_B ?_ ?_
   ·exact d_R
   exact d_X
  intro hf; cbv
  refine d_cut hS [] [1,3,68] (fun s23=>f3 117 [(1,.lv 0 0),(3,.sb s4),(68,.sb s23)] [vR (eGAbility M a)]) hf ?_ ?_
  ·intro Ik24 k24 hk24 hf; cbv
   replace hf:=d_lt hf
   refine d_B ?_ ?_ <;> exact d_X
  intro s23 hf; cbv
  refine d_br hS hf rfl ?_ ?_
  ·exact d_R
  exact d_X
 intro s19 hf; cbv
 refine d_cut hS [] [1,3] (fun s27=>f3 117 [(1,.lv 0 0),(3,.sb s4)] [vR (eGAbility M a)]) hf ?_ ?_
 ·intro Ik28 k28 hk28 hf; cbv
  refine d_B ?_ ?_
  ·intro hf; cbv
   refine d_p hS hf (fun _=>c168 hM) ?_
   intro y30 hf; cbv
   refine d_B ?_ ?_
   ·exact d_R
   exact d_X
  intro hf; cbv
  refine d_cut hS [] [1,3,83] (fun s31=>f3 117 [(1,.lv 0 0),(3,.sb s4),(83,.sb s31)] [vR (eGAbility M a)]) hf ?_ ?_
  ·intro Ik32 k32 hk32 hf; cbv
   replace hf:=d_lt hf
   refine d_B ?_ ?_ <;> exact d_X
  intro s31 hf; cbv
  refine d_br hS hf rfl ?_ ?_
  ·exact d_R
  exact d_X
 intro s27 hf; cbv
 refine d_cut hS [] [1,3] (fun s35=>f3 117 [(1,.lv 0 0),(3,.sb s4)] [vR (eGAbility M a)]) hf ?_ ?_
 ·intro Ik36 k36 hk36 hf; cbv
  refine d_B ?_ ?_
  ·intro hf; cbv
   refine d_p hS hf (fun _=>c169 hM) ?_
   intro y38 hf; cbv
   refine d_B ?_ ?_
   ·exact d_R
   exact d_X
  intro hf; cbv
  replace hf:=d_lt hf
  refine d_B ?_ ?_
  ·exact d_R
  exact d_X
 intro s35 hf; cbv
 refine d_br hS hf rfl ?_ ?_
 ·intro hf; cbv
  refine d_cut hS [] [2] (fun s40=>f3 117 [(2,.sb s40)] []) hf ?_ ?_
  ·intro Ik41 k41 hk41 hf; cbv
   refine d_p hS hf (fun _=>c170 hM) ?_
   intro y43 hf; cbv
   refine d_br hS hf rfl ?_ ?_
   ·intro hf; cbv
    refine d_callp hS hf (fun _=>c171 hM) d_le ?_
    exact d_Xy
   exact d_X
  intro s40 hf; cbv
  exact d_Rz
 intro hf; cbv
 refine d_B ?_ ?_ <;> exact d_R
end
end Go.Proofs.YthfepelpmalckaaGreatDoor
namespace Go.Proofs.YthfepelpmalckaaGreatDoor
open Go Go.Pv
set_option maxRecDepth 100000
set_option maxHeartbeats 2000000
section
variable {M:EncM} (hM:M=mapE)
include hM
theorem c29 {c:GCard} {r:Bool} (hf:r21_Is c=some r):Pv.Fn Tryz.prog glF 29 [.agg (eGCard M c)] (fun u=>u=.sb r):=by
 refine fn_D (tabcOK [2,6,17,28]) Tryz.func29 Tryz.call29 ?_
 intro S R hS hR
 have q:=sf hM hS
 unfold r21_Is at hf
 cbv
 refine d_cut hS [] [1,36] (fun s1=>f3 139 [(1,.lv 0 0),(36,.sb s1)] [vR (eGCard M c)]) hf ?_ ?_
 ·intro Ik2 k2 hk2 hf; cbv
  refine d_p hS hf (fun _=>c103 hM) ?_
  intro y4 hf; cbv
  refine d_B ?_ ?_
  ·exact d_X
  intro hf; cbv
  refine d_p hS hf (fun _=>c104 hM) ?_
  intro y5 hf; cbv
  refine d_B ?_ ?_
  ·exact d_X
  intro hf; cbv
  refine d_p hS hf (fun _=>c105 hM) ?_
  intro y6 hf; cbv
  refine d_B ?_ ?_
  ·exact d_X
  intro hf; cbv
  refine d_p hS hf (fun _=>c106 hM) ?_
  intro y7 hf; cbv
  refine d_B ?_ ?_
  ·exact d_X
  intro hf; cbv
  refine d_B ?_ ?_ <;> exact d_X
 intro s1 hf; cbv
 refine d_br hS hf rfl ?_ ?_
 ·exact d_R
 intro hf; cbv
 refine d_cut hS [] [1,75] (fun s8=>f3 139 [(1,.lv 0 0),(75,.sb s8)] [vR (eGCard M c)]) hf ?_ ?_
 ·intro Ik9 k9 hk9 hf; cbv
  refine d_B ?_ ?_
  ·exact d_X
  intro hf; cbv
  refine d_B ?_ ?_
  ·exact d_X
  intro hf; cbv
  refine d_B ?_ ?_
  ·exact d_X
  intro hf; cbv
  refine d_B ?_ ?_
  ·exact d_X
  intro hf; cbv
  refine d_p hS hf (fun _=>c107 hM) ?_
  intro y11 hf; cbv
  refine d_B ?_ ?_
  ·intro hf; cbv
   refine d_B ?_ ?_
   ·exact d_X
   intro hf; cbv
   refine d_B ?_ ?_ <;> exact d_X
  exact d_X
 intro s8 hf; cbv
 refine d_br hS hf rfl ?_ ?_
 ·exact d_R
 intro hf; cbv
 refine d_lp hS (tabcOK [2,6,17,28]) wf [] [1,3,4] (fun s12=>f3 139 [(1,.lv 0 0),(3,sI s12.1),(4,sI s12.2)] [vR (eGCard M c)]) hf ?_
 intro Ik13 k13 s12 hk13 hf e he; subst he
 unfold r21_Is_l1 at hf
 cbv
 refine d_B ?_ ?_
 ·intro hf; cbv
  refine d_cut hS [] [1,3,4] (fun s15=>f3 139 [(1,.lv 0 0),(3,sI s15),(4,sI s12.2)] [vR (eGCard M c)]) hf ?_ ?_
  ·intro Ik16 k16 hk16 hf; cbv
   refine d_I ?_
   intro x18 hf; cbv
   refine d_p hS hf (fun _=>c108 hM) ?_
   intro y19 hf; cbv
   refine d_B ?_ ?_
   ·exact d_R
   intro hf; cbv
   refine d_I ?_
   intro x20 hf; cbv
   refine d_B ?_ ?_ <;> exact d_X
  intro s15 hf; cbv
  exact d_Xz
 intro hf; cbv
 refine d_p hS hf (fun _=>c109 hM) ?_
 intro y21 hf; cbv
 refine d_br hS hf rfl ?_ ?_
 ·intro hf; cbv
  refine d_cut hS [] [2] (fun s22=>f3 139 [(2,.sb s22)] []) hf ?_ ?_
  ·intro Ik23 k23 hk23 hf; cbv
   refine d_B ?_ ?_
   ·intro hf; cbv
    refine d_B ?_ ?_
    ·intro hf; cbv
     refine d_B ?_ ?_ <;> exact d_X
    exact d_X
   exact d_X
  intro s22 hf; cbv
  exact d_Rz
 intro hf; cbv
 refine d_B ?_ ?_
 ·intro hf; cbv
  refine d_B ?_ ?_
  ·intro hf; cbv
   refine d_B ?_ ?_
   ·exact d_R
   intro hf; cbv
   replace hf:=d_lt hf
   exact d_Rz
  intro hf; cbv
  replace hf:=d_lt hf
  exact d_Rz
 exact d_R
theorem c115 {s:GState} {x:GItem} {r:Bool} (hf:r26_item s x=some r):Pv.Fn Tryz.prog glF 115 [.agg (eGState M s),.agg (eGItem M x)] (fun u=>u=.sb r):=by
 refine fn_D (tabcOK [2,12]) Tryz.func115 Tryz.call115 ?_
 intro S R hS hR
 have q:=sf hM hS
 unfold r26_item at hf
 cbv
 refine d_cut hS [] [2,3,33] (fun s1=>f3 81 [(2,.lv 0 0),(3,.lv 1 0),(33,.sb s1)] [vR (eGState M s),vR (eGItem M x)]) hf ?_ ?_
 ·intro Ik2 k2 hk2 hf; cbv
  refine d_callp hS hf (fun _=>c32 hM) d_le ?_
  intro y4 hf; cbv
  refine d_B ?_ ?_
  ·exact d_X
  intro hf; cbv
  refine d_p hS hf (fun _=>c32 hM) ?_
  intro y5 hf; cbv
  refine d_B ?_ ?_
  ·exact d_X
  intro hf; cbv
  refine d_B ?_ ?_
  ·exact d_X
  intro hf; cbv
  refine d_p hS hf (fun _=>c34 hM) ?_
  exact d_Xy
 intro s1 hf; cbv
 refine d_br hS hf rfl ?_ ?_
 ·exact d_R
 intro hf; cbv
 refine d_p hS hf (fun _=>c172 hM) ?_
 intro y7 hf; cbv
 refine d_B ?_ ?_
 ·intro hf; cbv
  refine d_callp hS hf (fun _=>c161 hM) d_st ?_
  intro y8 hf; cbv
  refine d_cut hS [] [4] (fun s9=>f3 81 [(4,.sb s9)] []) hf ?_ ?_
  ·intro Ik10 k10 hk10 hf; cbv
   refine d_B ?_ ?_
   ·intro hf; cbv
    refine d_br hS hf rfl ?_ ?_
    ·intro hf; cbv
     refine d_B ?_ ?_
     ·intro hf; cbv
      refine d_br hS hf rfl ?_ ?_
      ·exact d_X
      intro hf; cbv
      refine d_p hS hf (fun _=>c108 hM) ?_
      exact d_Xy
     exact d_X
    exact d_X
   exact d_X
  intro s9 hf; cbv
  exact d_Rz
 intro hf; cbv
 refine d_B ?_ ?_
 ·intro hf; cbv
  refine d_B ?_ ?_
  ·intro hf; cbv
   refine d_p hS hf (fun _=>c108 hM) ?_
   exact d_Ry
  exact d_R
 exact d_R
end
end Go.Proofs.YthfepelpmalckaaGreatDoor
