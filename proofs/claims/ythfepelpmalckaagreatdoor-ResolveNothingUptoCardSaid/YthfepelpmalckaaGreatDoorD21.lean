import Derived.Test.YthfepelpmalckaaGreatDoorD20
set_option linter.all false
namespace Go.Proofs.YthfepelpmalckaaGreatDoor
open Go Go.Pv
set_option maxRecDepth 100000
set_option maxHeartbeats 2000000
section
variable {M:EncM} (hM:M=mapE)
include hM
theorem c36 {s:GState} {r:Bool} (hf:r26_stack s=some r):Pv.Fn Tryz.prog glF 36 [.agg (eGState M s)] (fun u=>u=.sb r):=by
 refine fn_D (tabcOK [2,34,46]) Tryz.func36 Tryz.call36 ?_
 intro S R hS hR
 have q:=sf hM hS
 unfold r26_stack at hf
 cbv
 refine d_cut hS [] [1,24] (fun s1=>f3 129 [(1,.lv 0 0),(24,.sb s1)] [vR (eGState M s)]) hf ?_ ?_
 ·intro Ik2 k2 hk2 hf; cbv
  refine d_B ?_ ?_
  ·exact d_X
  intro hf; cbv
  refine d_B ?_ ?_ <;> exact d_X
 intro s1 hf; cbv
 refine d_br hS hf rfl ?_ ?_
 ·exact d_R
 intro hf; cbv
 refine d_lp hS (tabcOK [2,34,46]) wf [] [1,3] (fun s4=>f3 129 [(1,.lv 0 0),(3,sI s4)] [vR (eGState M s)]) hf ?_
 intro Ik5 k5 s4 hk5 hf e he; subst he
 unfold r26_stack_l4 at hf
 cbv
 refine d_B ?_ ?_
 ·intro hf; cbv
  refine d_o hS ?_; cbv
  refine d_I ?_
  intro x7 hf; cbv
  refine d_c hS hf (fun _=>c115 hM) ?_
  intro y8 hf; cbv
  refine d_B ?_ ?_
  ·exact d_R
  intro hf; cbv
  refine d_lp hS (tabcOK [2,34,46]) wf [] [1,3,4] (fun s9=>f3 129 [(1,.lv 0 0),(3,sI s4),(4,sI s9)] [vR (eGState M s)]) hf ?_
  intro Ik10 k10 s9 hk10 hf e he; subst he
  unfold r26_stack_l1 at hf
  cbv
  refine d_B ?_ ?_
  ·intro hf; cbv
   refine d_o hS ?_; cbv
   refine d_I ?_
   intro x12 hf; cbv
   refine d_I ?_
   intro x13 hf; cbv
   refine d_B ?_ ?_
   ·exact d_R
   exact d_X
  exact d_X
 intro hf; cbv
 refine d_lp hS (tabcOK [2,34,46]) wf [] [1,5] (fun s14=>f3 129 [(1,.lv 0 0),(5,sI s14)] [vR (eGState M s)]) hf ?_
 intro Ik15 k15 s14 hk15 hf e he; subst he
 unfold r26_stack_l3 at hf
 cbv
 refine d_B ?_ ?_
 ·intro hf; cbv
  refine d_I ?_
  intro x17 hf; cbv
  refine d_cut hS [] [1,5,86] (fun s18=>f3 129 [(1,.lv 0 0),(5,sI s14),(86,.sb s18)] [vR (eGState M s)]) hf ?_ ?_
  ·intro Ik19 k19 hk19 hf; cbv
   refine d_p hS hf (fun _=>c34 hM) ?_
   intro y21 hf; cbv
   refine d_B ?_ ?_
   ·exact d_X
   intro hf; cbv
   refine d_B ?_ ?_
   ·exact d_X
   intro hf; cbv
   refine d_p hS hf (fun _=>c108 hM) ?_
   exact d_Xy
  intro s18 hf; cbv
  refine d_br hS hf rfl ?_ ?_
  ·exact d_R
  exact d_X
 intro hf; cbv
 refine d_lp hS (tabcOK [2,34,46]) wf [] [1,7] (fun s23=>f3 129 [(1,.lv 0 0),(7,sI s23)] [vR (eGState M s)]) hf ?_
 intro Ik24 k24 s23 hk24 hf e he; subst he
 unfold r26_stack_l2 at hf
 cbv
 refine d_B ?_ ?_
 ·intro hf; cbv
  refine d_I ?_
  intro x26 hf; cbv
  refine d_cut hS [] [1,7,128] (fun s27=>f3 129 [(1,.lv 0 0),(7,sI s23),(128,.sb s27)] [vR (eGState M s)]) hf ?_ ?_
  ·intro Ik28 k28 hk28 hf; cbv
   refine d_p hS hf (fun _=>c34 hM) ?_
   intro y30 hf; cbv
   refine d_B ?_ ?_
   ·exact d_X
   intro hf; cbv
   refine d_B ?_ ?_
   ·exact d_X
   intro hf; cbv
   refine d_p hS hf (fun _=>c32 hM) ?_
   intro y31 hf; cbv
   refine d_B ?_ ?_
   ·exact d_X
   intro hf; cbv
   refine d_p hS hf (fun _=>c116 hM) ?_
   intro y32 hf; cbv
   refine d_B ?_ ?_
   ·exact d_X
   intro hf; cbv
   refine d_p hS hf (fun _=>c117 hM) ?_
   exact d_Xy
  intro s27 hf; cbv
  refine d_br hS hf rfl ?_ ?_
  ·exact d_R
  exact d_X
 exact d_R
theorem c11 {l:List GCard} {r:Int × Int} (hf:r22_Check l=some r):Pv.Fn Tryz.prog glF 11 [.sl 17 (M.m GCard (eGCard M) l) false] (fun u=>u=.tup [sI r.1,sI r.2]):=by
 refine fn_D tabOK Tryz.func11 Tryz.call11 ?_
 intro S R hS hR
 have q:=sf hM hS
 unfold r22_Check at hf
 cbv
 refine d_B ?_ ?_
 ·exact d_R
 intro hf; cbv
 refine d_lp hS tabOK wf [] [0,4] (fun s1=>f3 39 [(0,.sl 17 (M.m GCard (eGCard M) l) false),(4,sI s1)] []) hf ?_
 intro Ik2 k2 s1 hk2 hf e he; subst he
 unfold r22_Check_l1 at hf
 cbv
 refine d_B ?_ ?_
 ·intro hf; cbv
  refine d_I ?_
  intro x4 hf; cbv
  refine d_p hS hf (fun _=>c29 hM) ?_
  intro y5 hf; cbv
  refine d_B ?_ ?_
  ·exact d_R
  intro hf; cbv
  refine d_I ?_
  intro x6 hf; cbv
  refine d_p hS hf (fun _=>c30 hM) ?_
  intro y7 hf; cbv
  refine d_B ?_ ?_
  ·exact d_R
  intro hf; cbv
  refine d_I ?_
  intro x8 hf; cbv
  refine d_p hS hf (fun _=>c31 hM) ?_
  intro y9 hf; cbv
  refine d_B ?_ ?_
  ·exact d_R
  exact d_X
 exact d_R
end
end Go.Proofs.YthfepelpmalckaaGreatDoor
namespace Go.Proofs.YthfepelpmalckaaGreatDoor
open Go Go.Pv
set_option maxRecDepth 100000
set_option maxHeartbeats 2000000
section
variable {M:EncM} (hM:M=mapE)
include hM
theorem c12 {cards:List GCard} {s:GState} {r:Bool} (hf:r26_Is cards s=some r):Pv.Fn Tryz.prog glF 12 [.sl 17 (M.m GCard (eGCard M) cards) false,.agg (eGState M s)] (fun u=>u=.sb r):=by
 refine fn_D (tabcOK [2,6,20]) Tryz.func12 Tryz.call12 ?_
 intro S R hS hR
 have q:=sf hM hS
 unfold r26_Is at hf
 cbv
 refine d_cut hS [] [0,3,33] (fun s1=>f3 114 [(0,.sl 17 (M.m GCard (eGCard M) cards) false),(3,.lv 0 0),(33,.sb s1)] [vR (eGState M s)]) hf ?_ ?_
 ·intro Ik2 k2 hk2 hf; cbv
  refine d_p hS hf (fun _=>c32 hM) ?_
  intro y4 hf; cbv
  refine d_B ?_ ?_
  ·exact d_X
  intro hf; cbv
  refine d_p hS hf (fun _=>c32 hM) ?_
  intro y5 hf; cbv
  refine d_B ?_ ?_
  ·exact d_X
  intro hf; cbv
  refine d_p hS hf (fun _=>c32 hM) ?_
  intro y6 hf; cbv
  refine d_B ?_ ?_
  ·exact d_X
  intro hf; cbv
  refine d_p hS hf (fun _=>c32 hM) ?_
  intro y7 hf; cbv
  refine d_B ?_ ?_ <;> exact d_X
 intro s1 hf; cbv
 refine d_br hS hf rfl ?_ ?_
 ·exact d_R
 intro hf; cbv
 refine d_cut hS [] [0,3,71] (fun s8=>f3 114 [(0,.sl 17 (M.m GCard (eGCard M) cards) false),(3,.lv 0 0),(71,.sb s8)] [vR (eGState M s)]) hf ?_ ?_
 ·intro Ik9 k9 hk9 hf; cbv
  refine d_p hS hf (fun _=>c33 hM) ?_
  intro y11 hf; cbv
  refine d_B ?_ ?_
  ·exact d_X
  intro hf; cbv
  refine d_p hS hf (fun _=>c34 hM) ?_
  intro y12 hf; cbv
  refine d_B ?_ ?_
  ·exact d_X
  intro hf; cbv
  refine d_p hS hf (fun _=>c34 hM) ?_
  intro y13 hf; cbv
  refine d_B ?_ ?_
  ·exact d_X
  intro hf; cbv
  refine d_callp hS hf (fun _=>c32 hM) d_le ?_
  intro y14 hf; cbv
  refine d_B ?_ ?_
  ·exact d_X
  intro hf; cbv
  refine d_B ?_ ?_
  ·exact d_X
  intro hf; cbv
  refine d_p hS hf (fun _=>c32 hM) ?_
  exact d_Xy
 intro s8 hf; cbv
 refine d_br hS hf rfl ?_ ?_
 ·exact d_R
 intro hf; cbv
 refine d_lp hS (tabcOK [2,6,20]) wf [] [0,3,5] (fun s16=>f3 114 [(0,.sl 17 (M.m GCard (eGCard M) cards) false),(3,.lv 0 0),(5,sI s16)] [vR (eGState M s)]) hf ?_
 intro Ik17 k17 s16 hk17 hf e he; subst he
 unfold r26_Is_l1 at hf
 cbv
 refine d_B ?_ ?_
 ·intro hf; cbv
  refine d_o hS ?_; cbv
  refine d_I ?_
  intro x19 hf; cbv
  refine d_c hS hf (fun _=>c34 hM) ?_
  intro y20 hf; cbv
  refine d_B ?_ ?_
  ·exact d_R
  exact d_X
 intro hf; cbv
 refine d_cut hS [] [0,3,106] (fun s21=>f3 114 [(0,.sl 17 (M.m GCard (eGCard M) cards) false),(3,.lv 0 0),(106,.sb s21)] [vR (eGState M s)]) hf ?_ ?_
 ·intro Ik22 k22 hk22 hf; cbv
  refine d_B ?_ ?_
  ·intro hf; cbv
   refine d_p hS hf (fun _=>c34 hM) ?_
   intro y24 hf; cbv
   refine d_B ?_ ?_
   ·exact d_X
   intro hf; cbv
   refine d_B ?_ ?_ <;> exact d_X
  intro hf; cbv
  refine d_B ?_ ?_ <;> exact d_X
 intro s21 hf; cbv
 refine d_br hS hf rfl ?_ ?_
 ·exact d_R
 intro hf; cbv
 refine d_p hS hf (fun _=>c35 hM) ?_
 intro y25 hf; cbv
 refine d_br hS hf rfl ?_ ?_
 ·intro hf; cbv
  refine d_p hS hf (fun _=>c36 hM) ?_
  exact d_Ry
 exact d_R
end
end Go.Proofs.YthfepelpmalckaaGreatDoor
namespace Go.Proofs.YthfepelpmalckaaGreatDoor
open Go Go.Pv
set_option maxRecDepth 100000
set_option maxHeartbeats 2000000
section
variable {M:EncM} (hM:M=mapE)
include hM
theorem c4 {cards:List GCard} {s:GState} {r:Bool} (hf:law40_valid cards s=some r):Pv.Fn Tryz.prog glF 4 [.sl 17 (M.m GCard (eGCard M) cards) false,.agg (eGState M s)] (fun u=>u=.sb r):=by
 refine fn_D tabOK Tryz.func4 Tryz.call4 ?_
 intro S R hS hR
 have q:=sf hM hS
 unfold law40_valid at hf
 cbv
 refine d_p hS hf (fun _=>c11 hM) ?_
 intro y1 hf; cbv
 refine d_B ?_ ?_
 ·intro hf; cbv
  refine d_p hS hf (fun _=>c12 hM) ?_
  exact d_Ry
 exact d_R
end
end Go.Proofs.YthfepelpmalckaaGreatDoor
namespace Go.Proofs.YthfepelpmalckaaGreatDoor
open Go Go.Pv
set_option maxRecDepth 100000
set_option maxHeartbeats 2000000
section
variable {M:EncM} (hM:M=mapE)
include hM
theorem c3 {cards:List GCard} {s:GState} {ctx:GContext} {r:Bool} (hf:law40_ResolveNothing cards s ctx=some r):Pv.Fn Tryz.prog glF 3 [.sl 17 (M.m GCard (eGCard M) cards) false,.agg (eGState M s),.agg (eGContext M ctx)] (fun u=>u=.sb r):=by
 refine fn_D (tabcOK [19]) Tryz.func3 Tryz.call3 ?_
 intro S R hS hR
 have q:=sf hM hS
 unfold law40_ResolveNothing at hf
 cbv
 refine d_p hS hf (fun _=>c4 hM) ?_
 intro y1 hf; cbv
 refine d_B ?_ ?_
 ·intro hf; cbv
  refine d_p hS hf (fun _=>c5 hM) ?_
  exact d_Ry
 intro hf; cbv
 refine d_callo hS hf (fun _=>o6 hM) (by (try simp only [q]); repeat' constructor) ?_
 intro y3 hf; cbv
 refine d_callF hS hf (fun _=>c7 hM) d_st ?_
 intro y4 hf; cbv
 refine d_cut hS [.cS 7 4 94] [4,7,8,9] (fun s5=>f3 56 [(4,.lv 0 0),(7,.lv 1 0),(8,.lv 3 0),(9,.lv 4 0)] [vR [.sl 14 (M.m GPlayer (eGPlayer M) s.players) false,.sl 19 (M.m GObject (eGObject M) s.objects) false,.sl 1 (mI M s.battlefield) false,.sl 1 (mI M s.exile) false,.sl 0 [] true,.sl 89 (M.m GWaiting (eGWaiting M) s.waiting) false,.sl 6 (M.m GCont (eGCont M) s.conts) false,sI s.turn,sI s.active,sI s.step,.sb s.begun,sI s.priority,sI s.passes,sI s.nextId,sI s.nextStamp,.si .u64 s.seed,.sl 1 (mI M s.extra) false,sI s.over,sI s.winner],some (.var true [.os 2 0 (S.lenN (M.m (List Int) (eL M 1 (eI .i64)) y3.answers)),sI y3.used,sI y3.pending.kind,sI y3.pending.player,sI y3.pending.source,sI y3.pending.least,sI y3.pending.most,sI y3.pending.n,.sl 3 (M.m GOption (eGOption M) y3.pending.options) false,.sb y3.waits,.sb y3.bad]),some (.arr true 1 (M.m (List Int) (eL M 1 (eI .i64)) y3.answers)),vR (eGState M y4),vR (eGState M s5)]) hf ?_ ?_
 ·intro Ik6 k6 hk6 hf; cbv
  refine d_callp hS hf (fun _=>c4 hM) d_st ?_
  intro y8 hf; cbv
  refine d_br hS hf rfl ?_ ?_
  ·intro hf; cbv
   refine d_callp hS hf (fun _=>c8 hM) d_st ?_
   exact d_Xy
  exact d_X
 intro s5 hf; cbv
 refine d_callp hS hf (fun _=>c9 hM) d_le ?_
 intro y10 hf; cbv
 refine d_p hS hf (fun _=>c5 hM) ?_
 intro y11 hf; cbv
 refine d_br hS hf rfl ?_ ?_
 ·intro hf; cbv
  refine d_B ?_ ?_
  ·intro hf; cbv
   refine d_callp hS hf (fun _=>c10 hM) d_st ?_
   intro y12 hf; cbv
   refine d_br hS hf rfl ?_ ?_ <;> exact d_R
  exact d_R
 exact d_R
end
end Go.Proofs.YthfepelpmalckaaGreatDoor
