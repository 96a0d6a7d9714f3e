import Derived.Test.YthfepelpmalckaaGreatDoorD17
set_option linter.all false
namespace Go.Proofs.YthfepelpmalckaaGreatDoor
open Go Go.Pv
set_option maxRecDepth 100000
set_option maxHeartbeats 2000000
section
variable {M:EncM} (hM:M=mapE)
include hM
theorem c248 {f:GFilter} {r:ByteArray} (hf:r13_Text f=some r):Pv.Fn Tryz.prog glF 248 [.agg (eGFilter M f)] (fun u=>u=.str r):=by
 refine fn_D (tabcOK [24,27,34,37,44,47,54,57,67,68,71]) Tryz.func248 Tryz.call248 ?_
 intro S R hS hR
 have q:=sf hM hS
 unfold r13_Text at hf
 cbv
 refine d_p hS hf (fun _=>c166 hM) ?_
 intro y1 hf; cbv
 refine d_B ?_ ?_
 ·exact d_R
 intro hf; cbv
 refine d_p hS hf (fun _=>c312 hM) ?_
 intro y2 hf; cbv
 refine d_p hS hf (fun _=>c313 hM) ?_
 intro y3 hf; cbv
 refine d_p hS hf (fun _=>c314 hM) ?_
 intro y4 hf; cbv
 refine d_p hS hf (fun _=>c315 hM) ?_
 intro y5 hf; cbv
 refine d_I ?_
 intro x6 hf; cbv
 refine d_prep hS [(1,false),(0,false)] rfl ?_; cbv
 refine d_callS hS hf (fun _=>s316 hM) (by (try simp only [q]); repeat' constructor) (by (try simp only [q]); repeat' constructor) rfl rfl rfl rfl ?_
 intro y7 hf; cbv
 refine d_I ?_
 intro x8 hf; cbv
 refine d_callS hS hf (fun _=>s316 hM) (by (try simp only [q]); repeat' constructor) (by (try simp only [q]); repeat' constructor) rfl rfl rfl rfl ?_
 intro y9 hf; cbv
 refine d_I ?_
 intro x10 hf; cbv
 refine d_callS hS hf (fun _=>s316 hM) (by (try simp only [q]); repeat' constructor) (by (try simp only [q]); repeat' constructor) rfl rfl rfl rfl ?_
 intro y11 hf; cbv
 refine d_lp hS (tabcOK [24,27,34,37,44,47,54,57,67,68,71]) wf [] [1,6,7,8] (fun s12=>f3 145 [(1,.lv 0 0),(6,.sl 1 (M.m ByteArray eS y5) false),(7,.os 1 0 (S.lenN (M.m ByteArray eS s12.2))),(8,sI s12.1)] [vR (eGFilter M f),aR 1 (M.m ByteArray eS s12.2)]) hf ?_
 intro Ik13 k13 s12 hk13 hf e he; subst he
 unfold r13_Text_l5 at hf
 cbv
 refine l_seq hS ?_; cbv
 refine d_B ?_ ?_
 ·intro hf; cbv
  refine d_cut hS [] [1,6,7,8] (fun s15=>f3 145 [(1,.lv 0 0),(6,.sl 1 (M.m ByteArray eS y5) false),(7,.os 1 0 (S.lenN (M.m ByteArray eS s15))),(8,sI s12.1)] [vR (eGFilter M f),aR 1 (M.m ByteArray eS s15)]) hf ?_ ?_
  ·intro Ik16 k16 hk16 hf; cbv
   refine d_p hS hf (fun _=>c317 hM) ?_
   intro y18 hf; cbv
   refine d_br hS hf rfl ?_ ?_
   ·intro hf; cbv
    refine d_p hS hf (fun _=>c318 hM) ?_
    intro y19 hf; cbv
    refine d_room hS hf d_e ?_
    exact d_X
   exact d_X
  intro s15 hf; cbv
  exact d_Xz
 intro hf; cbv
 refine d_lp hS (tabcOK [24,27,34,37,44,47,54,57,67,68,71]) wf [] [1,6,7,9] (fun s20=>f3 145 [(1,.lv 0 0),(6,.sl 1 (M.m ByteArray eS y5) false),(7,.os 1 0 (S.lenN (M.m ByteArray eS s20.2))),(9,sI s20.1)] [vR (eGFilter M f),aR 1 (M.m ByteArray eS s20.2)]) hf ?_
 intro Ik21 k21 s20 hk21 hf e he; subst he
 unfold r13_Text_l4 at hf
 cbv
 refine l_seq hS ?_; cbv
 refine d_B ?_ ?_
 ·intro hf; cbv
  refine d_cut hS [] [1,6,7,9] (fun s23=>f3 145 [(1,.lv 0 0),(6,.sl 1 (M.m ByteArray eS y5) false),(7,.os 1 0 (S.lenN (M.m ByteArray eS s23))),(9,sI s20.1)] [vR (eGFilter M f),aR 1 (M.m ByteArray eS s23)]) hf ?_ ?_
  ·intro Ik24 k24 hk24 hf; cbv
   refine d_p hS hf (fun _=>c317 hM) ?_
   intro y26 hf; cbv
   refine d_br hS hf rfl ?_ ?_
   ·intro hf; cbv
    refine d_p hS hf (fun _=>c318 hM) ?_
    intro y27 hf; cbv
    refine d_cat hS hf rfl rfl ?_
    intro x28 hf; cbv
    refine d_room hS hf d_e ?_
    exact d_X
   exact d_X
  intro s23 hf; cbv
  exact d_Xz
 intro hf; cbv
 refine d_lp hS (tabcOK [24,27,34,37,44,47,54,57,67,68,71]) wf [] [1,6,7,10] (fun s29=>f3 145 [(1,.lv 0 0),(6,.sl 1 (M.m ByteArray eS y5) false),(7,.os 1 0 (S.lenN (M.m ByteArray eS s29.2))),(10,sI s29.1)] [vR (eGFilter M f),aR 1 (M.m ByteArray eS s29.2)]) hf ?_
 intro Ik30 k30 s29 hk30 hf e he; subst he
 unfold r13_Text_l3 at hf
 cbv
 refine l_seq hS ?_; cbv
 refine d_B ?_ ?_
 ·intro hf; cbv
  refine d_cut hS [] [1,6,7,10] (fun s32=>f3 145 [(1,.lv 0 0),(6,.sl 1 (M.m ByteArray eS y5) false),(7,.os 1 0 (S.lenN (M.m ByteArray eS s32))),(10,sI s29.1)] [vR (eGFilter M f),aR 1 (M.m ByteArray eS s32)]) hf ?_ ?_
  ·intro Ik33 k33 hk33 hf; cbv
   refine d_p hS hf (fun _=>c317 hM) ?_
   intro y35 hf; cbv
   refine d_br hS hf rfl ?_ ?_
   ·intro hf; cbv
    refine d_p hS hf (fun _=>c310 hM) ?_
    intro y36 hf; cbv
    refine d_room hS hf d_e ?_
    exact d_X
   exact d_X
  intro s32 hf; cbv
  exact d_Xz
 intro hf; cbv
 refine d_lp hS (tabcOK [24,27,34,37,44,47,54,57,67,68,71]) wf [] [1,6,7,11] (fun s37=>f3 145 [(1,.lv 0 0),(6,.sl 1 (M.m ByteArray eS y5) false),(7,.os 1 0 (S.lenN (M.m ByteArray eS s37.2))),(11,sI s37.1)] [vR (eGFilter M f),aR 1 (M.m ByteArray eS s37.2)]) hf ?_
 intro Ik38 k38 s37 hk38 hf e he; subst he
 unfold r13_Text_l2 at hf
 cbv
 refine l_seq hS ?_; cbv
 refine d_B ?_ ?_
 ·intro hf; cbv
  refine d_cut hS [] [1,6,7,11] (fun s40=>f3 145 [(1,.lv 0 0),(6,.sl 1 (M.m ByteArray eS y5) false),(7,.os 1 0 (S.lenN (M.m ByteArray eS s40))),(11,sI s37.1)] [vR (eGFilter M f),aR 1 (M.m ByteArray eS s40)]) hf ?_ ?_
  ·intro Ik41 k41 hk41 hf; cbv
   refine d_p hS hf (fun _=>c317 hM) ?_
   intro y43 hf; cbv
   refine d_br hS hf rfl ?_ ?_
   ·intro hf; cbv
    refine d_p hS hf (fun _=>c310 hM) ?_
    intro y44 hf; cbv
    refine d_cat hS hf rfl rfl ?_
    intro x45 hf; cbv
    refine d_room hS hf d_e ?_
    exact d_X
   exact d_X
  intro s40 hf; cbv
  exact d_Xz
 intro hf; cbv
 refine d_cut hS [] [1,6,7] (fun s46=>f3 145 [(1,.lv 0 0),(6,.sl 1 (M.m ByteArray eS y5) false),(7,.os 1 0 (S.lenN (M.m ByteArray eS s46)))] [vR (eGFilter M f),aR 1 (M.m ByteArray eS s46)]) hf ?_ ?_
 ·intro Ik47 k47 hk47 hf; cbv
  refine d_B ?_ ?_
  ·intro hf; cbv
   refine d_cat hS hf rfl rfl ?_
   intro x49 hf; cbv
   refine d_room hS hf d_e ?_
   exact d_X
  exact d_X
 intro s46 hf; cbv
 refine d_lp hS (tabcOK [24,27,34,37,44,47,54,57,67,68,71]) wf [] [1,6,7,12] (fun s50=>f3 145 [(1,.lv 0 0),(6,.sl 1 (M.m ByteArray eS y5) false),(7,.os 1 0 (S.lenN (M.m ByteArray eS s50.2))),(12,sI s50.1)] [vR (eGFilter M f),aR 1 (M.m ByteArray eS s50.2)]) hf ?_
 intro Ik51 k51 s50 hk51 hf e he; subst he
 unfold r13_Text_l1 at hf
 cbv
 refine l_seq hS ?_; cbv
 refine d_B ?_ ?_
 ·intro hf; cbv
  refine d_cut hS [] [1,6,7,12] (fun s53=>f3 145 [(1,.lv 0 0),(6,.sl 1 (M.m ByteArray eS y5) false),(7,.os 1 0 (S.lenN (M.m ByteArray eS s53))),(12,sI s50.1)] [vR (eGFilter M f),aR 1 (M.m ByteArray eS s53)]) hf ?_ ?_
  ·intro Ik54 k54 hk54 hf; cbv
   refine d_p hS hf (fun _=>c317 hM) ?_
   intro y56 hf; cbv
   refine d_br hS hf rfl ?_ ?_
   ·intro hf; cbv
    refine d_p hS hf (fun _=>c311 hM) ?_
    intro y57 hf; cbv
    refine d_cat hS hf rfl rfl ?_
    intro x58 hf; cbv
    refine d_room hS hf d_e ?_
    exact d_X
   exact d_X
  intro s53 hf; cbv
  exact d_Xz
 intro hf; cbv
 refine d_I ?_
 intro x59 hf; cbv
 refine d_callS hS hf (fun _=>s316 hM) (by (try simp only [q]); repeat' constructor) (by (try simp only [q]); repeat' constructor) rfl rfl rfl rfl ?_
 intro y60 hf; cbv
 refine d_p hS hf (fun _=>c319 hM) ?_
 intro y61 hf; cbv
 refine d_callS hS hf (fun _=>s316 hM) (by (try simp only [q]); repeat' constructor) (by (try simp only [q]); repeat' constructor) rfl rfl rfl rfl ?_
 intro y62 hf; cbv
 refine d_p hS hf (fun _=>c319 hM) ?_
 intro y63 hf; cbv
 refine d_callS hS hf (fun _=>s316 hM) (by (try simp only [q]); repeat' constructor) (by (try simp only [q]); repeat' constructor) rfl rfl rfl rfl ?_
 intro y64 hf; cbv
 refine d_p hS hf (fun _=>c319 hM) ?_
 intro y65 hf; cbv
 refine d_callS hS hf (fun _=>s316 hM) (by (try simp only [q]); repeat' constructor) (by (try simp only [q]); repeat' constructor) rfl rfl rfl rfl ?_
 intro y66 hf; cbv
 refine d_B ?_ ?_
 ·exact d_R
 intro hf; cbv
 refine d_callL hS hf (fun _=>c320 hM) d_le (fun _=>rfl) ?_
 exact d_Ry
theorem c179 {m:GMod} {r:Bool} (hf:r15_Is m=some r):Pv.Fn Tryz.prog glF 179 [.agg (eGMod M m)] (fun u=>u=.sb r):=by
 refine fn_D (tabcOK [2]) Tryz.func179 Tryz.call179 ?_
 intro S R hS hR
 have q:=sf hM hS
 unfold r15_Is at hf
 cbv
 refine d_cut hS [] [1,16] (fun s1=>f3 107 [(1,.lv 0 0),(16,.sb s1)] [vR (eGMod M m)]) hf ?_ ?_
 ·intro Ik2 k2 hk2 hf; cbv
  refine d_B ?_ ?_
  ·exact d_X
  intro hf; cbv
  refine d_B ?_ ?_
  ·exact d_X
  intro hf; cbv
  refine d_p hS hf (fun _=>c243 hM) ?_
  intro y4 hf; cbv
  replace hf:=d_lt hf
  exact d_Xz
 intro s1 hf; cbv
 refine d_br hS hf rfl ?_ ?_
 ·exact d_R
 intro hf; cbv
 refine d_B ?_ ?_
 ·intro hf; cbv
  refine d_p hS hf (fun _=>c244 hM) ?_
  exact d_Ry
 intro hf; cbv
 refine d_B ?_ ?_
 ·intro hf; cbv
  refine d_p hS hf (fun _=>c244 hM) ?_
  exact d_Ry
 intro hf; cbv
 refine d_B ?_ ?_
 ·intro hf; cbv
  refine d_p hS hf (fun _=>c164 hM) ?_
  exact d_Ry
 intro hf; cbv
 refine d_B ?_ ?_
 ·intro hf; cbv
  refine d_p hS hf (fun _=>c164 hM) ?_
  exact d_Ry
 intro hf; cbv
 refine d_B ?_ ?_
 ·intro hf; cbv
  refine d_B ?_ ?_ <;> exact d_R
 intro hf; cbv
 refine d_B ?_ ?_
 ·intro hf; cbv
  refine d_B ?_ ?_ <;> exact d_R
 intro hf; cbv
 refine d_B ?_ ?_
 ·intro hf; cbv
  refine d_B ?_ ?_ <;> exact d_R
 intro hf; cbv
 refine d_B ?_ ?_
 ·intro hf; cbv
  refine d_B ?_ ?_ <;> exact d_R
 intro hf; cbv
 refine d_B ?_ ?_
 ·intro hf; cbv
  refine d_p hS hf (fun _=>c166 hM) ?_
  exact d_Ry
 intro hf; cbv
 refine d_B ?_ ?_
 ·intro hf; cbv
  refine d_B ?_ ?_
  ·intro hf; cbv
   refine d_B ?_ ?_
   ·intro hf; cbv
    refine d_B ?_ ?_ <;> exact d_R
   exact d_R
  exact d_R
 intro hf; cbv
 refine d_B ?_ ?_
 ·intro hf; cbv
  refine d_B ?_ ?_
  ·intro hf; cbv
   refine d_B ?_ ?_
   ·intro hf; cbv
    refine d_B ?_ ?_ <;> exact d_R
   exact d_R
  exact d_R
 exact d_R
theorem c303 {a:GAmount} {r:Bool} (hf:r14_Is a=some r):Pv.Fn Tryz.prog glF 303 [.agg (eGAmount M a)] (fun u=>u=.sb r):=by
 refine fn_D (tabcOK [10,20,33]) Tryz.func303 Tryz.call303 ?_
 intro S R hS hR
 have q:=sf hM hS
 unfold r14_Is at hf
 cbv
 refine d_cut hS [] [1,3] (fun s1=>f3 59 [(1,.lv 0 0),(3,.lv 1 0)] [vR (eGAmount M a),vR (eGAmount M s1)]) hf ?_ ?_
 ·intro Ik2 k2 hk2 hf; cbv
  refine d_B ?_ ?_
  ·intro hf; cbv
   refine d_cut hS [] [1,3,17] (fun s4=>f3 59 [(1,.lv 0 0),(3,.lv 1 0),(17,.sb s4)] [vR (eGAmount M a),vR [sI a.kind,sI 0,sI a.counter,sI a.filter.zone,sI a.filter.who,sI a.filter.self,sI a.filter.types,sI a.filter.notTypes,sI a.filter.colors,sI a.filter.notColors,.str a.filter.sub,sI a.filter.keys,sI a.filter.tap,sI a.filter.power.kind,sI a.filter.power.n,sI a.filter.tough.kind,sI a.filter.tough.n,sI a.filter.value.kind,sI a.filter.value.n]]) hf ?_ ?_
   ·intro Ik5 k5 hk5 hf; cbv
    refine d_B ?_ ?_ <;> exact d_X
   intro s4 hf; cbv
   refine d_br hS hf rfl ?_ ?_
   ·exact d_R
   exact d_X
  intro hf; cbv
  refine d_B ?_ ?_
  ·intro hf; cbv
   refine d_cut hS [] [1,3,36] (fun s7=>f3 59 [(1,.lv 0 0),(3,.lv 1 0),(36,.sb s7)] [vR (eGAmount M a),vR [sI a.kind,sI 0,sI a.counter,sI 0,sI 0,sI 0,sI 0,sI 0,sI 0,sI 0,.str (bs []),sI 0,sI 0,sI 0,sI 0,sI 0,sI 0,sI 0,sI 0]]) hf ?_ ?_
   ·intro Ik8 k8 hk8 hf; cbv
    refine d_B ?_ ?_
    ·exact d_X
    intro hf; cbv
    refine d_B ?_ ?_
    ·exact d_X
    intro hf; cbv
    refine d_p hS hf (fun _=>c166 hM) ?_
    exact d_Xy
   intro s7 hf; cbv
   refine d_br hS hf rfl ?_ ?_
   ·exact d_R
   exact d_X
  intro hf; cbv
  refine d_B ?_ ?_
  ·intro hf; cbv
   refine d_p hS hf (fun _=>c302 hM) ?_
   intro y11 hf; cbv
   refine d_B ?_ ?_
   ·exact d_R
   exact d_X
  exact d_X
 intro s1 hf; cbv
 refine d_B ?_ ?_
 ·intro hf; cbv
  refine d_B ?_ ?_
  ·intro hf; cbv
   replace hf:=d_lt hf
   exact d_Rz
  exact d_R
 exact d_R
theorem c33 {s:GState} {r:Bool} (hf:r26_players s=some r):Pv.Fn Tryz.prog glF 33 [.agg (eGState M s)] (fun u=>u=.sb r):=by
 refine fn_D (tabcOK [14,18]) Tryz.func33 Tryz.call33 ?_
 intro S R hS hR
 have q:=sf hM hS
 unfold r26_players at hf
 cbv
 refine d_callp hS hf (fun _=>c32 hM) d_le ?_
 intro y1 hf; cbv
 refine d_B ?_ ?_
 ·exact d_R
 intro hf; cbv
 refine d_lp hS (tabcOK [14,18]) wf [] [1,3] (fun s2=>f3 76 [(1,.lv 0 0),(3,sI s2)] [vR (eGState M s)]) hf ?_
 intro Ik3 k3 s2 hk3 hf e he; subst he
 unfold r26_players_l1 at hf
 cbv
 refine d_B ?_ ?_
 ·intro hf; cbv
  refine d_I ?_
  intro x5 hf; cbv
  refine d_cut hS [] [1,3,4,43] (fun s6=>f3 76 [(1,.lv 0 0),(3,sI s2),(4,.lv 1 0),(43,.sb s6)] [vR (eGState M s),vR (eGPlayer M x5)]) hf ?_ ?_
  ·intro Ik7 k7 hk7 hf; cbv
   refine d_p hS hf (fun _=>c32 hM) ?_
   intro y9 hf; cbv
   refine d_B ?_ ?_
   ·exact d_X
   intro hf; cbv
   refine d_p hS hf (fun _=>c32 hM) ?_
   intro y10 hf; cbv
   refine d_B ?_ ?_
   ·exact d_X
   intro hf; cbv
   refine d_p hS hf (fun _=>c32 hM) ?_
   intro y11 hf; cbv
   refine d_B ?_ ?_
   ·exact d_X
   intro hf; cbv
   refine d_p hS hf (fun _=>c111 hM) ?_
   exact d_Xy
  intro s6 hf; cbv
  refine d_br hS hf rfl ?_ ?_
  ·exact d_R
  intro hf; cbv
  refine d_cut hS [] [1,3,65] (fun s13=>f3 76 [(1,.lv 0 0),(3,sI s2),(65,.sb s13)] [vR (eGState M s)]) hf ?_ ?_
  ·intro Ik14 k14 hk14 hf; cbv
   refine d_p hS hf (fun _=>c112 hM) ?_
   intro y16 hf; cbv
   refine d_B ?_ ?_
   ·exact d_X
   intro hf; cbv
   refine d_p hS hf (fun _=>c112 hM) ?_
   intro y17 hf; cbv
   refine d_B ?_ ?_
   ·exact d_X
   intro hf; cbv
   refine d_p hS hf (fun _=>c112 hM) ?_
   exact d_Xy
  intro s13 hf; cbv
  refine d_br hS hf rfl ?_ ?_
  ·exact d_R
  exact d_X
 intro hf; cbv
 refine d_p hS hf (fun _=>c112 hM) ?_
 intro y19 hf; cbv
 refine d_br hS hf rfl ?_ ?_
 ·intro hf; cbv
  refine d_p hS hf (fun _=>c112 hM) ?_
  exact d_Ry
 exact d_R
theorem c301 {pr:GRef} {specs:Int} {r:Bool} (hf:r16_Is pr specs=some r):Pv.Fn Tryz.prog glF 301 [.agg (eGRef M pr),sI specs] (fun u=>u=.sb r):=by
 refine fn_D (tabcOK [6,7,12,21]) Tryz.func301 Tryz.call301 ?_
 intro S R hS hR
 have q:=sf hM hS
 unfold r16_Is at hf
 cbv
 refine d_cut hS [] [1,2] (fun s1=>f3 40 [(1,sI s1),(2,.lv 0 0)] [vR (eGRef M pr)]) hf ?_ ?_
 ·intro Ik2 k2 hk2 hf; cbv
  refine d_B ?_ ?_ <;> exact d_X
 intro s1 hf; cbv
 refine d_cut hS [] [1,2,14] (fun s4=>f3 40 [(1,sI s1),(2,.lv 0 0),(14,.sb s4)] [vR (eGRef M pr)]) hf ?_ ?_
 ·intro Ik5 k5 hk5 hf; cbv
  refine d_B ?_ ?_ <;> exact d_X
 intro s4 hf; cbv
 refine d_br hS hf rfl ?_ ?_
 ·exact d_R
 intro hf; cbv
 refine d_cut hS [] [2] (fun s7=>f3 40 [(2,.lv 0 0)] [vR (eGRef M pr)]) hf ?_ ?_
 ·intro Ik8 k8 hk8 hf; cbv
  refine d_p hS hf (fun _=>c357 hM) ?_
  intro y10 hf; cbv
  refine d_br hS hf rfl ?_ ?_
  ·intro hf; cbv
   refine d_cut hS [] [2,26] (fun s11=>f3 40 [(2,.lv 0 0),(26,.sb s11)] [vR (eGRef M pr)]) hf ?_ ?_
   ·intro Ik12 k12 hk12 hf; cbv
    refine d_B ?_ ?_ <;> exact d_X
   intro s11 hf; cbv
   refine d_br hS hf rfl ?_ ?_
   ·exact d_R
   exact d_X
  intro hf; cbv
  refine d_B ?_ ?_
  ·exact d_R
  exact d_X
 intro s7 hf; cbv
 refine d_B ?_ ?_
 ·intro hf; cbv
  refine d_p hS hf (fun _=>c166 hM) ?_
  exact d_Ry
 intro hf; cbv
 replace hf:=d_lt hf
 exact d_Rz
theorem c100 {a:GItem} {b:GItem} {r:Bool} (hf:r26_SameItem a b=some r):Pv.Fn Tryz.prog glF 100 [.agg (eGItem M a),.agg (eGItem M b)] (fun u=>u=.sb r):=by
 refine fn_D tabOK Tryz.func100 Tryz.call100 ?_
 intro S R hS hR
 have q:=sf hM hS
 unfold r26_SameItem at hf
 cbv
 refine d_B ?_ ?_
 ·exact d_R
 intro hf; cbv
 refine d_lp hS tabOK wf [] [2,3,5] (fun s1=>f3 85 [(2,.lv 0 0),(3,.lv 1 0),(5,sI s1)] [vR (eGItem M a),vR (eGItem M b)]) hf ?_
 intro Ik2 k2 s1 hk2 hf e he; subst he
 unfold r26_SameItem_l1 at hf
 cbv
 refine d_B ?_ ?_
 ·intro hf; cbv
  refine d_o hS ?_; cbv
  refine d_I ?_
  intro x4 hf; cbv
  refine d_I ?_
  intro x5 hf; cbv
  replace hf:=d_lt hf
  refine d_B ?_ ?_
  ·exact d_R
  exact d_X
 intro hf; cbv
 refine d_B ?_ ?_
 ·intro hf; cbv
  refine d_B ?_ ?_
  ·intro hf; cbv
   refine d_B ?_ ?_
   ·intro hf; cbv
    refine d_B ?_ ?_
    ·intro hf; cbv
     refine d_B ?_ ?_
     ·intro hf; cbv
      refine d_B ?_ ?_
      ·intro hf; cbv
       refine d_p hS hf (fun _=>c161 hM) ?_
       intro y7 hf; cbv
       refine d_br hS hf rfl ?_ ?_
       ·intro hf; cbv
        replace hf:=d_lt hf
        exact d_Rz
       exact d_R
      exact d_R
     exact d_R
    exact d_R
   exact d_R
  exact d_R
 exact d_R
theorem c168 {t:GTrigger} {r:Bool} (hf:r18_Is t=some r):Pv.Fn Tryz.prog glF 168 [.agg (eGTrigger M t)] (fun u=>u=.sb r):=by
 refine fn_D (tabcOK [2,17]) Tryz.func168 Tryz.call168 ?_
 intro S R hS hR
 have q:=sf hM hS
 unfold r18_Is at hf
 cbv
 refine d_cut hS [] [1,28] (fun s1=>f3 50 [(1,.lv 0 0),(28,.sb s1)] [vR (eGTrigger M t)]) hf ?_ ?_
 ·intro Ik2 k2 hk2 hf; cbv
  refine d_p hS hf (fun _=>c233 hM) ?_
  intro y4 hf; cbv
  refine d_B ?_ ?_
  ·exact d_X
  intro hf; cbv
  refine d_B ?_ ?_
  ·exact d_X
  intro hf; cbv
  refine d_B ?_ ?_
  ·exact d_X
  intro hf; cbv
  refine d_p hS hf (fun _=>c234 hM) ?_
  intro y5 hf; cbv
  refine d_B ?_ ?_ <;> exact d_X
 intro s1 hf; cbv
 refine d_br hS hf rfl ?_ ?_
 ·exact d_R
 intro hf; cbv
 refine d_p hS hf (fun _=>c235 hM) ?_
 intro y6 hf; cbv
 refine d_B ?_ ?_
 ·intro hf; cbv
  replace hf:=d_lt hf
  exact d_Rz
 intro hf; cbv
 refine d_cut hS [] [1,3] (fun s8=>f3 50 [(1,.lv 0 0),(3,sI s8)] [vR (eGTrigger M t)]) hf ?_ ?_
 ·intro Ik9 k9 hk9 hf; cbv
  refine d_B ?_ ?_ <;> exact d_X
 intro s8 hf; cbv
 refine d_p hS hf (fun _=>c166 hM) ?_
 intro y11 hf; cbv
 refine d_br hS hf rfl ?_ ?_ <;> exact d_R
theorem c239 {s:GSpec} {r:Bool} (hf:r20_spec s=some r):Pv.Fn Tryz.prog glF 239 [.agg (eGSpec M s)] (fun u=>u=.sb r):=by
 refine fn_D (tabcOK [4]) Tryz.func239 Tryz.call239 ?_
 intro S R hS hR
 have q:=sf hM hS
 unfold r20_spec at hf
 cbv
 refine d_B ?_ ?_
 ·intro hf; cbv
  refine d_cut hS [] [2] (fun s1=>f3 33 [(2,.sb s1)] []) hf ?_ ?_
  ·intro Ik2 k2 hk2 hf; cbv
   refine d_br hS hf rfl ?_ ?_
   ·intro hf; cbv
    replace hf:=d_lt hf
    exact d_Xz
   exact d_X
  intro s1 hf; cbv
  exact d_Rz
 intro hf; cbv
 refine d_p hS hf (fun _=>c166 hM) ?_
 intro y5 hf; cbv
 refine d_br hS hf rfl ?_ ?_
 ·intro hf; cbv
  refine d_B ?_ ?_
  ·exact d_R
  intro hf; cbv
  refine d_B ?_ ?_ <;> exact d_R
 exact d_R
theorem c306 {op:Int} {f:GFilter} {r:Bool} (hf:r17_filter op f=some r):Pv.Fn Tryz.prog glF 306 [sI op,.agg (eGFilter M f)] (fun u=>u=.sb r):=by
 refine fn_D (tabcOK [9]) Tryz.func306 Tryz.call306 ?_
 intro S R hS hR
 have q:=sf hM hS
 unfold r17_filter at hf
 cbv
 refine d_cut hS [] [3,5] (fun s1=>f3 16 [(3,.lv 0 0),(5,sI s1)] [vR (eGFilter M f)]) hf ?_ ?_
 ·intro Ik2 k2 hk2 hf; cbv
  refine d_B ?_ ?_ <;> exact d_X
 intro s1 hf; cbv
 refine d_p hS hf (fun _=>c166 hM) ?_
 intro y4 hf; cbv
 refine d_br hS hf rfl ?_ ?_ <;> exact d_R
theorem c101 {a:GWaiting} {b:GWaiting} {r:Bool} (hf:r26_SameWaiting a b=some r):Pv.Fn Tryz.prog glF 101 [.agg (eGWaiting M a),.agg (eGWaiting M b)] (fun u=>u=.sb r):=by
 refine fn_D tabOK Tryz.func101 Tryz.call101 ?_
 intro S R hS hR
 have q:=sf hM hS
 unfold r26_SameWaiting at hf
 cbv
 refine d_B ?_ ?_
 ·intro hf; cbv
  refine d_B ?_ ?_
  ·intro hf; cbv
   refine d_p hS hf (fun _=>c161 hM) ?_
   intro y1 hf; cbv
   refine d_br hS hf rfl ?_ ?_
   ·intro hf; cbv
    replace hf:=d_lt hf
    exact d_Rz
   exact d_R
  exact d_R
 exact d_R
theorem c238 {f:GFilter} {r:Bool} (hf:r19_field f=some r):Pv.Fn Tryz.prog glF 238 [.agg (eGFilter M f)] (fun u=>u=.sb r):=by
 refine fn_D tabOK Tryz.func238 Tryz.call238 ?_
 intro S R hS hR
 have q:=sf hM hS
 unfold r19_field at hf
 cbv
 refine d_p hS hf (fun _=>c166 hM) ?_
 intro y1 hf; cbv
 refine d_br hS hf rfl ?_ ?_ <;> exact d_R
end
end Go.Proofs.YthfepelpmalckaaGreatDoor
