import Derived.Test.YtddcpnlflncahaaGreatC16
set_option linter.all false
namespace Go.Proofs.YtddcpnlflncahaaGreat
open Go Go.Pv
set_option maxRecDepth 100000
set_option maxHeartbeats 2000000
theorem c12 {M:EncM} (hM:M=mapE) {s:GState} {r:GState} (hf:r48_Next s=some r):Pv.Fn Tryz.prog glF 12 [.agg (eGState M s)] (fun u=>u=.agg (eGState M r)):=by
 refine fn_dec (T:=(tabc [18,45,59])) (tabcOK [18,45,59]) rfl wf Tryz.func12 rfl Tryz.call12 rfl ?_
 intro S R hS hR
 have q:=sf hM hS
 unfold r48_Next at hf
 cbv
 refine d_callo hS hf (fun _=>o33 hM) (le_eq rfl) ?_
 intro y1 hf; cbv
 refine d_lp hS (tabcOK [18,45,59]) wf [] [1,2,3,4] (fun s2=>⟨tpsL 0 101 [(1,.lv 0 0),(2,.lv 1 0),(3,.lv 2 0),(4,.si .i64 s2.1)],[(0,some (.var false (eGState M s))),(1,some (.var false [.sl 0 [] true,.sl 0 [] true,.sl 0 [] true,.sl 0 [] true,.sl 0 [] true,.sl 0 [] true,.sl 0 [] true,.si .i64 0,.si .i64 0,.si .i64 0,.sb false,.si .i64 0,.si .i64 0,.si .i64 0,.si .i64 0,.si .u64 0,.sl 0 [] true,.si .i64 0,.si .i64 0])),(2,some (.var false [.os 3 0 (S.lenN (M.m GPlayer (eGPlayer M) s2.2)),.os 4 0 (S.lenN (M.m GObject (eGObject M) y1.objects)),.sl 1 (M.m Int (eI .i64) y1.battlefield) false,.sl 1 (M.m Int (eI .i64) y1.exile) false,.os 5 0 (S.lenN (M.m GItem (eGItem M) y1.stack)),.os 6 0 (S.lenN (M.m GWaiting (eGWaiting M) y1.waiting)),.os 7 0 (S.lenN (M.m GCont (eGCont M) y1.conts)),.si .i64 y1.turn,.si .i64 y1.active,.si .i64 y1.step,.sb y1.begun,.si .i64 y1.priority,.si .i64 y1.passes,.si .i64 y1.nextId,.si .i64 y1.nextStamp,.si .u64 y1.seed,.sl 1 (M.m Int (eI .i64) y1.extra) false,.si .i64 y1.over,.si .i64 y1.winner])),(3,some (.arr false 14 (M.m GPlayer (eGPlayer M) s2.2))),(4,some (.arr false 19 (M.m GObject (eGObject M) y1.objects))),(5,some (.arr false 94 (M.m GItem (eGItem M) y1.stack))),(6,some (.arr false 89 (M.m GWaiting (eGWaiting M) y1.waiting))),(7,some (.arr false 6 (M.m GCont (eGCont M) y1.conts)))],8⟩) hf ?_
 intro Ik3 k3 s2 hk3 hf e he; subst he
 unfold r48_Next_l2 at hf
 cbv
 refine d_b hS hf ?_ ?_
 ·intro hf; cbv
  refine d_ix hS hf d_e rfl ?_
  intro j5 _ hf; cbv
  refine d_wk hS (e:=(eArr6 (eI .i64))) hf (by (try simp only [q]); repeat' constructor) ?_
  intro x6 hf; cbv
  refine d_row hS hM hf rfl d_e ?_
  intro x7 hf; cbv
  exact d_x hk3 hf
 intro hf; cbv
 refine d_cut hS [] [1,2,3,35] (fun s8=>⟨tpsL 0 101 [(1,.lv 0 0),(2,.lv 1 0),(3,.lv 2 0),(35,.sb s8)],[(0,some (.var false (eGState M s))),(1,some (.var false [.sl 0 [] true,.sl 0 [] true,.sl 0 [] true,.sl 0 [] true,.sl 0 [] true,.sl 0 [] true,.sl 0 [] true,.si .i64 0,.si .i64 0,.si .i64 0,.sb false,.si .i64 0,.si .i64 0,.si .i64 0,.si .i64 0,.si .u64 0,.sl 0 [] true,.si .i64 0,.si .i64 0])),(2,some (.var false [.os 3 0 (S.lenN (M.m GPlayer (eGPlayer M) s2.2)),.os 4 0 (S.lenN (M.m GObject (eGObject M) y1.objects)),.sl 1 (M.m Int (eI .i64) y1.battlefield) false,.sl 1 (M.m Int (eI .i64) y1.exile) false,.os 5 0 (S.lenN (M.m GItem (eGItem M) y1.stack)),.os 6 0 (S.lenN (M.m GWaiting (eGWaiting M) y1.waiting)),.os 7 0 (S.lenN (M.m GCont (eGCont M) y1.conts)),.si .i64 y1.turn,.si .i64 y1.active,.si .i64 y1.step,.sb false,.si .i64 y1.active,.si .i64 0,.si .i64 y1.nextId,.si .i64 y1.nextStamp,.si .u64 y1.seed,.sl 1 (M.m Int (eI .i64) y1.extra) false,.si .i64 y1.over,.si .i64 y1.winner])),(3,some (.arr false 14 (M.m GPlayer (eGPlayer M) s2.2))),(4,some (.arr false 19 (M.m GObject (eGObject M) y1.objects))),(5,some (.arr false 94 (M.m GItem (eGItem M) y1.stack))),(6,some (.arr false 89 (M.m GWaiting (eGWaiting M) y1.waiting))),(7,some (.arr false 6 (M.m GCont (eGCont M) y1.conts)))],8⟩) hf ?_ ?_
 ·intro Ik9 k9 hk9 hf; cbv
  refine d_b hS hf ?_ ?_
  ·intro hf; cbv
   refine d_p hS hf (fun _=>c34 hM) ?_
   intro y11 hf; cbv
   exact d_x hk9 hf
  intro hf; cbv
  exact d_x hk9 hf
 intro s8 hf; cbv
 refine d_br hS hf rfl ?_ ?_
 ·intro hf; cbv
  cases hf; exact hR _ d_l
 intro hf; cbv
 refine d_b hS hf ?_ ?_
 ·intro hf; cbv
  cases hf; exact hR _ d_l
 intro hf; cbv
 refine d_b hS hf ?_ ?_
 ·intro hf; cbv
  refine d_frz hS rfl ?_; cbv
  refine d_callo hS hf (fun _=>o35 hM) d_le ?_
  intro y12 hf; cbv
  cases hf; exact hR _ d_l
 intro hf; cbv
 refine d_p hS hf (fun _=>c36 hM) ?_
 intro y13 hf; cbv
 refine d_cut hS [] [1,2,3,5] (fun s14=>⟨tpsL 0 101 [(1,.lv 0 0),(2,.lv 1 0),(3,.lv 2 0),(5,.si .i64 s14)],[(0,some (.var false (eGState M s))),(1,some (.var false [.sl 0 [] true,.sl 0 [] true,.sl 0 [] true,.sl 0 [] true,.sl 0 [] true,.sl 0 [] true,.sl 0 [] true,.si .i64 0,.si .i64 0,.si .i64 0,.sb false,.si .i64 0,.si .i64 0,.si .i64 0,.si .i64 0,.si .u64 0,.sl 0 [] true,.si .i64 0,.si .i64 0])),(2,some (.var false [.os 3 0 (S.lenN (M.m GPlayer (eGPlayer M) s2.2)),.os 4 0 (S.lenN (M.m GObject (eGObject M) y1.objects)),.sl 1 (M.m Int (eI .i64) y1.battlefield) false,.sl 1 (M.m Int (eI .i64) y1.exile) false,.os 5 0 (S.lenN (M.m GItem (eGItem M) y1.stack)),.os 6 0 (S.lenN (M.m GWaiting (eGWaiting M) y1.waiting)),.os 7 0 (S.lenN (M.m GCont (eGCont M) y1.conts)),.si .i64 (S.bin .add .i64 y1.turn 1),.si .i64 y1.active,.si .i64 0,.sb false,.si .i64 y1.active,.si .i64 0,.si .i64 y1.nextId,.si .i64 y1.nextStamp,.si .u64 y1.seed,.sl 1 (M.m Int (eI .i64) y1.extra) false,.si .i64 y1.over,.si .i64 y1.winner])),(3,some (.arr false 14 (M.m GPlayer (eGPlayer M) s2.2))),(4,some (.arr false 19 (M.m GObject (eGObject M) y1.objects))),(5,some (.arr false 94 (M.m GItem (eGItem M) y1.stack))),(6,some (.arr false 89 (M.m GWaiting (eGWaiting M) y1.waiting))),(7,some (.arr false 6 (M.m GCont (eGCont M) y1.conts)))],8⟩) hf ?_ ?_
 ·intro Ik15 k15 hk15 hf; cbv
  refine d_b hS hf ?_ ?_
  ·intro hf; cbv
   exact d_x hk15 hf
  intro hf; cbv
  exact d_x hk15 hf
 intro s14 hf; cbv
 refine d_cut hS [.tO 6 1] [2,3,5,6] (fun s17=>⟨tpsL 0 101 [(2,.lv 0 0),(3,.lv 1 0),(5,.si .i64 s17.1),(6,.os 7 0 (S.lenN (M.m Int (eI .i64) s17.2)))],[(0,some (.var false [.sl 0 [] true,.sl 0 [] true,.sl 0 [] true,.sl 0 [] true,.sl 0 [] true,.sl 0 [] true,.sl 0 [] true,.si .i64 0,.si .i64 0,.si .i64 0,.sb false,.si .i64 0,.si .i64 0,.si .i64 0,.si .i64 0,.si .u64 0,.sl 0 [] true,.si .i64 0,.si .i64 0])),(1,some (.var false [.os 2 0 (S.lenN (M.m GPlayer (eGPlayer M) s2.2)),.os 3 0 (S.lenN (M.m GObject (eGObject M) y1.objects)),.sl 1 (M.m Int (eI .i64) y1.battlefield) false,.sl 1 (M.m Int (eI .i64) y1.exile) false,.os 4 0 (S.lenN (M.m GItem (eGItem M) y1.stack)),.os 5 0 (S.lenN (M.m GWaiting (eGWaiting M) y1.waiting)),.os 6 0 (S.lenN (M.m GCont (eGCont M) y1.conts)),.si .i64 (S.bin .add .i64 y1.turn 1),.si .i64 y1.active,.si .i64 0,.sb false,.si .i64 y1.active,.si .i64 0,.si .i64 y1.nextId,.si .i64 y1.nextStamp,.si .u64 y1.seed,.sl 1 (M.m Int (eI .i64) y1.extra) false,.si .i64 y1.over,.si .i64 y1.winner])),(2,some (.arr false 14 (M.m GPlayer (eGPlayer M) s2.2))),(3,some (.arr false 19 (M.m GObject (eGObject M) y1.objects))),(4,some (.arr false 94 (M.m GItem (eGItem M) y1.stack))),(5,some (.arr false 89 (M.m GWaiting (eGWaiting M) y1.waiting))),(6,some (.arr false 6 (M.m GCont (eGCont M) y1.conts))),(7,some (.arr false 1 (M.m Int (eI .i64) s17.2)))],8⟩) hf ?_ ?_
 ·intro Ik18 k18 hk18 hf; cbv
  refine d_lp hS (tabcOK [18,45,59]) wf [] [1,2,3,5,6,7] (fun s20=>⟨tpsL 0 101 [(1,.lv 0 0),(2,.lv 1 0),(3,.lv 2 0),(5,.si .i64 s14),(6,.sl 0 [] true),(7,.si .i64 s20)],[(0,some (.var false (eGState M s))),(1,some (.var false [.sl 0 [] true,.sl 0 [] true,.sl 0 [] true,.sl 0 [] true,.sl 0 [] true,.sl 0 [] true,.sl 0 [] true,.si .i64 0,.si .i64 0,.si .i64 0,.sb false,.si .i64 0,.si .i64 0,.si .i64 0,.si .i64 0,.si .u64 0,.sl 0 [] true,.si .i64 0,.si .i64 0])),(2,some (.var false [.os 3 0 (S.lenN (M.m GPlayer (eGPlayer M) s2.2)),.os 4 0 (S.lenN (M.m GObject (eGObject M) y1.objects)),.sl 1 (M.m Int (eI .i64) y1.battlefield) false,.sl 1 (M.m Int (eI .i64) y1.exile) false,.os 5 0 (S.lenN (M.m GItem (eGItem M) y1.stack)),.os 6 0 (S.lenN (M.m GWaiting (eGWaiting M) y1.waiting)),.os 7 0 (S.lenN (M.m GCont (eGCont M) y1.conts)),.si .i64 (S.bin .add .i64 y1.turn 1),.si .i64 y1.active,.si .i64 0,.sb false,.si .i64 y1.active,.si .i64 0,.si .i64 y1.nextId,.si .i64 y1.nextStamp,.si .u64 y1.seed,.sl 1 (M.m Int (eI .i64) y1.extra) false,.si .i64 y1.over,.si .i64 y1.winner])),(3,some (.arr false 14 (M.m GPlayer (eGPlayer M) s2.2))),(4,some (.arr false 19 (M.m GObject (eGObject M) y1.objects))),(5,some (.arr false 94 (M.m GItem (eGItem M) y1.stack))),(6,some (.arr false 89 (M.m GWaiting (eGWaiting M) y1.waiting))),(7,some (.arr false 6 (M.m GCont (eGCont M) y1.conts)))],8⟩) hf ?_
  intro Ik21 k21 s20 hk21 hf e he; subst he
  unfold r48_Next_l1 at hf
  cbv
  refine d_b hS hf ?_ ?_
  ·intro hf; cbv
   refine d_o hS ?_; cbv
   refine d_idx hS hM hf rfl rfl ?_
   intro x23 hf; cbv
   refine d_idx hS hM hf rfl rfl ?_
   intro x24 hf; cbv
   refine d_b hS hf ?_ ?_
   ·intro hf; cbv
    refine d_idx hS hM hf rfl rfl ?_
    intro x25 hf; cbv
    refine d_slc hS hf d_e rfl rfl ?_
    intro x26 bx26 hf; cbv
    refine d_room hS hf d_e ?_
    intro hf; cbv
    exact d_x hk18 hf
   intro hf; cbv
   exact d_x hk21 hf
  intro hf; cbv
  exact d_x hk18 hf
 intro s17 hf; cbv
 cases hf; exact hR _ d_l
theorem c205 {M:EncM} (hM:M=mapE) {f:GFilter} {r:ByteArray} (hf:r13_Text f=some r):Pv.Fn Tryz.prog glF 205 [.agg (eGFilter M f)] (fun u=>u=.str r):=by
 refine fn_dec (T:=(tabc [24,27,34,37,44,47,54,57,67,68,71])) (tabcOK [24,27,34,37,44,47,54,57,67,68,71]) rfl wf Tryz.func205 rfl Tryz.call205 rfl ?_
 intro S R hS hR
 have q:=sf hM hS
 unfold r13_Text at hf
 cbv
 refine d_p hS hf (fun _=>c156 hM) ?_
 intro y1 hf; cbv
 refine d_b hS hf ?_ ?_
 ·intro hf; cbv
  cases hf; exact hR _ (lp_eq rfl)
 intro hf; cbv
 refine d_p hS hf (fun _=>c234 hM) ?_
 intro y2 hf; cbv
 refine d_p hS hf (fun _=>c235 hM) ?_
 intro y3 hf; cbv
 refine d_p hS hf (fun _=>c236 hM) ?_
 intro y4 hf; cbv
 refine d_p hS hf (fun _=>c237 hM) ?_
 intro y5 hf; cbv
 refine d_idx hS hM hf rfl rfl ?_
 intro x6 hf; cbv
 refine d_prep hS [(1,false),(0,false)] rfl ?_; cbv
 refine d_callS hS hf (fun _=>s238 hM) (by (try simp only [q]); repeat' constructor) (by (try simp only [q]); repeat' constructor) rfl rfl rfl rfl ?_
 intro y7 hf; cbv
 refine d_idx hS hM hf rfl rfl ?_
 intro x8 hf; cbv
 refine d_callS hS hf (fun _=>s238 hM) (by (try simp only [q]); repeat' constructor) (by (try simp only [q]); repeat' constructor) rfl rfl rfl rfl ?_
 intro y9 hf; cbv
 refine d_idx hS hM hf rfl rfl ?_
 intro x10 hf; cbv
 refine d_callS hS hf (fun _=>s238 hM) (by (try simp only [q]); repeat' constructor) (by (try simp only [q]); repeat' constructor) rfl rfl rfl rfl ?_
 intro y11 hf; cbv
 refine d_lp hS (tabcOK [24,27,34,37,44,47,54,57,67,68,71]) wf [] [1,6,7,8] (fun s12=>⟨tpsL 0 145 [(1,.lv 0 0),(6,.sl 1 (M.m ByteArray eS y5) false),(7,.os 1 0 (S.lenN (M.m ByteArray eS s12.2))),(8,.si .i64 s12.1)],[(0,some (.var false (eGFilter M f))),(1,some (.arr false 1 (M.m ByteArray eS s12.2)))],2⟩) hf ?_
 intro Ik13 k13 s12 hk13 hf e he; subst he
 unfold r13_Text_l5 at hf
 cbv
 refine l_seq hS ?_; cbv
 refine d_b hS hf ?_ ?_
 ·intro hf; cbv
  refine d_cut hS [] [1,6,7,8] (fun s15=>⟨tpsL 0 145 [(1,.lv 0 0),(6,.sl 1 (M.m ByteArray eS y5) false),(7,.os 1 0 (S.lenN (M.m ByteArray eS s15))),(8,.si .i64 s12.1)],[(0,some (.var false (eGFilter M f))),(1,some (.arr false 1 (M.m ByteArray eS s15)))],2⟩) hf ?_ ?_
  ·intro Ik16 k16 hk16 hf; cbv
   refine d_p hS hf (fun _=>c239 hM) ?_
   intro y18 hf; cbv
   refine d_br hS hf rfl ?_ ?_
   ·intro hf; cbv
    refine d_p hS hf (fun _=>c240 hM) ?_
    intro y19 hf; cbv
    refine d_room hS hf d_e ?_
    intro hf; cbv
    exact d_x hk16 hf
   intro hf; cbv
   exact d_x hk16 hf
  intro s15 hf; cbv
  exact d_x hk13 hf
 intro hf; cbv
 refine d_lp hS (tabcOK [24,27,34,37,44,47,54,57,67,68,71]) wf [] [1,6,7,9] (fun s20=>⟨tpsL 0 145 [(1,.lv 0 0),(6,.sl 1 (M.m ByteArray eS y5) false),(7,.os 1 0 (S.lenN (M.m ByteArray eS s20.2))),(9,.si .i64 s20.1)],[(0,some (.var false (eGFilter M f))),(1,some (.arr false 1 (M.m ByteArray eS s20.2)))],2⟩) hf ?_
 intro Ik21 k21 s20 hk21 hf e he; subst he
 unfold r13_Text_l4 at hf
 cbv
 refine l_seq hS ?_; cbv
 refine d_b hS hf ?_ ?_
 ·intro hf; cbv
  refine d_cut hS [] [1,6,7,9] (fun s23=>⟨tpsL 0 145 [(1,.lv 0 0),(6,.sl 1 (M.m ByteArray eS y5) false),(7,.os 1 0 (S.lenN (M.m ByteArray eS s23))),(9,.si .i64 s20.1)],[(0,some (.var false (eGFilter M f))),(1,some (.arr false 1 (M.m ByteArray eS s23)))],2⟩) hf ?_ ?_
  ·intro Ik24 k24 hk24 hf; cbv
   refine d_p hS hf (fun _=>c239 hM) ?_
   intro y26 hf; cbv
   refine d_br hS hf rfl ?_ ?_
   ·intro hf; cbv
    refine d_p hS hf (fun _=>c240 hM) ?_
    intro y27 hf; cbv
    refine d_cat hS hf rfl rfl ?_
    intro x28 hf; cbv
    refine d_room hS hf d_e ?_
    intro hf; cbv
    exact d_x hk24 hf
   intro hf; cbv
   exact d_x hk24 hf
  intro s23 hf; cbv
  exact d_x hk21 hf
 intro hf; cbv
 refine d_lp hS (tabcOK [24,27,34,37,44,47,54,57,67,68,71]) wf [] [1,6,7,10] (fun s29=>⟨tpsL 0 145 [(1,.lv 0 0),(6,.sl 1 (M.m ByteArray eS y5) false),(7,.os 1 0 (S.lenN (M.m ByteArray eS s29.2))),(10,.si .i64 s29.1)],[(0,some (.var false (eGFilter M f))),(1,some (.arr false 1 (M.m ByteArray eS s29.2)))],2⟩) hf ?_
 intro Ik30 k30 s29 hk30 hf e he; subst he
 unfold r13_Text_l3 at hf
 cbv
 refine l_seq hS ?_; cbv
 refine d_b hS hf ?_ ?_
 ·intro hf; cbv
  refine d_cut hS [] [1,6,7,10] (fun s32=>⟨tpsL 0 145 [(1,.lv 0 0),(6,.sl 1 (M.m ByteArray eS y5) false),(7,.os 1 0 (S.lenN (M.m ByteArray eS s32))),(10,.si .i64 s29.1)],[(0,some (.var false (eGFilter M f))),(1,some (.arr false 1 (M.m ByteArray eS s32)))],2⟩) hf ?_ ?_
  ·intro Ik33 k33 hk33 hf; cbv
   refine d_p hS hf (fun _=>c239 hM) ?_
   intro y35 hf; cbv
   refine d_br hS hf rfl ?_ ?_
   ·intro hf; cbv
    refine d_p hS hf (fun _=>c232 hM) ?_
    intro y36 hf; cbv
    refine d_room hS hf d_e ?_
    intro hf; cbv
    exact d_x hk33 hf
   intro hf; cbv
   exact d_x hk33 hf
  intro s32 hf; cbv
  exact d_x hk30 hf
 intro hf; cbv
 refine d_lp hS (tabcOK [24,27,34,37,44,47,54,57,67,68,71]) wf [] [1,6,7,11] (fun s37=>⟨tpsL 0 145 [(1,.lv 0 0),(6,.sl 1 (M.m ByteArray eS y5) false),(7,.os 1 0 (S.lenN (M.m ByteArray eS s37.2))),(11,.si .i64 s37.1)],[(0,some (.var false (eGFilter M f))),(1,some (.arr false 1 (M.m ByteArray eS s37.2)))],2⟩) hf ?_
 intro Ik38 k38 s37 hk38 hf e he; subst he
 unfold r13_Text_l2 at hf
 cbv
 refine l_seq hS ?_; cbv
 refine d_b hS hf ?_ ?_
 ·intro hf; cbv
  refine d_cut hS [] [1,6,7,11] (fun s40=>⟨tpsL 0 145 [(1,.lv 0 0),(6,.sl 1 (M.m ByteArray eS y5) false),(7,.os 1 0 (S.lenN (M.m ByteArray eS s40))),(11,.si .i64 s37.1)],[(0,some (.var false (eGFilter M f))),(1,some (.arr false 1 (M.m ByteArray eS s40)))],2⟩) hf ?_ ?_
  ·intro Ik41 k41 hk41 hf; cbv
   refine d_p hS hf (fun _=>c239 hM) ?_
   intro y43 hf; cbv
   refine d_br hS hf rfl ?_ ?_
   ·intro hf; cbv
    refine d_p hS hf (fun _=>c232 hM) ?_
    intro y44 hf; cbv
    refine d_cat hS hf rfl rfl ?_
    intro x45 hf; cbv
    refine d_room hS hf d_e ?_
    intro hf; cbv
    exact d_x hk41 hf
   intro hf; cbv
   exact d_x hk41 hf
  intro s40 hf; cbv
  exact d_x hk38 hf
 intro hf; cbv
 refine d_cut hS [] [1,6,7] (fun s46=>⟨tpsL 0 145 [(1,.lv 0 0),(6,.sl 1 (M.m ByteArray eS y5) false),(7,.os 1 0 (S.lenN (M.m ByteArray eS s46)))],[(0,some (.var false (eGFilter M f))),(1,some (.arr false 1 (M.m ByteArray eS s46)))],2⟩) hf ?_ ?_
 ·intro Ik47 k47 hk47 hf; cbv
  refine d_b hS hf ?_ ?_
  ·intro hf; cbv
   refine d_cat hS hf rfl rfl ?_
   intro x49 hf; cbv
   refine d_room hS hf d_e ?_
   intro hf; cbv
   exact d_x hk47 hf
  intro hf; cbv
  exact d_x hk47 hf
 intro s46 hf; cbv
 refine d_lp hS (tabcOK [24,27,34,37,44,47,54,57,67,68,71]) wf [] [1,6,7,12] (fun s50=>⟨tpsL 0 145 [(1,.lv 0 0),(6,.sl 1 (M.m ByteArray eS y5) false),(7,.os 1 0 (S.lenN (M.m ByteArray eS s50.2))),(12,.si .i64 s50.1)],[(0,some (.var false (eGFilter M f))),(1,some (.arr false 1 (M.m ByteArray eS s50.2)))],2⟩) hf ?_
 intro Ik51 k51 s50 hk51 hf e he; subst he
 unfold r13_Text_l1 at hf
 cbv
 refine l_seq hS ?_; cbv
 refine d_b hS hf ?_ ?_
 ·intro hf; cbv
  refine d_cut hS [] [1,6,7,12] (fun s53=>⟨tpsL 0 145 [(1,.lv 0 0),(6,.sl 1 (M.m ByteArray eS y5) false),(7,.os 1 0 (S.lenN (M.m ByteArray eS s53))),(12,.si .i64 s50.1)],[(0,some (.var false (eGFilter M f))),(1,some (.arr false 1 (M.m ByteArray eS s53)))],2⟩) hf ?_ ?_
  ·intro Ik54 k54 hk54 hf; cbv
   refine d_p hS hf (fun _=>c239 hM) ?_
   intro y56 hf; cbv
   refine d_br hS hf rfl ?_ ?_
   ·intro hf; cbv
    refine d_p hS hf (fun _=>c233 hM) ?_
    intro y57 hf; cbv
    refine d_cat hS hf rfl rfl ?_
    intro x58 hf; cbv
    refine d_room hS hf d_e ?_
    intro hf; cbv
    exact d_x hk54 hf
   intro hf; cbv
   exact d_x hk54 hf
  intro s53 hf; cbv
  exact d_x hk51 hf
 intro hf; cbv
 refine d_idx hS hM hf rfl rfl ?_
 intro x59 hf; cbv
 refine d_callS hS hf (fun _=>s238 hM) (by (try simp only [q]); repeat' constructor) (by (try simp only [q]); repeat' constructor) rfl rfl rfl rfl ?_
 intro y60 hf; cbv
 refine d_p hS hf (fun _=>c241 hM) ?_
 intro y61 hf; cbv
 refine d_callS hS hf (fun _=>s238 hM) (by (try simp only [q]); repeat' constructor) (by (try simp only [q]); repeat' constructor) rfl rfl rfl rfl ?_
 intro y62 hf; cbv
 refine d_p hS hf (fun _=>c241 hM) ?_
 intro y63 hf; cbv
 refine d_callS hS hf (fun _=>s238 hM) (by (try simp only [q]); repeat' constructor) (by (try simp only [q]); repeat' constructor) rfl rfl rfl rfl ?_
 intro y64 hf; cbv
 refine d_p hS hf (fun _=>c241 hM) ?_
 intro y65 hf; cbv
 refine d_callS hS hf (fun _=>s238 hM) (by (try simp only [q]); repeat' constructor) (by (try simp only [q]); repeat' constructor) rfl rfl rfl rfl ?_
 intro y66 hf; cbv
 refine d_b hS hf ?_ ?_
 ·intro hf; cbv
  cases hf; exact hR _ (lp_eq rfl)
 intro hf; cbv
 refine d_callL hS hf (fun _=>c242 hM) d_le (fun _=>rfl) ?_
 intro y67 hf; cbv
 cases hf; exact hR _ (lp_eq rfl)
theorem s18 {M:EncM} (hM:M=mapE) {k:GR36Asker} {s:GState} {p:Int} {source:Int} {c:GCost} {r:GState × Int × Bool × GR36Asker} (hf:r39_Mana k s p source c=some r):Pv.FnS Tryz.prog glF 18 [.lv 0 0,.agg (eGState M s),.si .i64 p,.si .i64 source,.agg (eGCost M c)] [(0,some (.var false (eGR36Asker M k)))] 1 (fun u s n=>u=.tup [.agg [.os 1 0 (M.n GPlayer r.1.players),.os 2 0 (M.n GObject r.1.objects),.sl 1 (M.m Int (eI .i64) r.1.battlefield) false,.sl 1 (M.m Int (eI .i64) r.1.exile) false,.os 3 0 (M.n GItem r.1.stack),.os 4 0 (M.n GWaiting r.1.waiting),.os 5 0 (M.n GCont r.1.conts),.si .i64 r.1.turn,.si .i64 r.1.active,.si .i64 r.1.step,.sb r.1.begun,.si .i64 r.1.priority,.si .i64 r.1.passes,.si .i64 r.1.nextId,.si .i64 r.1.nextStamp,.si .u64 r.1.seed,.sl 1 (M.m Int (eI .i64) r.1.extra) false,.si .i64 r.1.over,.si .i64 r.1.winner],.si .i64 r.2.1,.sb r.2.2.1]∧s=[(0,some (.var false (eGR36Asker M r.2.2.2))),(1,some (.arr false 14 (M.m GPlayer (eGPlayer M) r.1.players))),(2,some (.arr false 19 (M.m GObject (eGObject M) r.1.objects))),(3,some (.arr false 94 (M.m GItem (eGItem M) r.1.stack))),(4,some (.arr false 89 (M.m GWaiting (eGWaiting M) r.1.waiting))),(5,some (.arr false 6 (M.m GCont (eGCont M) r.1.conts)))]∧n=6):=by
 refine fnS_dec (T:=(tabx 1 [4,25] [[(14,true),(19,true),(0,false),(0,false),(94,true),(89,true),(6,true),(0,false),(0,false),(0,false),(0,false),(0,false),(0,false),(0,false),(0,false),(0,false),(0,false),(0,false),(0,false)],[(0,false)],[(0,false)]])) (tabxOK 1 [4,25] [[(14,true),(19,true),(0,false),(0,false),(94,true),(89,true),(6,true),(0,false),(0,false),(0,false),(0,false),(0,false),(0,false),(0,false),(0,false),(0,false),(0,false),(0,false),(0,false)],[(0,false)],[(0,false)]]) wf Tryz.func18 rfl Tryz.call18 rfl ?_
 intro S R hS hR
 have q:=sf hM hS
 unfold r39_Mana at hf
 cbv
 refine d_callo hS hf (fun _=>o33 hM) (le_eq rfl) ?_
 intro y1 hf; cbv
 refine d_cut hS [] [0,2,3,6,9,10,13,29] (fun s2=>⟨tpsL 0 77 [(0,.lv 0 0),(2,.si .i64 p),(3,.si .i64 source),(6,.lv 1 0),(9,.lv 2 0),(10,.lv 3 0),(13,.lv 4 0),(29,.sb s2)],[(0,some (.var false (eGR36Asker M k))),(1,some (.var false (eGState M s))),(2,some (.var false (eGCost M c))),(3,some (.var false [.sl 0 [] true,.sl 0 [] true,.sl 0 [] true,.sl 0 [] true,.sl 0 [] true,.sl 0 [] true,.sl 0 [] true,.si .i64 0,.si .i64 0,.si .i64 0,.sb false,.si .i64 0,.si .i64 0,.si .i64 0,.si .i64 0,.si .u64 0,.sl 0 [] true,.si .i64 0,.si .i64 0])),(4,some (.var false [.os 5 0 (S.lenN (M.m GPlayer (eGPlayer M) y1.players)),.os 6 0 (S.lenN (M.m GObject (eGObject M) y1.objects)),.sl 1 (M.m Int (eI .i64) y1.battlefield) false,.sl 1 (M.m Int (eI .i64) y1.exile) false,.os 7 0 (S.lenN (M.m GItem (eGItem M) y1.stack)),.os 8 0 (S.lenN (M.m GWaiting (eGWaiting M) y1.waiting)),.os 9 0 (S.lenN (M.m GCont (eGCont M) y1.conts)),.si .i64 y1.turn,.si .i64 y1.active,.si .i64 y1.step,.sb y1.begun,.si .i64 y1.priority,.si .i64 y1.passes,.si .i64 y1.nextId,.si .i64 y1.nextStamp,.si .u64 y1.seed,.sl 1 (M.m Int (eI .i64) y1.extra) false,.si .i64 y1.over,.si .i64 y1.winner])),(5,some (.arr false 14 (M.m GPlayer (eGPlayer M) y1.players))),(6,some (.arr false 19 (M.m GObject (eGObject M) y1.objects))),(7,some (.arr false 94 (M.m GItem (eGItem M) y1.stack))),(8,some (.arr false 89 (M.m GWaiting (eGWaiting M) y1.waiting))),(9,some (.arr false 6 (M.m GCont (eGCont M) y1.conts)))],10⟩) hf ?_ ?_
 ·intro Ik3 k3 hk3 hf; cbv
  refine d_b hS hf ?_ ?_
  ·intro hf; cbv
   exact d_x hk3 hf
  intro hf; cbv
  exact d_x hk3 hf
 intro s2 hf; cbv
 refine d_br hS hf rfl ?_ ?_
 ·intro hf; cbv
  cases hf; exact hR _ _ _ d_st d_st rfl
 intro hf; cbv
 refine d_o hS ?_; cbv
 refine d_idx hS hM hf rfl rfl ?_
 intro x5 hf; cbv
 refine d_c hS hf (fun _=>c43 hM) ?_
 intro y6 hf; cbv
 refine d_b hS hf ?_ ?_
 ·intro hf; cbv
  cases hf; exact hR _ _ _ d_st d_st rfl
 intro hf; cbv
 refine d_cut hS [] [2,6,9,10,13,15] (fun s7=>⟨tpsL 0 77 [(2,.si .i64 p),(6,.lv 1 0),(9,.lv 2 0),(10,.lv 3 0),(13,.lv 4 0),(15,.si .i64 s7.2)],[(0,some (.var false (eGR36Asker M s7.1))),(1,some (.var false (eGState M s))),(2,some (.var false (eGCost M c))),(3,some (.var false [.sl 0 [] true,.sl 0 [] true,.sl 0 [] true,.sl 0 [] true,.sl 0 [] true,.sl 0 [] true,.sl 0 [] true,.si .i64 0,.si .i64 0,.si .i64 0,.sb false,.si .i64 0,.si .i64 0,.si .i64 0,.si .i64 0,.si .u64 0,.sl 0 [] true,.si .i64 0,.si .i64 0])),(4,some (.var false [.os 5 0 (S.lenN (M.m GPlayer (eGPlayer M) y1.players)),.os 6 0 (S.lenN (M.m GObject (eGObject M) y1.objects)),.sl 1 (M.m Int (eI .i64) y1.battlefield) false,.sl 1 (M.m Int (eI .i64) y1.exile) false,.os 7 0 (S.lenN (M.m GItem (eGItem M) y1.stack)),.os 8 0 (S.lenN (M.m GWaiting (eGWaiting M) y1.waiting)),.os 9 0 (S.lenN (M.m GCont (eGCont M) y1.conts)),.si .i64 y1.turn,.si .i64 y1.active,.si .i64 y1.step,.sb y1.begun,.si .i64 y1.priority,.si .i64 y1.passes,.si .i64 y1.nextId,.si .i64 y1.nextStamp,.si .u64 y1.seed,.sl 1 (M.m Int (eI .i64) y1.extra) false,.si .i64 y1.over,.si .i64 y1.winner])),(5,some (.arr false 14 (M.m GPlayer (eGPlayer M) y1.players))),(6,some (.arr false 19 (M.m GObject (eGObject M) y1.objects))),(7,some (.arr false 94 (M.m GItem (eGItem M) y1.stack))),(8,some (.arr false 89 (M.m GWaiting (eGWaiting M) y1.waiting))),(9,some (.arr false 6 (M.m GCont (eGCont M) y1.conts)))],10⟩) hf ?_ ?_
 ·intro Ik8 k8 hk8 hf; cbv
  refine d_b hS hf ?_ ?_
  ·intro hf; cbv
   refine d_callS hS hf (fun _=>s44 hM) d_st d_st rfl rfl rfl rfl ?_
   intro y10 hf; cbv
   refine d_b hS hf ?_ ?_
   ·intro hf; cbv
    refine d_idx hS hM hf rfl rfl ?_
    intro x11 hf; cbv
    exact d_x hk8 hf
   intro hf; cbv
   exact d_x hk8 hf
  intro hf; cbv
  exact d_x hk8 hf
 intro s7 hf; cbv
 refine d_o hS ?_; cbv
 refine d_idx hS hM hf rfl rfl ?_
 intro x12 hf; cbv
 refine d_c hS hf (fun _=>c45 hM) ?_
 intro y13 hf; cbv
 refine d_ix hS hf d_e rfl ?_
 intro j14 _ hf; cbv
 refine d_row hS hM hf rfl d_e ?_
 intro x15 hf; cbv
 cases hf; exact hR _ _ _ d_st d_st rfl
theorem c95 {M:EncM} (hM:M=mapE) {c:GChoice} {a:List Int} {r:Bool} (hf:ask_Valid c a=some r):Pv.Fn Tryz.prog glF 95 [.agg (eGChoice M c),.sl 1 (M.m Int (eI .i64) a) false] (fun u=>u=.sb r):=by
 refine fn_dec (T:=tab) tabOK rfl wf Tryz.func95 rfl Tryz.call95 rfl ?_
 intro S R hS hR
 have q:=sf hM hS
 unfold ask_Valid at hf
 cbv
 refine d_b hS hf ?_ ?_
 ·intro hf; cbv
  cases hf; exact hR _ (lp_eq rfl)
 intro hf; cbv
 refine d_b hS hf ?_ ?_
 ·intro hf; cbv
  refine d_b hS hf ?_ ?_
  ·intro hf; cbv
   refine d_p hS hf (fun _=>c133 hM) ?_
   intro y1 hf; cbv
   cases hf; exact hR _ (lp_eq rfl)
  intro hf; cbv
  cases hf; exact hR _ (lp_eq rfl)
 intro hf; cbv
 refine d_b hS hf ?_ ?_
 ·intro hf; cbv
  refine d_b hS hf ?_ ?_
  ·intro hf; cbv
   refine d_p hS hf (fun _=>c133 hM) ?_
   intro y2 hf; cbv
   cases hf; exact hR _ (lp_eq rfl)
  intro hf; cbv
  cases hf; exact hR _ (lp_eq rfl)
 intro hf; cbv
 refine d_b hS hf ?_ ?_
 ·intro hf; cbv
  refine d_b hS hf ?_ ?_
  ·intro hf; cbv
   refine d_p hS hf (fun _=>c133 hM) ?_
   intro y3 hf; cbv
   cases hf; exact hR _ (lp_eq rfl)
  intro hf; cbv
  cases hf; exact hR _ (lp_eq rfl)
 intro hf; cbv
 refine d_b hS hf ?_ ?_
 ·intro hf; cbv
  refine d_b hS hf ?_ ?_
  ·intro hf; cbv
   refine d_p hS hf (fun _=>c133 hM) ?_
   intro y4 hf; cbv
   cases hf; exact hR _ (lp_eq rfl)
  intro hf; cbv
  cases hf; exact hR _ (lp_eq rfl)
 intro hf; cbv
 refine d_b hS hf ?_ ?_
 ·intro hf; cbv
  refine d_b hS hf ?_ ?_
  ·intro hf; cbv
   refine d_p hS hf (fun _=>c133 hM) ?_
   intro y5 hf; cbv
   cases hf; exact hR _ (lp_eq rfl)
  intro hf; cbv
  cases hf; exact hR _ (lp_eq rfl)
 intro hf; cbv
 refine d_b hS hf ?_ ?_
 ·intro hf; cbv
  refine d_b hS hf ?_ ?_
  ·intro hf; cbv
   refine d_b hS hf ?_ ?_
   ·intro hf; cbv
    refine d_p hS hf (fun _=>c133 hM) ?_
    intro y6 hf; cbv
    cases hf; exact hR _ (lp_eq rfl)
   intro hf; cbv
   cases hf; exact hR _ (lp_eq rfl)
  intro hf; cbv
  cases hf; exact hR _ (lp_eq rfl)
 intro hf; cbv
 refine d_b hS hf ?_ ?_
 ·intro hf; cbv
  refine d_b hS hf ?_ ?_
  ·intro hf; cbv
   refine d_p hS hf (fun _=>c133 hM) ?_
   intro y7 hf; cbv
   cases hf; exact hR _ (lp_eq rfl)
  intro hf; cbv
  cases hf; exact hR _ (lp_eq rfl)
 intro hf; cbv
 refine d_b hS hf ?_ ?_
 ·intro hf; cbv
  refine d_o hS ?_; cbv
  refine d_b hS hf ?_ ?_
  ·intro hf; cbv
   refine d_idx hS hM hf rfl rfl ?_
   intro x8 hf; cbv
   refine d_b hS hf ?_ ?_
   ·intro hf; cbv
    refine d_idx hS hM hf rfl rfl ?_
    intro x9 hf; cbv
    cases hf; exact hR _ d_l
   intro hf; cbv
   cases hf; exact hR _ (lp_eq rfl)
  intro hf; cbv
  cases hf; exact hR _ (lp_eq rfl)
 intro hf; cbv
 refine d_b hS hf ?_ ?_
 ·intro hf; cbv
  refine d_p hS hf (fun _=>c133 hM) ?_
  intro y10 hf; cbv
  refine d_br hS hf rfl ?_ ?_
  ·intro hf; cbv
   refine d_p hS hf (fun _=>c134 hM) ?_
   intro y11 hf; cbv
   cases hf; exact hR _ (lp_eq rfl)
  intro hf; cbv
  cases hf; exact hR _ (lp_eq rfl)
 intro hf; cbv
 refine d_b hS hf ?_ ?_
 ·intro hf; cbv
  refine d_p hS hf (fun _=>c133 hM) ?_
  intro y12 hf; cbv
  refine d_br hS hf rfl ?_ ?_
  ·intro hf; cbv
   refine d_p hS hf (fun _=>c134 hM) ?_
   intro y13 hf; cbv
   cases hf; exact hR _ (lp_eq rfl)
  intro hf; cbv
  cases hf; exact hR _ (lp_eq rfl)
 intro hf; cbv
 refine d_b hS hf ?_ ?_
 ·intro hf; cbv
  refine d_p hS hf (fun _=>c135 hM) ?_
  intro y14 hf; cbv
  cases hf; exact hR _ (lp_eq rfl)
 intro hf; cbv
 cases hf; exact hR _ (lp_eq rfl)
end Go.Proofs.YtddcpnlflncahaaGreat
