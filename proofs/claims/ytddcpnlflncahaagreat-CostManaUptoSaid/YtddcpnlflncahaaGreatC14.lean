import Derived.Test.YtddcpnlflncahaaGreatC11
import Derived.Test.YtddcpnlflncahaaGreatC12
import Derived.Test.YtddcpnlflncahaaGreatC13
set_option linter.all false
namespace Go.Proofs.YtddcpnlflncahaaGreat
open Go Go.Pv
set_option maxRecDepth 100000
set_option maxHeartbeats 2000000
theorem o29 {M:EncM} (hM:M=mapE) {s:GState} {r:GState} (hf:zone_Copy s=some r):Pv.FnS Tryz.prog glF 29 [.agg (eGState M s)] [] 0 (fun u s n=>u=.agg [.os 0 0 (M.n GPlayer r.players),.os 1 0 (M.n GObject r.objects),.os 2 0 (M.n Int r.battlefield),.os 3 0 (M.n Int r.exile),.os 4 0 (M.n GItem r.stack),.os 5 0 (M.n GWaiting r.waiting),.os 6 0 (M.n GCont r.conts),.si .i64 r.turn,.si .i64 r.active,.si .i64 r.step,.sb r.begun,.si .i64 r.priority,.si .i64 r.passes,.si .i64 r.nextId,.si .i64 r.nextStamp,.si .u64 r.seed,.os 7 0 (M.n Int r.extra),.si .i64 r.over,.si .i64 r.winner]∧s=[(0,some (.arr false 14 (M.m GPlayer (eGPlayer M) r.players))),(1,some (.arr false 19 (M.m GObject (eGObject M) r.objects))),(2,some (.arr false 1 (M.m Int (eI .i64) r.battlefield))),(3,some (.arr false 1 (M.m Int (eI .i64) r.exile))),(4,some (.arr false 94 (M.m GItem (eGItem M) r.stack))),(5,some (.arr false 89 (M.m GWaiting (eGWaiting M) r.waiting))),(6,some (.arr false 6 (M.m GCont (eGCont M) r.conts))),(7,some (.arr false 1 (M.m Int (eI .i64) r.extra)))]∧n=8):=by
 refine fnS_dec (T:=(tabx 0 [] [[(14,true),(19,true),(1,true),(1,true),(94,true),(89,true),(6,true),(0,false),(0,false),(0,false),(0,false),(0,false),(0,false),(0,false),(0,false),(0,false),(1,true),(0,false),(0,false)]])) (tabxOK 0 [] [[(14,true),(19,true),(1,true),(1,true),(94,true),(89,true),(6,true),(0,false),(0,false),(0,false),(0,false),(0,false),(0,false),(0,false),(0,false),(0,false),(1,true),(0,false),(0,false)]]) wf Tryz.func29 rfl Tryz.call29 rfl ?_
 intro S R hS hR
 have q:=sf hM hS
 unfold zone_Copy at hf
 cbv
 refine d_callo hS hf (fun _=>o73 hM) (le_eq rfl) ?_
 intro y1 hf; cbv
 refine d_lp hS (tabxOK 0 [] [[(14,true),(19,true),(1,true),(1,true),(94,true),(89,true),(6,true),(0,false),(0,false),(0,false),(0,false),(0,false),(0,false),(0,false),(0,false),(0,false),(1,true),(0,false),(0,false)]]) wf [] [1,2,13,14] (fun s2=>⟨tpsL 0 138 [(1,.lv 0 0),(2,.lv 2 0),(13,.si .i64 (S.nint (M.n GPlayer y1))),(14,.si .i64 s2.1)],[(0,some (.var false [.os 1 0 (S.lenN (M.m GPlayer (eGPlayer M) s2.2)),.sl 19 (M.m GObject (eGObject M) s.objects) false,.sl 1 (M.m Int (eI .i64) s.battlefield) false,.sl 1 (M.m Int (eI .i64) s.exile) false,.sl 94 (M.m GItem (eGItem M) s.stack) false,.sl 89 (M.m GWaiting (eGWaiting M) s.waiting) false,.sl 6 (M.m GCont (eGCont M) s.conts) false,.si .i64 s.turn,.si .i64 s.active,.si .i64 s.step,.sb s.begun,.si .i64 s.priority,.si .i64 s.passes,.si .i64 s.nextId,.si .i64 s.nextStamp,.si .u64 s.seed,.sl 1 (M.m Int (eI .i64) s.extra) false,.si .i64 s.over,.si .i64 s.winner])),(1,some (.arr false 14 (M.m GPlayer (eGPlayer M) s2.2))),(2,some (.var false [.sl 0 [] true,.sl 0 [] true,.sl 0 [] true,.sl 0 [] true,.sl 0 [] true,.sl 0 [] true,.sl 0 [] true,.si .i64 0,.si .i64 0,.si .i64 0,.sb false,.si .i64 0,.si .i64 0,.si .i64 0,.si .i64 0,.si .u64 0,.sl 0 [] true,.si .i64 0,.si .i64 0]))],3⟩) hf ?_
 intro Ik3 k3 s2 hk3 hf e he; subst he
 unfold zone_Copy_l4 at hf
 cbv
 refine d_b hS hf ?_ ?_
 ·intro hf; cbv
  refine d_o hS ?_; cbv
  refine d_ix hS hf d_e rfl ?_
  intro j5 _ hf; cbv
  refine d_row hS hM hf rfl d_e ?_
  intro x6 hf; cbv
  refine d_c hS hf (fun _=>c74 hM) ?_
  intro y7 hf; cbv
  refine d_ix hS hf d_e rfl ?_
  intro j8 _ hf; cbv
  refine d_row hS hM hf rfl d_e ?_
  intro x9 hf; cbv
  exact d_x hk3 hf
 intro hf; cbv
 refine d_callo hS hf (fun _=>o75 hM) (le_eq rfl) ?_
 intro y10 hf; cbv
 refine d_callo hS hf (fun _=>o76 hM) (le_eq rfl) ?_
 intro y11 hf; cbv
 refine d_callo hS hf (fun _=>o76 hM) (le_eq rfl) ?_
 intro y12 hf; cbv
 refine d_callo hS hf (fun _=>o77 hM) (le_eq rfl) ?_
 intro y13 hf; cbv
 refine d_lp hS (tabxOK 0 [] [[(14,true),(19,true),(1,true),(1,true),(94,true),(89,true),(6,true),(0,false),(0,false),(0,false),(0,false),(0,false),(0,false),(0,false),(0,false),(0,false),(1,true),(0,false),(0,false)]]) wf [] [1,2,46,47] (fun s14=>⟨tpsL 0 138 [(1,.lv 0 0),(2,.lv 6 0),(46,.si .i64 (S.nint (M.n GItem y13))),(47,.si .i64 s14.1)],[(0,some (.var false [.os 1 0 (S.lenN (M.m GPlayer (eGPlayer M) s2.2)),.os 2 0 (S.lenN (M.m GObject (eGObject M) y10)),.os 3 0 (S.lenN (M.m Int (eI .i64) y11)),.os 4 0 (S.lenN (M.m Int (eI .i64) y12)),.os 5 0 (S.lenN (M.m GItem (eGItem M) s14.2)),.sl 89 (M.m GWaiting (eGWaiting M) s.waiting) false,.sl 6 (M.m GCont (eGCont M) s.conts) false,.si .i64 s.turn,.si .i64 s.active,.si .i64 s.step,.sb s.begun,.si .i64 s.priority,.si .i64 s.passes,.si .i64 s.nextId,.si .i64 s.nextStamp,.si .u64 s.seed,.sl 1 (M.m Int (eI .i64) s.extra) false,.si .i64 s.over,.si .i64 s.winner])),(1,some (.arr false 14 (M.m GPlayer (eGPlayer M) s2.2))),(2,some (.arr false 19 (M.m GObject (eGObject M) y10))),(3,some (.arr false 1 (M.m Int (eI .i64) y11))),(4,some (.arr false 1 (M.m Int (eI .i64) y12))),(5,some (.arr false 94 (M.m GItem (eGItem M) s14.2))),(6,some (.var false [.sl 0 [] true,.sl 0 [] true,.sl 0 [] true,.sl 0 [] true,.sl 0 [] true,.sl 0 [] true,.sl 0 [] true,.si .i64 0,.si .i64 0,.si .i64 0,.sb false,.si .i64 0,.si .i64 0,.si .i64 0,.si .i64 0,.si .u64 0,.sl 0 [] true,.si .i64 0,.si .i64 0]))],7⟩) hf ?_
 intro Ik15 k15 s14 hk15 hf e he; subst he
 unfold zone_Copy_l3 at hf
 cbv
 refine d_b hS hf ?_ ?_
 ·intro hf; cbv
  refine d_o hS ?_; cbv
  refine d_ix hS hf d_e rfl ?_
  intro j17 _ hf; cbv
  refine d_row hS hM hf rfl d_e ?_
  intro x18 hf; cbv
  refine d_c hS hf (fun _=>c78 hM) ?_
  intro y19 hf; cbv
  refine d_ix hS hf d_e rfl ?_
  intro j20 _ hf; cbv
  refine d_row hS hM hf rfl d_e ?_
  intro x21 hf; cbv
  refine d_o hS ?_; cbv
  refine d_ix hS hf d_e rfl ?_
  intro j22 _ hf; cbv
  refine d_row hS hM (e:=(eGItem M)) hf d_e d_e ?_
  intro x23 hf; cbv
  refine d_c hS hf (fun _=>c79 hM) ?_
  intro y24 hf; cbv
  refine d_ix hS hf d_e rfl ?_
  intro j25 _ hf; cbv
  refine d_row hS hM (e:=(eGItem M)) hf d_e d_e ?_
  intro x26 hf; cbv
  exact d_x hk15 hf
 intro hf; cbv
 refine d_callo hS hf (fun _=>o80 hM) (le_eq rfl) ?_
 intro y27 hf; cbv
 refine d_lp hS (tabxOK 0 [] [[(14,true),(19,true),(1,true),(1,true),(94,true),(89,true),(6,true),(0,false),(0,false),(0,false),(0,false),(0,false),(0,false),(0,false),(0,false),(0,false),(1,true),(0,false),(0,false)]]) wf [] [1,2,81,82] (fun s28=>⟨tpsL 0 138 [(1,.lv 0 0),(2,.lv 7 0),(81,.si .i64 (S.nint (M.n GWaiting y27))),(82,.si .i64 s28.1)],[(0,some (.var false [.os 1 0 (S.lenN (M.m GPlayer (eGPlayer M) s2.2)),.os 2 0 (S.lenN (M.m GObject (eGObject M) y10)),.os 3 0 (S.lenN (M.m Int (eI .i64) y11)),.os 4 0 (S.lenN (M.m Int (eI .i64) y12)),.os 5 0 (S.lenN (M.m GItem (eGItem M) s14.2)),.os 6 0 (S.lenN (M.m GWaiting (eGWaiting M) s28.2)),.sl 6 (M.m GCont (eGCont M) s.conts) false,.si .i64 s.turn,.si .i64 s.active,.si .i64 s.step,.sb s.begun,.si .i64 s.priority,.si .i64 s.passes,.si .i64 s.nextId,.si .i64 s.nextStamp,.si .u64 s.seed,.sl 1 (M.m Int (eI .i64) s.extra) false,.si .i64 s.over,.si .i64 s.winner])),(1,some (.arr false 14 (M.m GPlayer (eGPlayer M) s2.2))),(2,some (.arr false 19 (M.m GObject (eGObject M) y10))),(3,some (.arr false 1 (M.m Int (eI .i64) y11))),(4,some (.arr false 1 (M.m Int (eI .i64) y12))),(5,some (.arr false 94 (M.m GItem (eGItem M) s14.2))),(6,some (.arr false 89 (M.m GWaiting (eGWaiting M) s28.2))),(7,some (.var false [.sl 0 [] true,.sl 0 [] true,.sl 0 [] true,.sl 0 [] true,.sl 0 [] true,.sl 0 [] true,.sl 0 [] true,.si .i64 0,.si .i64 0,.si .i64 0,.sb false,.si .i64 0,.si .i64 0,.si .i64 0,.si .i64 0,.si .u64 0,.sl 0 [] true,.si .i64 0,.si .i64 0]))],8⟩) hf ?_
 intro Ik29 k29 s28 hk29 hf e he; subst he
 unfold zone_Copy_l2 at hf
 cbv
 refine d_b hS hf ?_ ?_
 ·intro hf; cbv
  refine d_o hS ?_; cbv
  refine d_ix hS hf d_e rfl ?_
  intro j31 _ hf; cbv
  refine d_row hS hM hf rfl d_e ?_
  intro x32 hf; cbv
  refine d_c hS hf (fun _=>c78 hM) ?_
  intro y33 hf; cbv
  refine d_ix hS hf d_e rfl ?_
  intro j34 _ hf; cbv
  refine d_row hS hM hf rfl d_e ?_
  intro x35 hf; cbv
  exact d_x hk29 hf
 intro hf; cbv
 refine d_callo hS hf (fun _=>o81 hM) (le_eq rfl) ?_
 intro y36 hf; cbv
 refine d_lp hS (tabxOK 0 [] [[(14,true),(19,true),(1,true),(1,true),(94,true),(89,true),(6,true),(0,false),(0,false),(0,false),(0,false),(0,false),(0,false),(0,false),(0,false),(0,false),(1,true),(0,false),(0,false)]]) wf [] [1,2,104,105] (fun s37=>⟨tpsL 0 138 [(1,.lv 0 0),(2,.lv 8 0),(104,.si .i64 (S.nint (M.n GCont y36))),(105,.si .i64 s37.1)],[(0,some (.var false [.os 1 0 (S.lenN (M.m GPlayer (eGPlayer M) s2.2)),.os 2 0 (S.lenN (M.m GObject (eGObject M) y10)),.os 3 0 (S.lenN (M.m Int (eI .i64) y11)),.os 4 0 (S.lenN (M.m Int (eI .i64) y12)),.os 5 0 (S.lenN (M.m GItem (eGItem M) s14.2)),.os 6 0 (S.lenN (M.m GWaiting (eGWaiting M) s28.2)),.os 7 0 (S.lenN (M.m GCont (eGCont M) s37.2)),.si .i64 s.turn,.si .i64 s.active,.si .i64 s.step,.sb s.begun,.si .i64 s.priority,.si .i64 s.passes,.si .i64 s.nextId,.si .i64 s.nextStamp,.si .u64 s.seed,.sl 1 (M.m Int (eI .i64) s.extra) false,.si .i64 s.over,.si .i64 s.winner])),(1,some (.arr false 14 (M.m GPlayer (eGPlayer M) s2.2))),(2,some (.arr false 19 (M.m GObject (eGObject M) y10))),(3,some (.arr false 1 (M.m Int (eI .i64) y11))),(4,some (.arr false 1 (M.m Int (eI .i64) y12))),(5,some (.arr false 94 (M.m GItem (eGItem M) s14.2))),(6,some (.arr false 89 (M.m GWaiting (eGWaiting M) s28.2))),(7,some (.arr false 6 (M.m GCont (eGCont M) s37.2))),(8,some (.var false [.sl 0 [] true,.sl 0 [] true,.sl 0 [] true,.sl 0 [] true,.sl 0 [] true,.sl 0 [] true,.sl 0 [] true,.si .i64 0,.si .i64 0,.si .i64 0,.sb false,.si .i64 0,.si .i64 0,.si .i64 0,.si .i64 0,.si .u64 0,.sl 0 [] true,.si .i64 0,.si .i64 0]))],9⟩) hf ?_
 intro Ik38 k38 s37 hk38 hf e he; subst he
 unfold zone_Copy_l1 at hf
 cbv
 refine d_b hS hf ?_ ?_
 ·intro hf; cbv
  refine d_o hS ?_; cbv
  refine d_ix hS hf d_e rfl ?_
  intro j40 _ hf; cbv
  refine d_row hS hM hf rfl d_e ?_
  intro x41 hf; cbv
  refine d_c hS hf (fun _=>c76 hM) ?_
  intro y42 hf; cbv
  refine d_ix hS hf d_e rfl ?_
  intro j43 _ hf; cbv
  refine d_row hS hM hf rfl d_e ?_
  intro x44 hf; cbv
  refine d_o hS ?_; cbv
  refine d_ix hS hf d_e rfl ?_
  intro j45 _ hf; cbv
  refine d_row hS hM (e:=(eGCont M)) hf d_e d_e ?_
  intro x46 hf; cbv
  refine d_c hS hf (fun _=>c82 hM) ?_
  intro y47 hf; cbv
  refine d_ix hS hf d_e rfl ?_
  intro j48 _ hf; cbv
  refine d_row hS hM (e:=(eGCont M)) hf d_e d_e ?_
  intro x49 hf; cbv
  exact d_x hk38 hf
 intro hf; cbv
 refine d_callo hS hf (fun _=>o76 hM) (le_eq rfl) ?_
 intro y50 hf; cbv
 cases hf; exact hR _ _ _ d_st d_st rfl
theorem c90 {M:EncM} (hM:M=mapE) {s:GState} {p:Int} {r:List Int} (hf:r26_Others s p=some r):Pv.Fn Tryz.prog glF 90 [.agg (eGState M s),.si .i64 p] (fun u=>u=.sl 1 (M.m Int (eI .i64) r) false):=by
 refine fn_dec (T:=(tabc [11,12,21,22])) (tabcOK [11,12,21,22]) rfl wf Tryz.func90 rfl Tryz.call90 rfl ?_
 intro S R hS hR
 have q:=sf hM hS
 unfold r26_Others at hf
 cbv
 refine d_p hS hf (fun _=>c131 hM) ?_
 intro y1 hf; cbv
 refine d_lp hS (tabcOK [11,12,21,22]) wf [.tO 6 1] [1,2,5,6,7] (fun s2=>⟨tpsL 0 61 [(1,.si .i64 p),(2,.lv 0 0),(5,.sl 1 (M.m Int (eI .i64) y1) false),(6,.os 1 0 (S.lenN (M.m Int (eI .i64) s2.2))),(7,.si .i64 s2.1)],[(0,some (.var false (eGState M s))),(1,some (.arr false 1 (M.m Int (eI .i64) s2.2)))],2⟩) hf ?_
 intro Ik3 k3 s2 hk3 hf e he; subst he
 unfold r26_Others_l2 at hf
 cbv
 refine d_b hS hf ?_ ?_
 ·intro hf; cbv
  refine d_cut hS [.tO 6 1] [1,2,5,6,7] (fun s5=>⟨tpsL 0 61 [(1,.si .i64 p),(2,.lv 0 0),(5,.sl 1 (M.m Int (eI .i64) y1) false),(6,.os 1 0 (S.lenN (M.m Int (eI .i64) s5))),(7,.si .i64 s2.1)],[(0,some (.var false (eGState M s))),(1,some (.arr false 1 (M.m Int (eI .i64) s5)))],2⟩) hf ?_ ?_
  ·intro Ik6 k6 hk6 hf; cbv
   refine d_cut hS [] [1,2,5,6,7,27] (fun s8=>⟨tpsL 0 61 [(1,.si .i64 p),(2,.lv 0 0),(5,.sl 1 (M.m Int (eI .i64) y1) false),(6,.os 1 0 (S.lenN (M.m Int (eI .i64) s2.2))),(7,.si .i64 s2.1),(27,.sb s8)],[(0,some (.var false (eGState M s))),(1,some (.arr false 1 (M.m Int (eI .i64) s2.2)))],2⟩) hf ?_ ?_
   ·intro Ik9 k9 hk9 hf; cbv
    refine d_p hS hf (fun _=>c66 hM) ?_
    intro y11 hf; cbv
    refine d_br hS hf rfl ?_ ?_
    ·intro hf; cbv
     refine d_idx hS hM hf rfl rfl ?_
     intro x12 hf; cbv
     exact d_x hk9 hf
    intro hf; cbv
    exact d_x hk9 hf
   intro s8 hf; cbv
   refine d_br hS hf rfl ?_ ?_
   ·intro hf; cbv
    refine d_idx hS hM hf rfl rfl ?_
    intro x13 hf; cbv
    refine d_room hS hf d_e ?_
    intro hf; cbv
    exact d_x hk6 hf
   intro hf; cbv
   exact d_x hk6 hf
  intro s5 hf; cbv
  exact d_x hk3 hf
 intro hf; cbv
 refine d_lp hS (tabcOK [11,12,21,22]) wf [] [1,2,5,6,8] (fun s14=>⟨tpsL 0 61 [(1,.si .i64 p),(2,.lv 0 0),(5,.sl 1 (M.m Int (eI .i64) y1) false),(6,.os 1 0 (S.lenN (M.m Int (eI .i64) s14.2))),(8,.si .i64 s14.1)],[(0,some (.var false (eGState M s))),(1,some (.arr false 1 (M.m Int (eI .i64) s14.2)))],2⟩) hf ?_
 intro Ik15 k15 s14 hk15 hf e he; subst he
 unfold r26_Others_l1 at hf
 cbv
 refine d_b hS hf ?_ ?_
 ·intro hf; cbv
  refine d_cut hS [] [1,2,5,6,8] (fun s17=>⟨tpsL 0 61 [(1,.si .i64 p),(2,.lv 0 0),(5,.sl 1 (M.m Int (eI .i64) y1) false),(6,.os 1 0 (S.lenN (M.m Int (eI .i64) s17))),(8,.si .i64 s14.1)],[(0,some (.var false (eGState M s))),(1,some (.arr false 1 (M.m Int (eI .i64) s17)))],2⟩) hf ?_ ?_
  ·intro Ik18 k18 hk18 hf; cbv
   refine d_cut hS [] [1,2,5,6,8,52] (fun s20=>⟨tpsL 0 61 [(1,.si .i64 p),(2,.lv 0 0),(5,.sl 1 (M.m Int (eI .i64) y1) false),(6,.os 1 0 (S.lenN (M.m Int (eI .i64) s14.2))),(8,.si .i64 s14.1),(52,.sb s20)],[(0,some (.var false (eGState M s))),(1,some (.arr false 1 (M.m Int (eI .i64) s14.2)))],2⟩) hf ?_ ?_
   ·intro Ik21 k21 hk21 hf; cbv
    refine d_p hS hf (fun _=>c66 hM) ?_
    intro y23 hf; cbv
    refine d_b hS hf ?_ ?_
    ·intro hf; cbv
     exact d_x hk21 hf
    intro hf; cbv
    refine d_idx hS hM hf rfl rfl ?_
    intro x24 hf; cbv
    exact d_x hk21 hf
   intro s20 hf; cbv
   refine d_br hS hf rfl ?_ ?_
   ·intro hf; cbv
    refine d_idx hS hM hf rfl rfl ?_
    intro x25 hf; cbv
    refine d_room hS hf d_e ?_
    intro hf; cbv
    exact d_x hk18 hf
   intro hf; cbv
   exact d_x hk18 hf
  intro s17 hf; cbv
  exact d_x hk15 hf
 intro hf; cbv
 cases hf; exact hR _ d_l
theorem c248 {M:EncM} (hM:M=mapE) {c:GCost} {r:ByteArray} (hf:r08_Text c=some r):Pv.Fn Tryz.prog glF 248 [.agg (eGCost M c)] (fun u=>u=.str r):=by
 refine fn_dec (T:=(tabc [21,22,28])) (tabcOK [21,22,28]) rfl wf Tryz.func248 rfl Tryz.call248 rfl ?_
 intro S R hS hR
 have q:=sf hM hS
 unfold r08_Text at hf
 cbv
 refine d_p hS hf (fun _=>c102 hM) ?_
 intro y1 hf; cbv
 refine d_b hS hf ?_ ?_
 ·intro hf; cbv
  cases hf; exact hR _ (lp_eq rfl)
 intro hf; cbv
 refine d_lp hS (tabcOK [21,22,28]) wf [] [1,3,4] (fun s2=>⟨tpsL 0 47 [(1,.lv 0 0),(3,.str s2.1),(4,.si .i64 s2.2)],[(0,some (.var false (eGCost M c)))],1⟩) hf ?_
 intro Ik3 k3 s2 hk3 hf e he; subst he
 unfold r08_Text_l3 at hf
 cbv
 refine d_b hS hf ?_ ?_
 ·intro hf; cbv
  refine d_cat hS hf rfl rfl ?_
  intro x5 hf; cbv
  exact d_x hk3 hf
 intro hf; cbv
 refine d_cut hS [] [1,3] (fun s6=>⟨tpsL 0 47 [(1,.lv 0 0),(3,.str s6)],[(0,some (.var false (eGCost M c)))],1⟩) hf ?_ ?_
 ·intro Ik7 k7 hk7 hf; cbv
  refine d_b hS hf ?_ ?_
  ·intro hf; cbv
   refine d_p hS hf (fun _=>c206 hM) ?_
   intro y9 hf; cbv
   refine d_cat hS hf rfl rfl ?_
   intro x10 hf; cbv
   exact d_x hk7 hf
  intro hf; cbv
  exact d_x hk7 hf
 intro s6 hf; cbv
 refine d_lp hS (tabcOK [21,22,28]) wf [] [1,3,5] (fun s11=>⟨tpsL 0 47 [(1,.lv 0 0),(3,.str s11.1),(5,.si .i64 s11.2)],[(0,some (.var false (eGCost M c)))],1⟩) hf ?_
 intro Ik12 k12 s11 hk12 hf e he; subst he
 unfold r08_Text_l2 at hf
 cbv
 refine l_seq hS ?_; cbv
 refine d_b hS hf ?_ ?_
 ·intro hf; cbv
  refine d_lp hS (tabcOK [21,22,28]) wf [] [1,3,5,6] (fun s14=>⟨tpsL 0 47 [(1,.lv 0 0),(3,.str s14.1),(5,.si .i64 s11.2),(6,.si .i64 s14.2)],[(0,some (.var false (eGCost M c)))],1⟩) hf ?_
  intro Ik15 k15 s14 hk15 hf e he; subst he
  unfold r08_Text_l1 at hf
  cbv
  refine d_cut hS [] [1,3,5,6,35] (fun s17=>⟨tpsL 0 47 [(1,.lv 0 0),(3,.str s14.1),(5,.si .i64 s11.2),(6,.si .i64 s14.2),(35,.sb s17)],[(0,some (.var false (eGCost M c)))],1⟩) hf ?_ ?_
  ·intro Ik18 k18 hk18 hf; cbv
   obtain ⟨j20,hj20,ej20,hf⟩:=d_cases hf
   refine d_ixa hS rfl ⟨j20,hj20,ej20,?_⟩
   rcases lt5 hj20 with rfl | rfl | rfl | rfl | rfl
   ·cbv
    exact d_x hk18 hf
   ·cbv
    exact d_x hk18 hf
   ·cbv
    exact d_x hk18 hf
   ·cbv
    exact d_x hk18 hf
   cbv
   exact d_x hk18 hf
  intro s17 hf; cbv
  refine d_br hS hf rfl ?_ ?_
  ·intro hf; cbv
   refine d_ssl hS hf rfl rfl d_e ?_
   intro x21 hf; cbv
   refine d_cat hS hf rfl rfl ?_
   intro x22 hf; cbv
   exact d_x hk15 hf
  intro hf; cbv
  exact d_x hk12 hf
 intro hf; cbv
 refine d_b hS hf ?_ ?_
 ·intro hf; cbv
  cases hf; exact hR _ (lp_eq rfl)
 intro hf; cbv
 cases hf; exact hR _ (lp_eq rfl)
theorem c130 {M:EncM} (hM:M=mapE) {s:GState} {p:Int} {r:List Int} (hf:state_Others s p=some r):Pv.Fn Tryz.prog glF 130 [.agg (eGState M s),.si .i64 p] (fun u=>u=.sl 1 (M.m Int (eI .i64) r) false):=by
 refine fn_dec (T:=(tabc [2,7,25])) (tabcOK [2,7,25]) rfl wf Tryz.func130 rfl Tryz.call130 rfl ?_
 intro S R hS hR
 have q:=sf hM hS
 unfold state_Others at hf
 cbv
 refine d_cut hS [] [1,2] (fun s1=>⟨tpsL 0 44 [(1,.si .i64 s1),(2,.lv 0 0)],[(0,some (.var false (eGState M s)))],1⟩) hf ?_ ?_
 ·intro Ik2 k2 hk2 hf; cbv
  refine d_cut hS [] [1,2,17] (fun s4=>⟨tpsL 0 44 [(1,.si .i64 p),(2,.lv 0 0),(17,.sb s4)],[(0,some (.var false (eGState M s)))],1⟩) hf ?_ ?_
  ·intro Ik5 k5 hk5 hf; cbv
   refine d_b hS hf ?_ ?_
   ·intro hf; cbv
    exact d_x hk5 hf
   intro hf; cbv
   exact d_x hk5 hf
  intro s4 hf; cbv
  refine d_br hS hf rfl ?_ ?_
  ·intro hf; cbv
   exact d_x hk2 hf
  intro hf; cbv
  exact d_x hk2 hf
 intro s1 hf; cbv
 refine d_p hS hf (fun _=>c83 hM) ?_
 intro y7 hf; cbv
 refine d_lp hS (tabcOK [2,7,25]) wf [.tO 6 1,.tO 5 1] [1,5,6,19,20,21] (fun s8=>⟨tpsL 0 44 [(1,.si .i64 s1),(5,.os 0 0 (S.lenN (M.m Int (eI .i64) s8.2.1))),(6,.os 1 0 (S.lenN (M.m Int (eI .i64) s8.2.2))),(19,.sl 1 (M.m Int (eI .i64) y7) false),(20,.si .i64 (S.len (M.m Int (eI .i64) y7))),(21,.si .i64 s8.1)],[(0,some (.arr false 1 (M.m Int (eI .i64) s8.2.1))),(1,some (.arr false 1 (M.m Int (eI .i64) s8.2.2)))],2⟩) hf ?_
 intro Ik9 k9 s8 hk9 hf e he; subst he
 unfold state_Others_l1 at hf
 cbv
 refine d_b hS hf ?_ ?_
 ·intro hf; cbv
  refine d_cut hS [.tO 6 1,.tO 5 1] [1,5,6,19,20,21] (fun s11=>⟨tpsL 0 44 [(1,.si .i64 s1),(5,.os 0 0 (S.lenN (M.m Int (eI .i64) s11.1))),(6,.os 1 0 (S.lenN (M.m Int (eI .i64) s11.2))),(19,.sl 1 (M.m Int (eI .i64) y7) false),(20,.si .i64 (S.len (M.m Int (eI .i64) y7))),(21,.si .i64 s8.1)],[(0,some (.arr false 1 (M.m Int (eI .i64) s11.1))),(1,some (.arr false 1 (M.m Int (eI .i64) s11.2)))],2⟩) hf ?_ ?_
  ·intro Ik12 k12 hk12 hf; cbv
   refine d_idx hS hM hf rfl rfl ?_
   intro x14 hf; cbv
   refine d_p hS hf (fun _=>c173 hM) ?_
   intro y15 hf; cbv
   refine d_b hS hf ?_ ?_
   ·intro hf; cbv
    refine d_room hS hf d_e ?_
    intro hf; cbv
    exact d_x hk12 hf
   intro hf; cbv
   refine d_b hS hf ?_ ?_
   ·intro hf; cbv
    refine d_room hS hf d_e ?_
    intro hf; cbv
    exact d_x hk12 hf
   intro hf; cbv
   exact d_x hk12 hf
  intro s11 hf; cbv
  exact d_x hk9 hf
 intro hf; cbv
 refine d_room hS hf d_e ?_
 intro hf; cbv
 cases hf; exact hR _ d_l
theorem c19 {M:EncM} (hM:M=mapE) {k:GAskAsker} {pq:GR36Asker} {r:Bool × Bool} (hf:law39_settled k pq=some r):Pv.Fn Tryz.prog glF 19 [.pp (eGAskAsker M k),.pp (eGR36Asker M pq)] (fun u=>u=.tup [.sb r.1,.sb r.2]):=by
 refine fn_dec (T:=(tabc [6])) (tabcOK [6]) rfl wf Tryz.func19 rfl Tryz.call19 rfl ?_
 intro S R hS hR
 have q:=sf hM hS
 unfold law39_settled at hf
 cbv
 refine d_p hS hf (fun _=>c46 hM) ?_
 intro y1 hf; cbv
 refine d_p hS hf (fun _=>c47 hM) ?_
 intro y2 hf; cbv
 refine d_cut hS [] [6,7,8,46] (fun s3=>⟨tpsL 0 109 [(6,.lv 0 0),(7,.sb y1.2),(8,.lv 1 0),(46,.sb s3)],[(0,some (.var false (eGChoice M y1.1))),(1,some (.var false (eGChoice M y2.1)))],2⟩) hf ?_ ?_
 ·intro Ik4 k4 hk4 hf; cbv
  refine d_b hS hf ?_ ?_
  ·intro hf; cbv
   exact d_x hk4 hf
  intro hf; cbv
  refine d_p hS hf (fun _=>c48 hM) ?_
  intro y6 hf; cbv
  refine d_p hS hf (fun _=>c49 hM) ?_
  intro y7 hf; cbv
  refine d_b hS hf ?_ ?_
  ·intro hf; cbv
   exact d_x hk4 hf
  intro hf; cbv
  refine d_p hS hf (fun _=>c50 hM) ?_
  intro y8 hf; cbv
  refine d_p hS hf (fun _=>c51 hM) ?_
  intro y9 hf; cbv
  refine d_b hS hf ?_ ?_
  ·intro hf; cbv
   exact d_x hk4 hf
  intro hf; cbv
  exact d_x hk4 hf
 intro s3 hf; cbv
 refine d_br hS hf rfl ?_ ?_
 ·intro hf; cbv
  cases hf; exact hR _ (lp_eq rfl)
 intro hf; cbv
 refine d_lp hS (tabcOK [6]) wf [] [6,7,8,49,50] (fun s10=>⟨tpsL 0 109 [(6,.lv 0 0),(7,.sb y1.2),(8,.lv 1 0),(49,.si .i64 (S.len (M.m GOption (eGOption M) y1.1.options))),(50,.si .i64 s10)],[(0,some (.var false (eGChoice M y1.1))),(1,some (.var false (eGChoice M y2.1)))],2⟩) hf ?_
 intro Ik11 k11 s10 hk11 hf e he; subst he
 unfold law39_settled_l1 at hf
 cbv
 refine d_b hS hf ?_ ?_
 ·intro hf; cbv
  refine d_o hS ?_; cbv
  refine d_idx hS hM hf rfl rfl ?_
  intro x13 hf; cbv
  refine d_idx hS hM hf rfl rfl ?_
  intro x14 hf; cbv
  replace hf:=d_lt hf
  refine d_b hS hf ?_ ?_
  ·intro hf; cbv
   cases hf; exact hR _ (lp_eq rfl)
  intro hf; cbv
  exact d_x hk11 hf
 intro hf; cbv
 refine d_b hS hf ?_ ?_
 ·intro hf; cbv
  refine d_b hS hf ?_ ?_
  ·intro hf; cbv
   refine d_b hS hf ?_ ?_
   ·intro hf; cbv
    refine d_b hS hf ?_ ?_
    ·intro hf; cbv
     refine d_b hS hf ?_ ?_
     ·intro hf; cbv
      cases hf; exact hR _ d_l
     intro hf; cbv
     cases hf; exact hR _ d_l
    intro hf; cbv
    cases hf; exact hR _ d_l
   intro hf; cbv
   cases hf; exact hR _ d_l
  intro hf; cbv
  cases hf; exact hR _ d_l
 intro hf; cbv
 cases hf; exact hR _ d_l
theorem c204 {M:EncM} (hM:M=mapE) {mask:Int} {r:ByteArray} (hf:r11_Text mask=some r):Pv.Fn Tryz.prog glF 204 [.si .i64 mask] (fun u=>u=.str r):=by
 refine fn_dec (T:=(tabc [10,13,21,23])) (tabcOK [10,13,21,23]) rfl wf Tryz.func204 rfl Tryz.call204 rfl ?_
 intro S R hS hR
 have q:=sf hM hS
 unfold r11_Text at hf
 cbv
 refine d_p hS hf (fun _=>c114 hM) ?_
 intro y1 hf; cbv
 refine d_b hS hf ?_ ?_
 ·intro hf; cbv
  cases hf; exact hR _ (lp_eq rfl)
 intro hf; cbv
 refine d_lp hS (tabcOK [10,13,21,23]) wf [] [0,3,4] (fun s2=>⟨tpsL 0 28 [(0,.si .i64 s2.1),(3,.str s2.2.1),(4,.si .i64 s2.2.2)],[],0⟩) hf ?_
 intro Ik3 k3 s2 hk3 hf e he; subst he
 unfold r11_Text_l1 at hf
 cbv
 refine l_seq hS ?_; cbv
 refine d_b hS hf ?_ ?_
 ·intro hf; cbv
  refine d_cut hS [] [0,3,4] (fun s5=>⟨tpsL 0 28 [(0,.si .i64 s5.1),(3,.str s5.2),(4,.si .i64 s2.2.2)],[],0⟩) hf ?_ ?_
  ·intro Ik6 k6 hk6 hf; cbv
   refine d_cut hS [] [0,3,4] (fun s8=>⟨tpsL 0 28 [(0,.si .i64 s2.1),(3,.str s8),(4,.si .i64 s2.2.2)],[],0⟩) hf ?_ ?_
   ·intro Ik9 k9 hk9 hf; cbv
    refine d_div hS hf rfl rfl ?_
    intro x11 hf; cbv
    refine d_b hS hf ?_ ?_
    ·intro hf; cbv
     refine d_cut hS [] [0,3,4] (fun s12=>⟨tpsL 0 28 [(0,.si .i64 s2.1),(3,.str s12),(4,.si .i64 s2.2.2)],[],0⟩) hf ?_ ?_
     ·intro Ik13 k13 hk13 hf; cbv
      refine d_b hS hf ?_ ?_
      ·intro hf; cbv
       refine d_cat hS hf rfl rfl ?_
       intro x15 hf; cbv
       exact d_x hk13 hf
      intro hf; cbv
      exact d_x hk13 hf
     intro s12 hf; cbv
     refine d_p hS hf (fun _=>c233 hM) ?_
     intro y16 hf; cbv
     refine d_cat hS hf rfl rfl ?_
     intro x17 hf; cbv
     exact d_x hk9 hf
    intro hf; cbv
    exact d_x hk9 hf
   intro s8 hf; cbv
   refine d_div hS hf rfl rfl ?_
   intro x18 hf; cbv
   exact d_x hk6 hf
  intro s5 hf; cbv
  exact d_x hk3 hf
 intro hf; cbv
 refine d_b hS hf ?_ ?_
 ·intro hf; cbv
  cases hf; exact hR _ (lp_eq rfl)
 intro hf; cbv
 cases hf; exact hR _ (lp_eq rfl)
theorem s44 {M:EncM} (hM:M=mapE) {k:GR36Asker} {c:GChoice} {r:(List Int) × GR36Asker} (hf:r36_Asker_Pick k c=some r):Pv.FnS Tryz.prog glF 44 [.lv 0 0,.agg (eGChoice M c)] [(0,some (.var false (eGR36Asker M k)))] 1 (fun u s n=>u=.sl 1 (M.m Int (eI .i64) r.1) false∧s=[(0,some (.var false (eGR36Asker M r.2)))]∧n=1):=by
 refine fnS_dec (T:=(tabx 1 [2] [])) (tabxOK 1 [2] []) wf Tryz.func44 rfl Tryz.call44 rfl ?_
 intro S R hS hR
 have q:=sf hM hS
 unfold r36_Asker_Pick at hf
 cbv
 refine d_cut hS [] [0,3,23] (fun s1=>⟨tpsL 0 75 [(0,.lv 0 0),(3,.lv 1 0),(23,.sb s1)],[(0,some (.var false (eGR36Asker M k))),(1,some (.var false (eGChoice M c)))],2⟩) hf ?_ ?_
 ·intro Ik2 k2 hk2 hf; cbv
  refine d_p hS hf (fun _=>c98 hM) ?_
  intro y4 hf; cbv
  refine d_br hS hf rfl ?_ ?_
  ·intro hf; cbv
   exact d_x hk2 hf
  intro hf; cbv
  refine d_br hS hf rfl ?_ ?_
  ·intro hf; cbv
   exact d_x hk2 hf
  intro hf; cbv
  exact d_x hk2 hf
 intro s1 hf; cbv
 refine d_br hS hf rfl ?_ ?_
 ·intro hf; cbv
  refine d_p hS hf (fun _=>c99 hM) ?_
  intro y5 hf; cbv
  cases hf; exact hR _ _ _ d_st d_st rfl
 intro hf; cbv
 refine d_o hS ?_; cbv
 refine d_b hS hf ?_ ?_
 ·intro hf; cbv
  refine d_p hS hf (fun _=>c100 hM) ?_
  intro y6 hf; cbv
  refine d_p hS hf (fun _=>c99 hM) ?_
  intro y7 hf; cbv
  cases hf; exact hR _ _ _ d_st d_st rfl
 intro hf; cbv
 refine d_o hS ?_; cbv
 refine d_idx hS hM hf rfl rfl ?_
 intro x8 hf; cbv
 refine d_p hS hf (fun _=>c101 hM) ?_
 intro y9 hf; cbv
 refine d_b hS hf ?_ ?_
 ·intro hf; cbv
  refine d_p hS hf (fun _=>c99 hM) ?_
  intro y10 hf; cbv
  cases hf; exact hR _ _ _ d_st d_st rfl
 intro hf; cbv
 refine d_p hS hf (fun _=>c40 hM) ?_
 intro y11 hf; cbv
 cases hf; exact hR _ _ _ d_st d_st rfl
theorem o35 {M:EncM} (hM:M=mapE) {s:GState} {r:GState} (hf:r26_Draws_o s=some r):Pv.FnS Tryz.prog glF 35 [.agg (eGState M s)] [] 0 (fun u s n=>u=.agg [.os 0 0 (M.n GPlayer r.players),.os 1 0 (M.n GObject r.objects),.sl 1 (M.m Int (eI .i64) r.battlefield) false,.sl 1 (M.m Int (eI .i64) r.exile) false,.os 2 0 (M.n GItem r.stack),.os 3 0 (M.n GWaiting r.waiting),.os 4 0 (M.n GCont r.conts),.si .i64 r.turn,.si .i64 r.active,.si .i64 r.step,.sb r.begun,.si .i64 r.priority,.si .i64 r.passes,.si .i64 r.nextId,.si .i64 r.nextStamp,.si .u64 r.seed,.sl 1 (M.m Int (eI .i64) r.extra) false,.si .i64 r.over,.si .i64 r.winner]∧s=[(0,some (.arr false 14 (M.m GPlayer (eGPlayer M) r.players))),(1,some (.arr false 19 (M.m GObject (eGObject M) r.objects))),(2,some (.arr false 94 (M.m GItem (eGItem M) r.stack))),(3,some (.arr false 89 (M.m GWaiting (eGWaiting M) r.waiting))),(4,some (.arr false 6 (M.m GCont (eGCont M) r.conts)))]∧n=5):=by
 refine fnS_dec (T:=(tabx 0 [] [[(14,true),(19,true),(0,false),(0,false),(94,true),(89,true),(6,true),(0,false),(0,false),(0,false),(0,false),(0,false),(0,false),(0,false),(0,false),(0,false),(0,false),(0,false),(0,false)]])) (tabxOK 0 [] [[(14,true),(19,true),(0,false),(0,false),(94,true),(89,true),(6,true),(0,false),(0,false),(0,false),(0,false),(0,false),(0,false),(0,false),(0,false),(0,false),(0,false),(0,false),(0,false)]]) wf Tryz.func35 rfl Tryz.call35 rfl ?_
 intro S R hS hR
 have q:=sf hM hS
 unfold r26_Draws_o at hf
 cbv
 refine d_callo hS hf (fun _=>o33 hM) (le_eq rfl) ?_
 intro y1 hf; cbv
 refine d_b hS hf ?_ ?_
 ·intro hf; cbv
  cases hf; exact hR _ _ _ d_st d_st rfl
 intro hf; cbv
 cases hf; exact hR _ _ _ d_st d_st rfl
end Go.Proofs.YtddcpnlflncahaaGreat
