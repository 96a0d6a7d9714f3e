import Derived.Test.YtddcpnlflncahaaGreatC17
import Derived.Test.YtddcpnlflncahaaGreatC18
set_option linter.all false
namespace Go.Proofs.YtddcpnlflncahaaGreat
open Go Go.Pv
set_option maxRecDepth 100000
set_option maxHeartbeats 2000000
theorem c11 {M:EncM} (hM:M=mapE) {s:GState} {r:GState} (hf:turn_Next s=some r):Pv.Fn Tryz.prog glF 11 [.agg (eGState M s)] (fun u=>u=.agg (eGState M r)):=by
 refine fn_dec (T:=(tabc [18,32])) (tabcOK [18,32]) rfl wf Tryz.func11 rfl Tryz.call11 rfl ?_
 intro S R hS hR
 have q:=sf hM hS
 unfold turn_Next at hf
 cbv
 refine d_callo hS hf (fun _=>o29 hM) (le_eq rfl) ?_
 intro y1 hf; cbv
 refine d_lp hS (tabcOK [18,32]) wf [] [1,2,8,9] (fun s2=>⟨tpsL 0 69 [(1,.lv 0 0),(2,.lv 9 0),(8,.si .i64 (S.nint (M.n GPlayer y1.players))),(9,.si .i64 s2.1)],[(0,some (.var false [.os 1 0 (S.lenN (M.m GPlayer (eGPlayer M) s2.2)),.os 2 0 (S.lenN (M.m GObject (eGObject M) y1.objects)),.os 3 0 (S.lenN (M.m Int (eI .i64) y1.battlefield)),.os 4 0 (S.lenN (M.m Int (eI .i64) y1.exile)),.os 5 0 (S.lenN (M.m GItem (eGItem M) y1.stack)),.os 6 0 (S.lenN (M.m GWaiting (eGWaiting M) y1.waiting)),.os 7 0 (S.lenN (M.m GCont (eGCont M) y1.conts)),.si .i64 y1.turn,.si .i64 y1.active,.si .i64 y1.step,.sb y1.begun,.si .i64 y1.priority,.si .i64 y1.passes,.si .i64 y1.nextId,.si .i64 y1.nextStamp,.si .u64 y1.seed,.os 8 0 (S.lenN (M.m Int (eI .i64) y1.extra)),.si .i64 y1.over,.si .i64 y1.winner])),(1,some (.arr false 14 (M.m GPlayer (eGPlayer M) s2.2))),(2,some (.arr false 19 (M.m GObject (eGObject M) y1.objects))),(3,some (.arr false 1 (M.m Int (eI .i64) y1.battlefield))),(4,some (.arr false 1 (M.m Int (eI .i64) y1.exile))),(5,some (.arr false 94 (M.m GItem (eGItem M) y1.stack))),(6,some (.arr false 89 (M.m GWaiting (eGWaiting M) y1.waiting))),(7,some (.arr false 6 (M.m GCont (eGCont M) y1.conts))),(8,some (.arr false 1 (M.m Int (eI .i64) y1.extra))),(9,some (.var false [.sl 0 [] true,.sl 0 [] true,.sl 0 [] true,.sl 0 [] true,.sl 0 [] true,.sl 0 [] true,.sl 0 [] true,.si .i64 0,.si .i64 0,.si .i64 0,.sb false,.si .i64 0,.si .i64 0,.si .i64 0,.si .i64 0,.si .u64 0,.sl 0 [] true,.si .i64 0,.si .i64 0]))],10⟩) hf ?_
 intro Ik3 k3 s2 hk3 hf e he; subst he
 unfold turn_Next_l1 at hf
 cbv
 refine d_b hS hf ?_ ?_
 ·intro hf; cbv
  refine d_ix hS hf d_e rfl ?_
  intro j5 _ hf; cbv
  refine d_wk hS (e:=(eArr6 (eI .i64))) hf (by (try simp only [q]); repeat' constructor) ?_
  intro x6 hf; cbv
  refine d_row hS hM hf rfl d_e ?_
  intro x7 hf; cbv
  exact d_x hk3 hf
 intro hf; cbv
 refine d_cut hS [] [1,2,25] (fun s8=>⟨tpsL 0 69 [(1,.lv 0 0),(2,.lv 9 0),(25,.sb s8)],[(0,some (.var false [.os 1 0 (S.lenN (M.m GPlayer (eGPlayer M) s2.2)),.os 2 0 (S.lenN (M.m GObject (eGObject M) y1.objects)),.os 3 0 (S.lenN (M.m Int (eI .i64) y1.battlefield)),.os 4 0 (S.lenN (M.m Int (eI .i64) y1.exile)),.os 5 0 (S.lenN (M.m GItem (eGItem M) y1.stack)),.os 6 0 (S.lenN (M.m GWaiting (eGWaiting M) y1.waiting)),.os 7 0 (S.lenN (M.m GCont (eGCont M) y1.conts)),.si .i64 y1.turn,.si .i64 y1.active,.si .i64 y1.step,.sb false,.si .i64 y1.priority,.si .i64 0,.si .i64 y1.nextId,.si .i64 y1.nextStamp,.si .u64 y1.seed,.os 8 0 (S.lenN (M.m Int (eI .i64) y1.extra)),.si .i64 y1.over,.si .i64 y1.winner])),(1,some (.arr false 14 (M.m GPlayer (eGPlayer M) s2.2))),(2,some (.arr false 19 (M.m GObject (eGObject M) y1.objects))),(3,some (.arr false 1 (M.m Int (eI .i64) y1.battlefield))),(4,some (.arr false 1 (M.m Int (eI .i64) y1.exile))),(5,some (.arr false 94 (M.m GItem (eGItem M) y1.stack))),(6,some (.arr false 89 (M.m GWaiting (eGWaiting M) y1.waiting))),(7,some (.arr false 6 (M.m GCont (eGCont M) y1.conts))),(8,some (.arr false 1 (M.m Int (eI .i64) y1.extra))),(9,some (.var false [.sl 0 [] true,.sl 0 [] true,.sl 0 [] true,.sl 0 [] true,.sl 0 [] true,.sl 0 [] true,.sl 0 [] true,.si .i64 0,.si .i64 0,.si .i64 0,.sb false,.si .i64 0,.si .i64 0,.si .i64 0,.si .i64 0,.si .u64 0,.sl 0 [] true,.si .i64 0,.si .i64 0]))],10⟩) hf ?_ ?_
 ·intro Ik9 k9 hk9 hf; cbv
  refine d_b hS hf ?_ ?_
  ·intro hf; cbv
   exact d_x hk9 hf
  intro hf; cbv
  exact d_x hk9 hf
 intro s8 hf; cbv
 refine d_br hS hf rfl ?_ ?_
 ·intro hf; cbv
  refine d_frz hS rfl ?_; cbv
  refine d_callo hS hf (fun _=>o30 hM) d_le ?_
  intro y11 hf; cbv
  cases hf; exact hR _ d_l
 intro hf; cbv
 refine d_b hS hf ?_ ?_
 ·intro hf; cbv
  refine d_callF hS hf (fun _=>c31 hM) d_le ?_
  intro y12 hf; cbv
  cases hf; exact hR _ d_l
 intro hf; cbv
 refine d_cut hS [] [1,2,55] (fun s13=>⟨tpsL 0 69 [(1,.lv 0 0),(2,.lv 9 0),(55,.sb s13)],[(0,some (.var false [.os 1 0 (S.lenN (M.m GPlayer (eGPlayer M) s2.2)),.os 2 0 (S.lenN (M.m GObject (eGObject M) y1.objects)),.os 3 0 (S.lenN (M.m Int (eI .i64) y1.battlefield)),.os 4 0 (S.lenN (M.m Int (eI .i64) y1.exile)),.os 5 0 (S.lenN (M.m GItem (eGItem M) y1.stack)),.os 6 0 (S.lenN (M.m GWaiting (eGWaiting M) y1.waiting)),.os 7 0 (S.lenN (M.m GCont (eGCont M) y1.conts)),.si .i64 y1.turn,.si .i64 y1.active,.si .i64 y1.step,.sb false,.si .i64 y1.priority,.si .i64 0,.si .i64 y1.nextId,.si .i64 y1.nextStamp,.si .u64 y1.seed,.os 8 0 (S.lenN (M.m Int (eI .i64) y1.extra)),.si .i64 y1.over,.si .i64 y1.winner])),(1,some (.arr false 14 (M.m GPlayer (eGPlayer M) s2.2))),(2,some (.arr false 19 (M.m GObject (eGObject M) y1.objects))),(3,some (.arr false 1 (M.m Int (eI .i64) y1.battlefield))),(4,some (.arr false 1 (M.m Int (eI .i64) y1.exile))),(5,some (.arr false 94 (M.m GItem (eGItem M) y1.stack))),(6,some (.arr false 89 (M.m GWaiting (eGWaiting M) y1.waiting))),(7,some (.arr false 6 (M.m GCont (eGCont M) y1.conts))),(8,some (.arr false 1 (M.m Int (eI .i64) y1.extra))),(9,some (.var false [.sl 0 [] true,.sl 0 [] true,.sl 0 [] true,.sl 0 [] true,.sl 0 [] true,.sl 0 [] true,.sl 0 [] true,.si .i64 0,.si .i64 0,.si .i64 0,.sb false,.si .i64 0,.si .i64 0,.si .i64 0,.si .i64 0,.si .u64 0,.sl 0 [] true,.si .i64 0,.si .i64 0]))],10⟩) hf ?_ ?_
 ·intro Ik14 k14 hk14 hf; cbv
  refine d_b hS hf ?_ ?_
  ·intro hf; cbv
   refine d_callL hS hf (fun _=>c32 hM) d_le (fun _=>rfl) ?_
   intro y16 hf; cbv
   exact d_x hk14 hf
  intro hf; cbv
  exact d_x hk14 hf
 intro s13 hf; cbv
 refine d_br hS hf rfl ?_ ?_
 ·intro hf; cbv
  cases hf; exact hR _ d_l
 intro hf; cbv
 cases hf; exact hR _ d_l
theorem c28 {M:EncM} (hM:M=mapE) {a:GState} {b:GState} {r:Bool} (hf:r26_lists a b=some r):Pv.Fn Tryz.prog glF 28 [.agg (eGState M a),.agg (eGState M b)] (fun u=>u=.sb r):=by
 refine fn_dec (T:=(tabc [2])) (tabcOK [2]) rfl wf Tryz.func28 rfl Tryz.call28 rfl ?_
 intro S R hS hR
 have q:=sf hM hS
 unfold r26_lists at hf
 cbv
 refine d_cut hS [] [2,3,52] (fun s1=>⟨tpsL 0 147 [(2,.lv 0 0),(3,.lv 1 0),(52,.sb s1)],[(0,some (.var false (eGState M a))),(1,some (.var false (eGState M b)))],2⟩) hf ?_ ?_
 ·intro Ik2 k2 hk2 hf; cbv
  refine d_b hS hf ?_ ?_
  ·intro hf; cbv
   exact d_x hk2 hf
  intro hf; cbv
  refine d_b hS hf ?_ ?_
  ·intro hf; cbv
   exact d_x hk2 hf
  intro hf; cbv
  refine d_b hS hf ?_ ?_
  ·intro hf; cbv
   exact d_x hk2 hf
  intro hf; cbv
  refine d_b hS hf ?_ ?_
  ·intro hf; cbv
   exact d_x hk2 hf
  intro hf; cbv
  exact d_x hk2 hf
 intro s1 hf; cbv
 refine d_br hS hf rfl ?_ ?_
 ·intro hf; cbv
  cases hf; exact hR _ (lp_eq rfl)
 intro hf; cbv
 refine d_lp hS (tabcOK [2]) wf [] [2,3,5] (fun s4=>⟨tpsL 0 147 [(2,.lv 0 0),(3,.lv 1 0),(5,.si .i64 s4)],[(0,some (.var false (eGState M a))),(1,some (.var false (eGState M b)))],2⟩) hf ?_
 intro Ik5 k5 s4 hk5 hf e he; subst he
 unfold r26_lists_l5 at hf
 cbv
 refine d_b hS hf ?_ ?_
 ·intro hf; cbv
  refine d_o hS ?_; cbv
  refine d_idx hS hM hf rfl rfl ?_
  intro x7 hf; cbv
  refine d_idx hS hM hf rfl rfl ?_
  intro x8 hf; cbv
  refine d_c hS hf (fun _=>c69 hM) ?_
  intro y9 hf; cbv
  refine d_b hS hf ?_ ?_
  ·intro hf; cbv
   cases hf; exact hR _ (lp_eq rfl)
  intro hf; cbv
  exact d_x hk5 hf
 intro hf; cbv
 refine d_lp hS (tabcOK [2]) wf [] [2,3,6] (fun s10=>⟨tpsL 0 147 [(2,.lv 0 0),(3,.lv 1 0),(6,.si .i64 s10)],[(0,some (.var false (eGState M a))),(1,some (.var false (eGState M b)))],2⟩) hf ?_
 intro Ik11 k11 s10 hk11 hf e he; subst he
 unfold r26_lists_l4 at hf
 cbv
 refine d_b hS hf ?_ ?_
 ·intro hf; cbv
  refine d_o hS ?_; cbv
  refine d_idx hS hM hf rfl rfl ?_
  intro x13 hf; cbv
  refine d_idx hS hM hf rfl rfl ?_
  intro x14 hf; cbv
  replace hf:=d_lt hf
  refine d_b hS hf ?_ ?_
  ·intro hf; cbv
   cases hf; exact hR _ (lp_eq rfl)
  intro hf; cbv
  exact d_x hk11 hf
 intro hf; cbv
 refine d_lp hS (tabcOK [2]) wf [] [2,3,7] (fun s16=>⟨tpsL 0 147 [(2,.lv 0 0),(3,.lv 1 0),(7,.si .i64 s16)],[(0,some (.var false (eGState M a))),(1,some (.var false (eGState M b)))],2⟩) hf ?_
 intro Ik17 k17 s16 hk17 hf e he; subst he
 unfold r26_lists_l3 at hf
 cbv
 refine d_b hS hf ?_ ?_
 ·intro hf; cbv
  refine d_o hS ?_; cbv
  refine d_idx hS hM hf rfl rfl ?_
  intro x19 hf; cbv
  refine d_idx hS hM hf rfl rfl ?_
  intro x20 hf; cbv
  refine d_c hS hf (fun _=>c70 hM) ?_
  intro y21 hf; cbv
  refine d_b hS hf ?_ ?_
  ·intro hf; cbv
   cases hf; exact hR _ (lp_eq rfl)
  intro hf; cbv
  exact d_x hk17 hf
 intro hf; cbv
 refine d_lp hS (tabcOK [2]) wf [] [2,3,8] (fun s22=>⟨tpsL 0 147 [(2,.lv 0 0),(3,.lv 1 0),(8,.si .i64 s22)],[(0,some (.var false (eGState M a))),(1,some (.var false (eGState M b)))],2⟩) hf ?_
 intro Ik23 k23 s22 hk23 hf e he; subst he
 unfold r26_lists_l2 at hf
 cbv
 refine d_b hS hf ?_ ?_
 ·intro hf; cbv
  refine d_o hS ?_; cbv
  refine d_idx hS hM hf rfl rfl ?_
  intro x25 hf; cbv
  refine d_idx hS hM hf rfl rfl ?_
  intro x26 hf; cbv
  refine d_c hS hf (fun _=>c71 hM) ?_
  intro y27 hf; cbv
  refine d_b hS hf ?_ ?_
  ·intro hf; cbv
   cases hf; exact hR _ (lp_eq rfl)
  intro hf; cbv
  exact d_x hk23 hf
 intro hf; cbv
 refine d_lp hS (tabcOK [2]) wf [] [2,3,9] (fun s28=>⟨tpsL 0 147 [(2,.lv 0 0),(3,.lv 1 0),(9,.si .i64 s28)],[(0,some (.var false (eGState M a))),(1,some (.var false (eGState M b)))],2⟩) hf ?_
 intro Ik29 k29 s28 hk29 hf e he; subst he
 unfold r26_lists_l1 at hf
 cbv
 refine d_b hS hf ?_ ?_
 ·intro hf; cbv
  refine d_o hS ?_; cbv
  refine d_idx hS hM hf rfl rfl ?_
  intro x31 hf; cbv
  refine d_idx hS hM hf rfl rfl ?_
  intro x32 hf; cbv
  refine d_c hS hf (fun _=>c72 hM) ?_
  intro y33 hf; cbv
  refine d_b hS hf ?_ ?_
  ·intro hf; cbv
   cases hf; exact hR _ (lp_eq rfl)
  intro hf; cbv
  exact d_x hk29 hf
 intro hf; cbv
 cases hf; exact hR _ (lp_eq rfl)
theorem c170 {M:EncM} (hM:M=mapE) {m:GMod} {r:ByteArray} (hf:r15_Text m=some r):Pv.Fn Tryz.prog glF 170 [.agg (eGMod M m)] (fun u=>u=.str r):=by
 refine fn_dec (T:=tab) tabOK rfl wf Tryz.func170 rfl Tryz.call170 rfl ?_
 intro S R hS hR
 have q:=sf hM hS
 unfold r15_Text at hf
 cbv
 refine d_p hS hf (fun _=>c169 hM) ?_
 intro y1 hf; cbv
 refine d_b hS hf ?_ ?_
 ·intro hf; cbv
  cases hf; exact hR _ (lp_eq rfl)
 intro hf; cbv
 refine d_b hS hf ?_ ?_
 ·intro hf; cbv
  cases hf; exact hR _ (lp_eq rfl)
 intro hf; cbv
 refine d_b hS hf ?_ ?_
 ·intro hf; cbv
  refine d_p hS hf (fun _=>c202 hM) ?_
  intro y2 hf; cbv
  refine d_cat hS hf rfl rfl ?_
  intro x3 hf; cbv
  cases hf; exact hR _ (lp_eq rfl)
 intro hf; cbv
 refine d_b hS hf ?_ ?_
 ·intro hf; cbv
  refine d_p hS hf (fun _=>c202 hM) ?_
  intro y4 hf; cbv
  refine d_cat hS hf rfl rfl ?_
  intro x5 hf; cbv
  cases hf; exact hR _ (lp_eq rfl)
 intro hf; cbv
 refine d_b hS hf ?_ ?_
 ·intro hf; cbv
  refine d_cat hS hf rfl rfl ?_
  intro x6 hf; cbv
  cases hf; exact hR _ (lp_eq rfl)
 intro hf; cbv
 refine d_b hS hf ?_ ?_
 ·intro hf; cbv
  refine d_cat hS hf rfl rfl ?_
  intro x7 hf; cbv
  cases hf; exact hR _ (lp_eq rfl)
 intro hf; cbv
 refine d_b hS hf ?_ ?_
 ·intro hf; cbv
  refine d_p hS hf (fun _=>c203 hM) ?_
  intro y8 hf; cbv
  refine d_cat hS hf rfl rfl ?_
  intro x9 hf; cbv
  cases hf; exact hR _ (lp_eq rfl)
 intro hf; cbv
 refine d_b hS hf ?_ ?_
 ·intro hf; cbv
  refine d_p hS hf (fun _=>c203 hM) ?_
  intro y10 hf; cbv
  refine d_cat hS hf rfl rfl ?_
  intro x11 hf; cbv
  cases hf; exact hR _ (lp_eq rfl)
 intro hf; cbv
 refine d_b hS hf ?_ ?_
 ·intro hf; cbv
  refine d_p hS hf (fun _=>c204 hM) ?_
  intro y12 hf; cbv
  refine d_cat hS hf rfl rfl ?_
  intro x13 hf; cbv
  cases hf; exact hR _ (lp_eq rfl)
 intro hf; cbv
 refine d_b hS hf ?_ ?_
 ·intro hf; cbv
  refine d_p hS hf (fun _=>c204 hM) ?_
  intro y14 hf; cbv
  refine d_cat hS hf rfl rfl ?_
  intro x15 hf; cbv
  cases hf; exact hR _ (lp_eq rfl)
 intro hf; cbv
 refine d_b hS hf ?_ ?_
 ·intro hf; cbv
  cases hf; exact hR _ (lp_eq rfl)
 intro hf; cbv
 refine d_b hS hf ?_ ?_
 ·intro hf; cbv
  refine d_p hS hf (fun _=>c205 hM) ?_
  intro y16 hf; cbv
  refine d_cat hS hf rfl rfl ?_
  intro x17 hf; cbv
  refine d_cat hS hf rfl rfl ?_
  intro x18 hf; cbv
  cases hf; exact hR _ (lp_eq rfl)
 intro hf; cbv
 refine d_b hS hf ?_ ?_
 ·intro hf; cbv
  refine d_o hS ?_; cbv
  refine d_c hS hf (fun _=>c206 hM) ?_
  intro y19 hf; cbv
  refine d_cat hS hf rfl rfl ?_
  intro x20 hf; cbv
  refine d_cat hS hf rfl rfl ?_
  intro x21 hf; cbv
  refine d_c hS hf (fun _=>c206 hM) ?_
  intro y22 hf; cbv
  refine d_cat hS hf rfl rfl ?_
  intro x23 hf; cbv
  cases hf; exact hR _ (lp_eq rfl)
 intro hf; cbv
 refine d_b hS hf ?_ ?_
 ·intro hf; cbv
  refine d_o hS ?_; cbv
  refine d_c hS hf (fun _=>c206 hM) ?_
  intro y24 hf; cbv
  refine d_cat hS hf rfl rfl ?_
  intro x25 hf; cbv
  refine d_cat hS hf rfl rfl ?_
  intro x26 hf; cbv
  refine d_c hS hf (fun _=>c206 hM) ?_
  intro y27 hf; cbv
  refine d_cat hS hf rfl rfl ?_
  intro x28 hf; cbv
  cases hf; exact hR _ (lp_eq rfl)
 intro hf; cbv
 cases hf; exact hR _ (lp_eq rfl)
theorem c195 {M:EncM} (hM:M=mapE) {pr:GReplace} {r:Bool} (hf:r19_moves pr=some r):Pv.Fn Tryz.prog glF 195 [.agg (eGReplace M pr)] (fun u=>u=.sb r):=by
 refine fn_dec (T:=(tabc [2])) (tabcOK [2]) rfl wf Tryz.func195 rfl Tryz.call195 rfl ?_
 intro S R hS hR
 have q:=sf hM hS
 unfold r19_moves at hf
 cbv
 refine d_cut hS [] [1,11] (fun s1=>⟨tpsL 0 79 [(1,.lv 0 0),(11,.sb s1)],[(0,some (.var false (eGReplace M pr)))],1⟩) hf ?_ ?_
 ·intro Ik2 k2 hk2 hf; cbv
  refine d_b hS hf ?_ ?_
  ·intro hf; cbv
   exact d_x hk2 hf
  intro hf; cbv
  refine d_p hS hf (fun _=>c197 hM) ?_
  intro y4 hf; cbv
  exact d_x hk2 hf
 intro s1 hf; cbv
 refine d_br hS hf rfl ?_ ?_
 ·intro hf; cbv
  cases hf; exact hR _ (lp_eq rfl)
 intro hf; cbv
 refine d_b hS hf ?_ ?_
 ·intro hf; cbv
  refine d_b hS hf ?_ ?_
  ·intro hf; cbv
   refine d_b hS hf ?_ ?_
   ·intro hf; cbv
    refine d_b hS hf ?_ ?_
    ·intro hf; cbv
     cases hf; exact hR _ (lp_eq rfl)
    intro hf; cbv
    refine d_b hS hf ?_ ?_
    ·intro hf; cbv
     cases hf; exact hR _ (lp_eq rfl)
    intro hf; cbv
    cases hf; exact hR _ d_l
   intro hf; cbv
   cases hf; exact hR _ (lp_eq rfl)
  intro hf; cbv
  cases hf; exact hR _ (lp_eq rfl)
 intro hf; cbv
 refine d_b hS hf ?_ ?_
 ·intro hf; cbv
  refine d_b hS hf ?_ ?_
  ·intro hf; cbv
   refine d_b hS hf ?_ ?_
   ·intro hf; cbv
    cases hf; exact hR _ d_l
   intro hf; cbv
   cases hf; exact hR _ (lp_eq rfl)
  intro hf; cbv
  cases hf; exact hR _ (lp_eq rfl)
 intro hf; cbv
 refine d_b hS hf ?_ ?_
 ·intro hf; cbv
  refine d_b hS hf ?_ ?_
  ·intro hf; cbv
   refine d_b hS hf ?_ ?_
   ·intro hf; cbv
    refine d_b hS hf ?_ ?_
    ·intro hf; cbv
     refine d_b hS hf ?_ ?_
     ·intro hf; cbv
      cases hf; exact hR _ d_l
     intro hf; cbv
     cases hf; exact hR _ (lp_eq rfl)
    intro hf; cbv
    cases hf; exact hR _ (lp_eq rfl)
   intro hf; cbv
   cases hf; exact hR _ (lp_eq rfl)
  intro hf; cbv
  cases hf; exact hR _ (lp_eq rfl)
 intro hf; cbv
 cases hf; exact hR _ (lp_eq rfl)
theorem s41 {M:EncM} (hM:M=mapE) {k:GAskAsker} {c:GChoice} {r:(List Int) × GAskAsker} (hf:ask_Asker_Pick k c=some r):Pv.FnS Tryz.prog glF 41 [.lv 0 0,.agg (eGChoice M c)] [(0,some (.var false (eGAskAsker M k)))] 1 (fun u s n=>u=.sl 1 (M.m Int (eI .i64) r.1) false∧s=[(0,some (.var false (eGAskAsker M r.2)))]∧n=1):=by
 refine fnS_dec (T:=(tabx 1 [2] [])) (tabxOK 1 [2] []) wf Tryz.func41 rfl Tryz.call41 rfl ?_
 intro S R hS hR
 have q:=sf hM hS
 unfold ask_Asker_Pick at hf
 cbv
 refine d_cut hS [] [0,3,23] (fun s1=>⟨tpsL 0 77 [(0,.lv 0 0),(3,.lv 1 0),(23,.sb s1)],[(0,some (.var false (eGAskAsker M k))),(1,some (.var false (eGChoice M c)))],2⟩) hf ?_ ?_
 ·intro Ik2 k2 hk2 hf; cbv
  refine d_br hS hf rfl ?_ ?_
  ·intro hf; cbv
   exact d_x hk2 hf
  intro hf; cbv
  refine d_br hS hf rfl ?_ ?_
  ·intro hf; cbv
   exact d_x hk2 hf
  intro hf; cbv
  refine d_p hS hf (fun _=>c92 hM) ?_
  intro y4 hf; cbv
  exact d_x hk2 hf
 intro s1 hf; cbv
 refine d_br hS hf rfl ?_ ?_
 ·intro hf; cbv
  refine d_p hS hf (fun _=>c93 hM) ?_
  intro y5 hf; cbv
  cases hf; exact hR _ _ _ d_st d_st rfl
 intro hf; cbv
 refine d_o hS ?_; cbv
 refine d_b hS hf ?_ ?_
 ·intro hf; cbv
  refine d_p hS hf (fun _=>c94 hM) ?_
  intro y6 hf; cbv
  refine d_p hS hf (fun _=>c93 hM) ?_
  intro y7 hf; cbv
  cases hf; exact hR _ _ _ d_st d_st rfl
 intro hf; cbv
 refine d_o hS ?_; cbv
 refine d_idx hS hM hf rfl rfl ?_
 intro x8 hf; cbv
 refine d_p hS hf (fun _=>c95 hM) ?_
 intro y9 hf; cbv
 refine d_b hS hf ?_ ?_
 ·intro hf; cbv
  refine d_p hS hf (fun _=>c93 hM) ?_
  intro y10 hf; cbv
  cases hf; exact hR _ _ _ d_st d_st rfl
 intro hf; cbv
 refine d_p hS hf (fun _=>c39 hM) ?_
 intro y11 hf; cbv
 cases hf; exact hR _ _ _ d_st d_st rfl
theorem c160 {M:EncM} (hM:M=mapE) {l:List GSpec} {r:Bool} (hf:r20_specs l=some r):Pv.Fn Tryz.prog glF 160 [.sl 18 (M.m GSpec (eGSpec M) l) false] (fun u=>u=.sb r):=by
 refine fn_dec (T:=tab) tabOK rfl wf Tryz.func160 rfl Tryz.call160 rfl ?_
 intro S R hS hR
 have q:=sf hM hS
 unfold r20_specs at hf
 cbv
 refine d_lp hS tabOK wf [] [0,3] (fun s1=>⟨tpsL 0 19 [(0,.sl 18 (M.m GSpec (eGSpec M) l) false),(3,.si .i64 s1)],[],0⟩) hf ?_
 intro Ik2 k2 s1 hk2 hf e he; subst he
 unfold r20_specs_l1 at hf
 cbv
 refine d_b hS hf ?_ ?_
 ·intro hf; cbv
  refine d_idx hS hM hf rfl rfl ?_
  intro x4 hf; cbv
  refine d_p hS hf (fun _=>c198 hM) ?_
  intro y5 hf; cbv
  refine d_b hS hf ?_ ?_
  ·intro hf; cbv
   cases hf; exact hR _ (lp_eq rfl)
  intro hf; cbv
  exact d_x hk2 hf
 intro hf; cbv
 cases hf; exact hR _ d_l
end Go.Proofs.YtddcpnlflncahaaGreat
