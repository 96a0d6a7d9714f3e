import Derived.Test.YtddcpnlflncahaaGreatC08
import Derived.Test.YtddcpnlflncahaaGreatC09
import Derived.Test.YtddcpnlflncahaaGreatC10
set_option linter.all false
namespace Go.Proofs.YtddcpnlflncahaaGreat
open Go Go.Pv
set_option maxRecDepth 100000
set_option maxHeartbeats 2000000
theorem c63 {M:EncM} (hM:M=mapE) {l:List GCard} {c:GCard} {r:Bool} (hf:r22_creates l c=some r):Pv.Fn Tryz.prog glF 63 [.sl 17 (M.m GCard (eGCard M) l) false,.agg (eGCard M c)] (fun u=>u=.sb r):=by
 refine fn_dec (T:=(tabc [16])) (tabcOK [16]) rfl wf Tryz.func63 rfl Tryz.call63 rfl ?_
 intro S R hS hR
 have q:=sf hM hS
 unfold r22_creates at hf
 cbv
 refine d_lp hS (tabcOK [16]) wf [] [0,3,5] (fun s1=>⟨tpsL 0 45 [(0,.sl 17 (M.m GCard (eGCard M) l) false),(3,.lv 0 0),(5,.si .i64 s1)],[(0,some (.var false (eGCard M c)))],1⟩) hf ?_
 intro Ik2 k2 s1 hk2 hf e he; subst he
 unfold r22_creates_l2 at hf
 cbv
 refine d_b hS hf ?_ ?_
 ·intro hf; cbv
  refine d_lp hS (tabcOK [16]) wf [] [0,3,5,6] (fun s4=>⟨tpsL 0 45 [(0,.sl 17 (M.m GCard (eGCard M) l) false),(3,.lv 0 0),(5,.si .i64 s1),(6,.si .i64 s4)],[(0,some (.var false (eGCard M c)))],1⟩) hf ?_
  intro Ik5 k5 s4 hk5 hf e he; subst he
  unfold r22_creates_l1 at hf
  cbv
  refine d_idx hS hM hf rfl rfl ?_
  intro x7 hf; cbv
  refine d_b hS hf ?_ ?_
  ·intro hf; cbv
   refine d_idx hS hM hf rfl rfl ?_
   intro x8 hf; cbv
   refine d_idx hS hM hf rfl rfl ?_
   intro x9 hf; cbv
   refine d_cut hS [] [0,3,5,6,44] (fun s10=>⟨tpsL 0 45 [(0,.sl 17 (M.m GCard (eGCard M) l) false),(3,.lv 0 0),(5,.si .i64 s1),(6,.si .i64 s4),(44,.sb s10)],[(0,some (.var false (eGCard M c)))],1⟩) hf ?_ ?_
   ·intro Ik11 k11 hk11 hf; cbv
    refine d_b hS hf ?_ ?_
    ·intro hf; cbv
     refine d_p hS hf (fun _=>c118 hM) ?_
     intro y13 hf; cbv
     exact d_x hk11 hf
    intro hf; cbv
    exact d_x hk11 hf
   intro s10 hf; cbv
   refine d_br hS hf rfl ?_ ?_
   ·intro hf; cbv
    cases hf; exact hR _ (lp_eq rfl)
   intro hf; cbv
   exact d_x hk5 hf
  intro hf; cbv
  exact d_x hk2 hf
 intro hf; cbv
 cases hf; exact hR _ (lp_eq rfl)
theorem c168 {M:EncM} (hM:M=mapE) {s:GState} {zone:Int} {player:Int} {r:List Int} (hf:r25_List s zone player=some r):Pv.Fn Tryz.prog glF 168 [.agg (eGState M s),.si .i64 zone,.si .i64 player] (fun u=>u=.sl 1 (M.m Int (eI .i64) r) false):=by
 refine fn_dec (T:=(tabc [12])) (tabcOK [12]) rfl wf Tryz.func168 rfl Tryz.call168 rfl ?_
 intro S R hS hR
 have q:=sf hM hS
 unfold r25_List at hf
 cbv
 refine d_b hS hf ?_ ?_
 ·intro hf; cbv
  refine d_p hS hf (fun _=>c88 hM) ?_
  intro y1 hf; cbv
  cases hf; exact hR _ (lp_eq rfl)
 intro hf; cbv
 refine d_b hS hf ?_ ?_
 ·intro hf; cbv
  refine d_p hS hf (fun _=>c88 hM) ?_
  intro y2 hf; cbv
  cases hf; exact hR _ (lp_eq rfl)
 intro hf; cbv
 refine d_cut hS [] [1,2,3,26] (fun s3=>⟨tpsL 0 55 [(1,.si .i64 zone),(2,.si .i64 player),(3,.lv 0 0),(26,.sb s3)],[(0,some (.var false (eGState M s)))],1⟩) hf ?_ ?_
 ·intro Ik4 k4 hk4 hf; cbv
  refine d_b hS hf ?_ ?_
  ·intro hf; cbv
   exact d_x hk4 hf
  intro hf; cbv
  exact d_x hk4 hf
 intro s3 hf; cbv
 refine d_br hS hf rfl ?_ ?_
 ·intro hf; cbv
  cases hf; exact hR _ (by (try simp only [q]); repeat' constructor)
 intro hf; cbv
 refine d_b hS hf ?_ ?_
 ·intro hf; cbv
  refine d_idx hS hM hf rfl rfl ?_
  intro x6 hf; cbv
  refine d_p hS hf (fun _=>c88 hM) ?_
  intro y7 hf; cbv
  cases hf; exact hR _ (lp_eq rfl)
 intro hf; cbv
 refine d_b hS hf ?_ ?_
 ·intro hf; cbv
  refine d_idx hS hM hf rfl rfl ?_
  intro x8 hf; cbv
  refine d_p hS hf (fun _=>c88 hM) ?_
  intro y9 hf; cbv
  cases hf; exact hR _ (lp_eq rfl)
 intro hf; cbv
 refine d_b hS hf ?_ ?_
 ·intro hf; cbv
  refine d_idx hS hM hf rfl rfl ?_
  intro x10 hf; cbv
  refine d_p hS hf (fun _=>c88 hM) ?_
  intro y11 hf; cbv
  cases hf; exact hR _ (lp_eq rfl)
 intro hf; cbv
 cases hf; exact hR _ (by (try simp only [q]); repeat' constructor)
theorem c230 {M:EncM} (hM:M=mapE) {l:List ByteArray} {mask:Int} {pby:ByteArray} {r:ByteArray} (hf:r10_joined l mask pby=some r):Pv.Fn Tryz.prog glF 230 [.sl 1 (M.m ByteArray eS l) false,.si .i64 mask,.str pby] (fun u=>u=.str r):=by
 refine fn_dec (T:=(tabc [9,17])) (tabcOK [9,17]) rfl wf Tryz.func230 rfl Tryz.call230 rfl ?_
 intro S R hS hR
 have q:=sf hM hS
 unfold r10_joined at hf
 cbv
 refine d_lp hS (tabcOK [9,17]) wf [] [0,1,2,7,8] (fun s1=>⟨tpsL 0 30 [(0,.sl 1 (M.m ByteArray eS l) false),(1,.si .i64 mask),(2,.str pby),(7,.str s1.1),(8,.si .i64 s1.2)],[],0⟩) hf ?_
 intro Ik2 k2 s1 hk2 hf e he; subst he
 unfold r10_joined_l1 at hf
 cbv
 refine d_b hS hf ?_ ?_
 ·intro hf; cbv
  refine d_cut hS [] [0,1,2,7,8] (fun s4=>⟨tpsL 0 30 [(0,.sl 1 (M.m ByteArray eS l) false),(1,.si .i64 mask),(2,.str pby),(7,.str s4),(8,.si .i64 s1.2)],[],0⟩) hf ?_ ?_
  ·intro Ik5 k5 hk5 hf; cbv
   refine d_p hS hf (fun _=>c155 hM) ?_
   intro y7 hf; cbv
   refine d_br hS hf rfl ?_ ?_
   ·intro hf; cbv
    refine d_cut hS [] [0,1,2,7,8] (fun s8=>⟨tpsL 0 30 [(0,.sl 1 (M.m ByteArray eS l) false),(1,.si .i64 mask),(2,.str pby),(7,.str s8),(8,.si .i64 s1.2)],[],0⟩) hf ?_ ?_
    ·intro Ik9 k9 hk9 hf; cbv
     refine d_b hS hf ?_ ?_
     ·intro hf; cbv
      refine d_cat hS hf rfl rfl ?_
      intro x11 hf; cbv
      exact d_x hk9 hf
     intro hf; cbv
     exact d_x hk9 hf
    intro s8 hf; cbv
    refine d_idx hS hM hf rfl rfl ?_
    intro x12 hf; cbv
    refine d_cat hS hf rfl rfl ?_
    intro x13 hf; cbv
    exact d_x hk5 hf
   intro hf; cbv
   exact d_x hk5 hf
  intro s4 hf; cbv
  exact d_x hk2 hf
 intro hf; cbv
 cases hf; exact hR _ (lp_eq rfl)
theorem o15 {M:EncM} (hM:M=mapE) {answers:List (List Int)} {r:GAskAsker} (hf:ask_New answers=some r):Pv.FnS Tryz.prog glF 15 [.sl 1 (M.m (List Int) (eL M 1 (eI .i64)) answers) false] [] 0 (fun u s n=>u=.lv 0 0∧s=[(0,some (.var false [.os 1 0 (M.n (List Int) r.answers),.si .i64 r.used,.si .i64 r.pending.kind,.si .i64 r.pending.player,.si .i64 r.pending.source,.si .i64 r.pending.least,.si .i64 r.pending.most,.si .i64 r.pending.n,.sl 3 (M.m GOption (eGOption M) r.pending.options) false,.sb r.waits,.sb r.bad])),(1,some (.arr false 1 (M.m (List Int) (eL M 1 (eI .i64)) r.answers)))]∧n=2):=by
 refine fnS_dec (T:=(tabx 0 [] [])) (tabxOK 0 [] []) wf Tryz.func15 rfl Tryz.call15 rfl ?_
 intro S R hS hR
 have q:=sf hM hS
 unfold ask_New at hf
 cbv
 refine d_lp hS (tabxOK 0 [] []) wf [.cO 0 0 1] [3,8,9,10] (fun s1=>⟨tpsL 0 27 [(3,.lv 0 0),(8,.sl 1 (M.m (List Int) (eL M 1 (eI .i64)) answers) false),(9,.si .i64 (S.len (M.m (List Int) (eL M 1 (eI .i64)) answers))),(10,.si .i64 s1.1)],[(0,some (.var false [.os 1 0 (S.lenN (M.m (List Int) (eL M 1 (eI .i64)) s1.2)),.si .i64 0,.si .i64 0,.si .i64 0,.si .i64 0,.si .i64 0,.si .i64 0,.si .i64 0,.sl 0 [] true,.sb false,.sb false])),(1,some (.arr false 1 (M.m (List Int) (eL M 1 (eI .i64)) s1.2)))],2⟩) hf ?_
 intro Ik2 k2 s1 hk2 hf e he; subst he
 unfold ask_New_l1 at hf
 cbv
 refine d_b hS hf ?_ ?_
 ·intro hf; cbv
  refine d_idx hS hM hf rfl rfl ?_
  intro x4 hf; cbv
  refine d_o hS ?_; cbv
  refine d_c hS hf (fun _=>c39 hM) ?_
  intro y5 hf; cbv
  refine d_room hS hf d_e ?_
  intro hf; cbv
  exact d_x hk2 hf
 intro hf; cbv
 cases hf; exact hR _ _ _ d_st d_st rfl
theorem o16 {M:EncM} (hM:M=mapE) {answers:List (List Int)} {r:GR36Asker} (hf:r36_New answers=some r):Pv.FnS Tryz.prog glF 16 [.sl 1 (M.m (List Int) (eL M 1 (eI .i64)) answers) false] [] 0 (fun u s n=>u=.lv 0 0∧s=[(0,some (.var false [.os 1 0 (M.n (List Int) r.answers),.si .i64 r.choice.kind,.si .i64 r.choice.player,.si .i64 r.choice.source,.si .i64 r.choice.least,.si .i64 r.choice.most,.si .i64 r.choice.n,.sl 3 (M.m GOption (eGOption M) r.choice.options) false,.sb r.waits,.sb r.wrong,.si .i64 r.n])),(1,some (.arr false 1 (M.m (List Int) (eL M 1 (eI .i64)) r.answers)))]∧n=2):=by
 refine fnS_dec (T:=(tabx 0 [] [])) (tabxOK 0 [] []) wf Tryz.func16 rfl Tryz.call16 rfl ?_
 intro S R hS hR
 have q:=sf hM hS
 unfold r36_New at hf
 cbv
 refine d_lp hS (tabxOK 0 [] []) wf [.cO 0 0 1] [0,3,4] (fun s1=>⟨tpsL 0 28 [(0,.sl 1 (M.m (List Int) (eL M 1 (eI .i64)) answers) false),(3,.lv 0 0),(4,.si .i64 s1.1)],[(0,some (.var false [.os 1 0 (S.lenN (M.m (List Int) (eL M 1 (eI .i64)) s1.2)),.si .i64 0,.si .i64 0,.si .i64 0,.si .i64 0,.si .i64 0,.si .i64 0,.sl 0 [] true,.sb false,.sb false,.si .i64 0])),(1,some (.arr false 1 (M.m (List Int) (eL M 1 (eI .i64)) s1.2)))],2⟩) hf ?_
 intro Ik2 k2 s1 hk2 hf e he; subst he
 unfold r36_New_l1 at hf
 cbv
 refine d_b hS hf ?_ ?_
 ·intro hf; cbv
  refine d_o hS ?_; cbv
  refine d_idx hS hM hf rfl rfl ?_
  intro x4 hf; cbv
  refine d_c hS hf (fun _=>c40 hM) ?_
  intro y5 hf; cbv
  refine d_room hS hf d_e ?_
  intro hf; cbv
  exact d_x hk2 hf
 intro hf; cbv
 cases hf; exact hR _ _ _ d_st d_st rfl
theorem c69 {M:EncM} (hM:M=mapE) {a:GPlayer} {b:GPlayer} {r:Bool} (hf:r26_SamePlayer a b=some r):Pv.Fn Tryz.prog glF 69 [.agg (eGPlayer M a),.agg (eGPlayer M b)] (fun u=>u=.sb r):=by
 refine fn_dec (T:=(tabc [2])) (tabcOK [2]) rfl wf Tryz.func69 rfl Tryz.call69 rfl ?_
 intro S R hS hR
 have q:=sf hM hS
 unfold r26_SamePlayer at hf
 cbv
 refine d_cut hS [] [2,3,44] (fun s1=>⟨tpsL 0 64 [(2,.lv 0 0),(3,.lv 1 0),(44,.sb s1)],[(0,some (.var false (eGPlayer M a))),(1,some (.var false (eGPlayer M b)))],2⟩) hf ?_ ?_
 ·intro Ik2 k2 hk2 hf; cbv
  refine d_b hS hf ?_ ?_
  ·intro hf; cbv
   exact d_x hk2 hf
  intro hf; cbv
  refine d_b hS hf ?_ ?_
  ·intro hf; cbv
   exact d_x hk2 hf
  intro hf; cbv
  refine d_b hS hf ?_ ?_
  ·intro hf; cbv
   exact d_x hk2 hf
  intro hf; cbv
  replace hf:=d_lt hf
  refine d_b hS hf ?_ ?_
  ·intro hf; cbv
   exact d_x hk2 hf
  intro hf; cbv
  refine d_b hS hf ?_ ?_
  ·intro hf; cbv
   exact d_x hk2 hf
  intro hf; cbv
  exact d_x hk2 hf
 intro s1 hf; cbv
 refine d_br hS hf rfl ?_ ?_
 ·intro hf; cbv
  cases hf; exact hR _ (lp_eq rfl)
 intro hf; cbv
 refine d_p hS hf (fun _=>c25 hM) ?_
 intro y5 hf; cbv
 refine d_br hS hf rfl ?_ ?_
 ·intro hf; cbv
  refine d_p hS hf (fun _=>c25 hM) ?_
  intro y6 hf; cbv
  refine d_br hS hf rfl ?_ ?_
  ·intro hf; cbv
   refine d_p hS hf (fun _=>c25 hM) ?_
   intro y7 hf; cbv
   cases hf; exact hR _ (lp_eq rfl)
  intro hf; cbv
  cases hf; exact hR _ (lp_eq rfl)
 intro hf; cbv
 cases hf; exact hR _ (lp_eq rfl)
theorem c207 {M:EncM} (hM:M=mapE) {a:GEffect} {b:GEffect} {r:Bool} (hf:r17_Same a b=some r):Pv.Fn Tryz.prog glF 207 [.agg (eGEffect M a),.agg (eGEffect M b)] (fun u=>u=.sb r):=by
 refine fn_dec (T:=tab) tabOK rfl wf Tryz.func207 rfl Tryz.call207 rfl ?_
 intro S R hS hR
 have q:=sf hM hS
 unfold r17_Same at hf
 cbv
 refine d_b hS hf ?_ ?_
 ·intro hf; cbv
  replace hf:=d_lt hf
  refine d_b hS hf ?_ ?_
  ·intro hf; cbv
   replace hf:=d_lt hf
   refine d_b hS hf ?_ ?_
   ·intro hf; cbv
    refine d_b hS hf ?_ ?_
    ·intro hf; cbv
     refine d_b hS hf ?_ ?_
     ·intro hf; cbv
      refine d_b hS hf ?_ ?_
      ·intro hf; cbv
       replace hf:=d_lt hf
       refine d_b hS hf ?_ ?_
       ·intro hf; cbv
        replace hf:=d_lt hf
        refine d_b hS hf ?_ ?_
        ·intro hf; cbv
         refine d_p hS hf (fun _=>c171 hM) ?_
         intro y5 hf; cbv
         cases hf; exact hR _ (lp_eq rfl)
        intro hf; cbv
        cases hf; exact hR _ (lp_eq rfl)
       intro hf; cbv
       cases hf; exact hR _ (lp_eq rfl)
      intro hf; cbv
      cases hf; exact hR _ (lp_eq rfl)
     intro hf; cbv
     cases hf; exact hR _ (lp_eq rfl)
    intro hf; cbv
    cases hf; exact hR _ (lp_eq rfl)
   intro hf; cbv
   cases hf; exact hR _ (lp_eq rfl)
  intro hf; cbv
  cases hf; exact hR _ (lp_eq rfl)
 intro hf; cbv
 cases hf; exact hR _ (lp_eq rfl)
theorem c99 {M:EncM} (hM:M=mapE) {c:GChoice} {r:List Int} (hf:r36_Default c=some r):Pv.Fn Tryz.prog glF 99 [.agg (eGChoice M c)] (fun u=>u=.sl 1 (M.m Int (eI .i64) r) false):=by
 refine fn_dec (T:=tab) tabOK rfl wf Tryz.func99 rfl Tryz.call99 rfl ?_
 intro S R hS hR
 have q:=sf hM hS
 unfold r36_Default at hf
 cbv
 refine d_p hS hf (fun _=>c136 hM) ?_
 intro y1 hf; cbv
 refine d_br hS hf rfl ?_ ?_
 ·intro hf; cbv
  refine d_wk hS (e:=(eI .i64)) hf (by (try simp only [q]); repeat' constructor) ?_
  intro x2 hf; cbv
  cases hf; exact hR _ d_l
 intro hf; cbv
 refine d_b hS hf ?_ ?_
 ·intro hf; cbv
  refine d_callp hS hf (fun _=>c137 hM) d_le ?_
  intro y3 hf; cbv
  cases hf; exact hR _ (lp_eq rfl)
 intro hf; cbv
 refine d_b hS hf ?_ ?_
 ·intro hf; cbv
  refine d_callp hS hf (fun _=>c137 hM) d_le ?_
  intro y4 hf; cbv
  cases hf; exact hR _ (lp_eq rfl)
 intro hf; cbv
 refine d_b hS hf ?_ ?_
 ·intro hf; cbv
  cases hf; exact hR _ d_l
 intro hf; cbv
 refine d_b hS hf ?_ ?_
 ·intro hf; cbv
  refine d_mks hS hf d_e d_e ?_
  intro j5 hf; cbv
  refine d_wk hS (e:=(eI .i64)) hf (by (try simp only [q]); repeat' constructor) ?_
  intro x6 hf; cbv
  refine d_b hS hf ?_ ?_
  ·intro hf; cbv
   refine d_ix hS hf rfl rfl ?_
   intro j7 _ hf; cbv
   refine d_row hS hM (e:=(eI .i64)) hf d_e d_e ?_
   intro x8 hf; cbv
   cases hf; exact hR _ d_l
  intro hf; cbv
  cases hf; exact hR _ d_l
 intro hf; cbv
 cases hf; exact hR _ (by (try simp only [q]); repeat' constructor)
theorem c98 {M:EncM} (hM:M=mapE) {c:GChoice} {r:Bool} (hf:r36_Forced c=some r):Pv.Fn Tryz.prog glF 98 [.agg (eGChoice M c)] (fun u=>u=.sb r):=by
 refine fn_dec (T:=(tabc [4])) (tabcOK [4]) rfl wf Tryz.func98 rfl Tryz.call98 rfl ?_
 intro S R hS hR
 have q:=sf hM hS
 unfold r36_Forced at hf
 cbv
 refine d_cut hS [] [1,3,19] (fun s1=>⟨tpsL 0 54 [(1,.lv 0 0),(3,.si .i64 (S.len (M.m GOption (eGOption M) c.options))),(19,.sb s1)],[(0,some (.var false (eGChoice M c)))],1⟩) hf ?_ ?_
 ·intro Ik2 k2 hk2 hf; cbv
  refine d_p hS hf (fun _=>c136 hM) ?_
  intro y4 hf; cbv
  refine d_br hS hf rfl ?_ ?_
  ·intro hf; cbv
   exact d_x hk2 hf
  intro hf; cbv
  refine d_b hS hf ?_ ?_
  ·intro hf; cbv
   exact d_x hk2 hf
  intro hf; cbv
  exact d_x hk2 hf
 intro s1 hf; cbv
 refine d_br hS hf rfl ?_ ?_
 ·intro hf; cbv
  cases hf; exact hR _ d_l
 intro hf; cbv
 refine d_b hS hf ?_ ?_
 ·intro hf; cbv
  cases hf; exact hR _ d_l
 intro hf; cbv
 refine d_b hS hf ?_ ?_
 ·intro hf; cbv
  cases hf; exact hR _ d_l
 intro hf; cbv
 refine d_b hS hf ?_ ?_
 ·intro hf; cbv
  refine d_b hS hf ?_ ?_
  ·intro hf; cbv
   refine d_b hS hf ?_ ?_
   ·intro hf; cbv
    cases hf; exact hR _ (lp_eq rfl)
   intro hf; cbv
   cases hf; exact hR _ d_l
  intro hf; cbv
  cases hf; exact hR _ (lp_eq rfl)
 intro hf; cbv
 refine d_b hS hf ?_ ?_
 ·intro hf; cbv
  cases hf; exact hR _ d_l
 intro hf; cbv
 cases hf; exact hR _ (lp_eq rfl)
theorem c72 {M:EncM} (hM:M=mapE) {a:GCont} {b:GCont} {r:Bool} (hf:r26_SameCont a b=some r):Pv.Fn Tryz.prog glF 72 [.agg (eGCont M a),.agg (eGCont M b)] (fun u=>u=.sb r):=by
 refine fn_dec (T:=tab) tabOK rfl wf Tryz.func72 rfl Tryz.call72 rfl ?_
 intro S R hS hR
 have q:=sf hM hS
 unfold r26_SameCont at hf
 cbv
 refine d_b hS hf ?_ ?_
 ·intro hf; cbv
  refine d_b hS hf ?_ ?_
  ·intro hf; cbv
   refine d_b hS hf ?_ ?_
   ·intro hf; cbv
    refine d_b hS hf ?_ ?_
    ·intro hf; cbv
     refine d_p hS hf (fun _=>c25 hM) ?_
     intro y1 hf; cbv
     refine d_br hS hf rfl ?_ ?_
     ·intro hf; cbv
      refine d_p hS hf (fun _=>c126 hM) ?_
      intro y2 hf; cbv
      cases hf; exact hR _ (lp_eq rfl)
     intro hf; cbv
     cases hf; exact hR _ (lp_eq rfl)
    intro hf; cbv
    cases hf; exact hR _ (lp_eq rfl)
   intro hf; cbv
   cases hf; exact hR _ (lp_eq rfl)
  intro hf; cbv
  cases hf; exact hR _ (lp_eq rfl)
 intro hf; cbv
 cases hf; exact hR _ (lp_eq rfl)
theorem c54_0 {M:EncM} (hM:M=mapE) {s:List GObject} {r:Int} (hf:slices_IndexFunc_object s turn_fighting_1=some r):Pv.Fn Tryz.prog glF 54 [.sl 19 (M.m GObject (eGObject M) s) false,.fn 87 []] (fun u=>u=.si .i64 r):=by
 refine fn_dec (T:=tab) tabOK rfl wf Tryz.func54 rfl Tryz.call54 rfl ?_
 intro S R hS hR
 have q:=sf hM hS
 unfold slices_IndexFunc_object at hf
 cbv
 refine d_lp hS tabOK wf [] [0,1,7,8] (fun s1=>⟨tpsL 0 19 [(0,.sl 19 (M.m GObject (eGObject M) s) false),(1,.fn 87 []),(7,.si .i64 (S.len (M.m GObject (eGObject M) s))),(8,.si .i64 s1)],[],0⟩) hf ?_
 intro Ik2 k2 s1 hk2 hf e he; subst he
 unfold slices_IndexFunc_object_l1 at hf
 cbv
 refine d_b hS hf ?_ ?_
 ·intro hf; cbv
  refine d_idx hS hM hf rfl rfl ?_
  intro x4 hf; cbv
  refine d_p hS hf (fun _=>c87 hM) ?_
  intro y5 hf; cbv
  refine d_br hS hf rfl ?_ ?_
  ·intro hf; cbv
   cases hf; exact hR _ (lp_eq rfl)
  intro hf; cbv
  exact d_x hk2 hf
 intro hf; cbv
 cases hf; exact hR _ (lp_eq rfl)
theorem c173 {M:EncM} (hM:M=mapE) {x:Int} {y:Int} {r:Int} (hf:cmp_Compare_int x y=some r):Pv.Fn Tryz.prog glF 173 [.si .i64 x,.si .i64 y] (fun u=>u=.si .i64 r):=by
 refine fn_dec (T:=tab) tabOK rfl wf Tryz.func173 rfl Tryz.call173 rfl ?_
 intro S R hS hR
 have q:=sf hM hS
 unfold cmp_Compare_int at hf
 cbv
 refine d_p hS hf (fun _=>c208 hM) ?_
 intro y1 hf; cbv
 refine d_p hS hf (fun _=>c208 hM) ?_
 intro y2 hf; cbv
 refine d_br hS hf rfl ?_ ?_
 ·intro hf; cbv
  refine d_br hS hf rfl ?_ ?_
  ·intro hf; cbv
   cases hf; exact hR _ (lp_eq rfl)
  intro hf; cbv
  cases hf; exact hR _ (lp_eq rfl)
 intro hf; cbv
 refine d_br hS hf rfl ?_ ?_
 ·intro hf; cbv
  cases hf; exact hR _ (lp_eq rfl)
 intro hf; cbv
 refine d_b hS hf ?_ ?_
 ·intro hf; cbv
  cases hf; exact hR _ (lp_eq rfl)
 intro hf; cbv
 refine d_b hS hf ?_ ?_
 ·intro hf; cbv
  cases hf; exact hR _ (lp_eq rfl)
 intro hf; cbv
 cases hf; exact hR _ (lp_eq rfl)
theorem c223 {M:EncM} (hM:M=mapE) {op:Int} {field:Int} {r:Bool} (hf:r17_uses op field=some r):Pv.Fn Tryz.prog glF 223 [.si .i64 op,.si .u8 field] (fun u=>u=.sb r):=by
 refine fn_dec (T:=tab) tabOK rfl wf Tryz.func223 rfl Tryz.call223 rfl ?_
 intro S R hS hR
 have q:=sf hM hS
 unfold r17_uses at hf
 cbv
 refine d_p hS hf (fun _=>c246 hM) ?_
 intro y1 hf; cbv
 refine d_lp hS tabOK wf [] [1,5,6] (fun s2=>⟨tpsL 0 20 [(1,.si .u8 field),(5,.str y1),(6,.si .i64 s2)],[],0⟩) hf ?_
 intro Ik3 k3 s2 hk3 hf e he; subst he
 unfold r17_uses_l1 at hf
 cbv
 refine d_b hS hf ?_ ?_
 ·intro hf; cbv
  refine d_six hS hf rfl rfl ?_
  intro x5 hf; cbv
  refine d_b hS hf ?_ ?_
  ·intro hf; cbv
   cases hf; exact hR _ (lp_eq rfl)
  intro hf; cbv
  exact d_x hk3 hf
 intro hf; cbv
 cases hf; exact hR _ (lp_eq rfl)
theorem c157 {M:EncM} (hM:M=mapE) {p:GPrice} {r:Bool} (hf:r20_price p=some r):Pv.Fn Tryz.prog glF 157 [.agg (eGPrice M p)] (fun u=>u=.sb r):=by
 refine fn_dec (T:=tab) tabOK rfl wf Tryz.func157 rfl Tryz.call157 rfl ?_
 intro S R hS hR
 have q:=sf hM hS
 unfold r20_price at hf
 cbv
 refine d_p hS hf (fun _=>c102 hM) ?_
 intro y1 hf; cbv
 refine d_br hS hf rfl ?_ ?_
 ·intro hf; cbv
  refine d_b hS hf ?_ ?_
  ·intro hf; cbv
   refine d_b hS hf ?_ ?_
   ·intro hf; cbv
    cases hf; exact hR _ d_l
   intro hf; cbv
   cases hf; exact hR _ (lp_eq rfl)
  intro hf; cbv
  cases hf; exact hR _ (lp_eq rfl)
 intro hf; cbv
 cases hf; exact hR _ (lp_eq rfl)
theorem c194 {M:EncM} (hM:M=mapE) {when:Int} {r:Bool} (hf:r18_hasFilter when=some r):Pv.Fn Tryz.prog glF 194 [.si .i64 when] (fun u=>u=.sb r):=by
 refine fn_dec (T:=tab) tabOK rfl wf Tryz.func194 rfl Tryz.call194 rfl ?_
 intro S R hS hR
 have q:=sf hM hS
 unfold r18_hasFilter at hf
 cbv
 refine d_p hS hf (fun _=>c192 hM) ?_
 intro y1 hf; cbv
 refine d_b hS hf ?_ ?_
 ·intro hf; cbv
  refine d_p hS hf (fun _=>c193 hM) ?_
  intro y2 hf; cbv
  refine d_b hS hf ?_ ?_
  ·intro hf; cbv
   cases hf; exact hR _ (lp_eq rfl)
  intro hf; cbv
  cases hf; exact hR _ d_l
 intro hf; cbv
 cases hf; exact hR _ (lp_eq rfl)
theorem c233 {M:EncM} (hM:M=mapE) {i:Int} {r:ByteArray} (hf:r11_Name i=some r):Pv.Fn Tryz.prog glF 233 [.si .i64 i] (fun u=>u=.str r):=by
 refine fn_dec (T:=tab) tabOK rfl wf Tryz.func233 rfl Tryz.call233 rfl ?_
 intro S R hS hR
 have q:=sf hM hS
 unfold r11_Name at hf
 cbv
 refine d_b hS hf ?_ ?_
 ·intro hf; cbv
  cases hf; exact hR _ (lp_eq rfl)
 intro hf; cbv
 refine d_b hS hf ?_ ?_
 ·intro hf; cbv
  cases hf; exact hR _ (lp_eq rfl)
 intro hf; cbv
 refine d_p hS hf (fun _=>c250 hM) ?_
 intro y1 hf; cbv
 refine d_idx hS hM hf rfl rfl ?_
 intro x2 hf; cbv
 cases hf; exact hR _ (lp_eq rfl)
theorem c206 {M:EncM} (hM:M=mapE) {n:Int} {r:ByteArray} (hf:r01_Text n=some r):Pv.Fn Tryz.prog glF 206 [.si .i64 n] (fun u=>u=.str r):=by
 refine fn_dec (T:=tab) tabOK rfl wf Tryz.func206 rfl Tryz.call206 rfl ?_
 intro S R hS hR
 have q:=sf hM hS
 unfold r01_Text at hf
 cbv
 refine d_b hS hf ?_ ?_
 ·intro hf; cbv
  refine d_callp hS hf (fun _=>c243 hM) d_le ?_
  intro y1 hf; cbv
  refine d_cat hS hf rfl rfl ?_
  intro x2 hf; cbv
  cases hf; exact hR _ (lp_eq rfl)
 intro hf; cbv
 refine d_callp hS hf (fun _=>c243 hM) d_le ?_
 intro y3 hf; cbv
 cases hf; exact hR _ (lp_eq rfl)
theorem c57 {M:EncM} (hM:M=mapE) {s:GState} {id:Int} {r:GObject × Bool} (hf:r25_Find s id=some r):Pv.Fn Tryz.prog glF 57 [.agg (eGState M s),.si .i64 id] (fun u=>u=.tup [.agg (eGObject M r.1),.sb r.2]):=by
 refine fn_dec (T:=tab) tabOK rfl wf Tryz.func57 rfl Tryz.call57 rfl ?_
 intro S R hS hR
 have q:=sf hM hS
 unfold r25_Find at hf
 cbv
 refine d_p hS hf (fun _=>c111 hM) ?_
 intro y1 hf; cbv
 refine d_b hS hf ?_ ?_
 ·intro hf; cbv
  cases hf; exact hR _ (lp_eq rfl)
 intro hf; cbv
 refine d_idx hS hM hf rfl rfl ?_
 intro x2 hf; cbv
 cases hf; exact hR _ (lp_eq rfl)
theorem c27 {M:EncM} (hM:M=mapE) {step:Int} {r:Bool} (hf:turn_Passes step=some r):Pv.Fn Tryz.prog glF 27 [.si .i64 step] (fun u=>u=.sb r):=by
 refine fn_dec (T:=tab) tabOK rfl wf Tryz.func27 rfl Tryz.call27 rfl ?_
 intro S R hS hR
 have q:=sf hM hS
 unfold turn_Passes at hf
 cbv
 refine d_b hS hf ?_ ?_
 ·intro hf; cbv
  cases hf; exact hR _ (lp_eq rfl)
 intro hf; cbv
 refine d_b hS hf ?_ ?_
 ·intro hf; cbv
  cases hf; exact hR _ (lp_eq rfl)
 intro hf; cbv
 refine d_p hS hf (fun _=>c26 hM) ?_
 intro y1 hf; cbv
 cases hf; exact hR _ d_l
theorem c47 {M:EncM} (hM:M=mapE) {k:GR36Asker} {r:GChoice × Bool} (hf:r36_Asker_Pending k=some r):Pv.Fn Tryz.prog glF 47 [.pp (eGR36Asker M k)] (fun u=>u=.tup [.agg (eGChoice M r.1),.sb r.2]):=by
 refine fn_dec (T:=tab) tabOK rfl wf Tryz.func47 rfl Tryz.call47 rfl ?_
 intro S R hS hR
 have q:=sf hM hS
 unfold r36_Asker_Pending at hf
 cbv
 refine d_b hS hf ?_ ?_
 ·intro hf; cbv
  cases hf; exact hR _ d_st
 intro hf; cbv
 refine d_p hS hf (fun _=>c100 hM) ?_
 intro y1 hf; cbv
 cases hf; exact hR _ (lp_eq rfl)
theorem c46 {M:EncM} (hM:M=mapE) {k:GAskAsker} {r:GChoice × Bool} (hf:ask_Asker_Pending k=some r):Pv.Fn Tryz.prog glF 46 [.pp (eGAskAsker M k)] (fun u=>u=.tup [.agg (eGChoice M r.1),.sb r.2]):=by
 refine fn_dec (T:=tab) tabOK rfl wf Tryz.func46 rfl Tryz.call46 rfl ?_
 intro S R hS hR
 have q:=sf hM hS
 unfold ask_Asker_Pending at hf
 cbv
 refine d_b hS hf ?_ ?_
 ·intro hf; cbv
  cases hf; exact hR _ d_st
 intro hf; cbv
 refine d_p hS hf (fun _=>c94 hM) ?_
 intro y1 hf; cbv
 cases hf; exact hR _ (lp_eq rfl)
theorem c74 {M:EncM} (hM:M=mapE) {p:GPlayer} {r:GPlayer} (hf:zone_copyPlayer p=some r):Pv.Fn Tryz.prog glF 74 [.agg (eGPlayer M p)] (fun u=>u=.agg (eGPlayer M r)):=by
 refine fn_dec (T:=tab) tabOK rfl wf Tryz.func74 rfl Tryz.call74 rfl ?_
 intro S R hS hR
 have q:=sf hM hS
 unfold zone_copyPlayer at hf
 cbv
 refine d_p hS hf (fun _=>c76 hM) ?_
 intro y1 hf; cbv
 refine d_p hS hf (fun _=>c76 hM) ?_
 intro y2 hf; cbv
 refine d_p hS hf (fun _=>c76 hM) ?_
 intro y3 hf; cbv
 cases hf; exact hR _ (lp_eq rfl)
theorem c84 {M:EncM} (hM:M=mapE) {s:List Int} {v:Int} {r:Bool} (hf:slices_Contains_int s v=some r):Pv.Fn Tryz.prog glF 84 [.sl 1 (M.m Int (eI .i64) s) false,.si .i64 v] (fun u=>u=.sb r):=by
 refine fn_dec (T:=tab) tabOK rfl wf Tryz.func84 rfl Tryz.call84 rfl ?_
 intro S R hS hR
 have q:=sf hM hS
 unfold slices_Contains_int at hf
 cbv
 refine d_p hS hf (fun _=>c129 hM) ?_
 intro y1 hf; cbv
 cases hf; exact hR _ d_l
theorem c174 {M:EncM} (hM:M=mapE) {l:List Int} {n:Int} {r:Int} (hf:idset_Index l n=some r):Pv.Fn Tryz.prog glF 174 [.sl 1 (M.m Int (eI .i64) l) false,.si .i64 n] (fun u=>u=.si .i64 r):=by
 refine fn_dec (T:=tab) tabOK rfl wf Tryz.func174 rfl Tryz.call174 rfl ?_
 intro S R hS hR
 have q:=sf hM hS
 unfold idset_Index at hf
 cbv
 refine d_p hS hf (fun _=>c129 hM) ?_
 intro y1 hf; cbv
 cases hf; exact hR _ (lp_eq rfl)
theorem c66 {M:EncM} (hM:M=mapE) {s:GState} {p:Int} {r:Bool} (hf:r26_player s p=some r):Pv.Fn Tryz.prog glF 66 [.agg (eGState M s),.si .i64 p] (fun u=>u=.sb r):=by
 refine fn_dec (T:=tab) tabOK rfl wf Tryz.func66 rfl Tryz.call66 rfl ?_
 intro S R hS hR
 have q:=sf hM hS
 unfold r26_player at hf
 cbv
 refine d_callp hS hf (fun _=>c64 hM) d_le ?_
 intro y1 hf; cbv
 cases hf; exact hR _ (lp_eq rfl)
end Go.Proofs.YtddcpnlflncahaaGreat
