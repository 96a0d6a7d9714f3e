import Derived.Test.YtddcpnlflncahaaGreatC07
set_option linter.all false
namespace Go.Proofs.YtddcpnlflncahaaGreat
open Go Go.Pv
set_option maxRecDepth 100000
set_option maxHeartbeats 2000000
theorem c192 {M:EncM} (hM:M=mapE) {when:Int} {r:ByteArray} (hf:r18_word when=some r):Pv.Fn Tryz.prog glF 192 [.si .i64 when] (fun u=>u=.str r):=by
 refine fn_dec (T:=tab) tabOK rfl wf Tryz.func192 rfl Tryz.call192 rfl ?_
 intro S R hS hR
 have q:=sf hM hS
 unfold r18_word at hf
 cbv
 refine d_b hS hf ?_ ?_
 ·intro hf; cbv
  cases hf; exact hR _ (lp_eq rfl)
 intro hf; cbv
 refine d_b hS hf ?_ ?_
 ·intro hf; cbv
  cases hf; exact hR _ (lp_eq rfl)
 intro hf; cbv
 refine d_b hS hf ?_ ?_
 ·intro hf; cbv
  cases hf; exact hR _ (lp_eq rfl)
 intro hf; cbv
 refine d_b hS hf ?_ ?_
 ·intro hf; cbv
  cases hf; exact hR _ (lp_eq rfl)
 intro hf; cbv
 refine d_b hS hf ?_ ?_
 ·intro hf; cbv
  cases hf; exact hR _ (lp_eq rfl)
 intro hf; cbv
 refine d_b hS hf ?_ ?_
 ·intro hf; cbv
  cases hf; exact hR _ (lp_eq rfl)
 intro hf; cbv
 refine d_b hS hf ?_ ?_
 ·intro hf; cbv
  cases hf; exact hR _ (lp_eq rfl)
 intro hf; cbv
 refine d_b hS hf ?_ ?_
 ·intro hf; cbv
  cases hf; exact hR _ (lp_eq rfl)
 intro hf; cbv
 refine d_b hS hf ?_ ?_
 ·intro hf; cbv
  cases hf; exact hR _ (lp_eq rfl)
 intro hf; cbv
 refine d_b hS hf ?_ ?_
 ·intro hf; cbv
  cases hf; exact hR _ (lp_eq rfl)
 intro hf; cbv
 refine d_b hS hf ?_ ?_
 ·intro hf; cbv
  cases hf; exact hR _ (lp_eq rfl)
 intro hf; cbv
 refine d_b hS hf ?_ ?_
 ·intro hf; cbv
  cases hf; exact hR _ (lp_eq rfl)
 intro hf; cbv
 refine d_b hS hf ?_ ?_
 ·intro hf; cbv
  cases hf; exact hR _ (lp_eq rfl)
 intro hf; cbv
 refine d_b hS hf ?_ ?_
 ·intro hf; cbv
  cases hf; exact hR _ (lp_eq rfl)
 intro hf; cbv
 cases hf; exact hR _ (lp_eq rfl)
theorem c135 {M:EncM} (hM:M=mapE) {c:GChoice} {a:List Int} {r:Bool} (hf:ask_assigned c a=some r):Pv.Fn Tryz.prog glF 135 [.agg (eGChoice M c),.sl 1 (M.m Int (eI .i64) a) false] (fun u=>u=.sb r):=by
 refine fn_dec (T:=(tabc [10])) (tabcOK [10]) rfl wf Tryz.func135 rfl Tryz.call135 rfl ?_
 intro S R hS hR
 have q:=sf hM hS
 unfold ask_assigned at hf
 cbv
 refine d_lp hS (tabcOK [10]) wf [] [1,2,5,8,9,10] (fun s1=>⟨tpsL 0 36 [(1,.sl 1 (M.m Int (eI .i64) a) false),(2,.lv 0 0),(5,.si .i64 s1.1),(8,.sl 1 (M.m Int (eI .i64) a) false),(9,.si .i64 (S.len (M.m Int (eI .i64) a))),(10,.si .i64 s1.2)],[(0,some (.var false (eGChoice M c)))],1⟩) hf ?_
 intro Ik2 k2 s1 hk2 hf e he; subst he
 unfold ask_assigned_l1 at hf
 cbv
 refine d_b hS hf ?_ ?_
 ·intro hf; cbv
  refine d_idx hS hM hf rfl rfl ?_
  intro x4 hf; cbv
  refine d_cut hS [] [1,2,5,7,8,9,10,19] (fun s5=>⟨tpsL 0 36 [(1,.sl 1 (M.m Int (eI .i64) a) false),(2,.lv 0 0),(5,.si .i64 s1.1),(7,.si .i64 x4),(8,.sl 1 (M.m Int (eI .i64) a) false),(9,.si .i64 (S.len (M.m Int (eI .i64) a))),(10,.si .i64 s1.2),(19,.sb s5)],[(0,some (.var false (eGChoice M c)))],1⟩) hf ?_ ?_
  ·intro Ik6 k6 hk6 hf; cbv
   refine d_b hS hf ?_ ?_
   ·intro hf; cbv
    exact d_x hk6 hf
   intro hf; cbv
   exact d_x hk6 hf
  intro s5 hf; cbv
  refine d_br hS hf rfl ?_ ?_
  ·intro hf; cbv
   cases hf; exact hR _ (lp_eq rfl)
  intro hf; cbv
  exact d_x hk2 hf
 intro hf; cbv
 refine d_b hS hf ?_ ?_
 ·intro hf; cbv
  cases hf; exact hR _ d_l
 intro hf; cbv
 cases hf; exact hR _ (lp_eq rfl)
theorem c167 {M:EncM} (hM:M=mapE) {s:GState} {id:Int} {r:Int} (hf:r26_spells s id=some r):Pv.Fn Tryz.prog glF 167 [.agg (eGState M s),.si .i64 id] (fun u=>u=.si .i64 r):=by
 refine fn_dec (T:=(tabc [9,10])) (tabcOK [9,10]) rfl wf Tryz.func167 rfl Tryz.call167 rfl ?_
 intro S R hS hR
 have q:=sf hM hS
 unfold r26_spells at hf
 cbv
 refine d_lp hS (tabcOK [9,10]) wf [] [1,2,5,6] (fun s1=>⟨tpsL 0 34 [(1,.si .i64 id),(2,.lv 0 0),(5,.si .i64 s1.1),(6,.si .i64 s1.2)],[(0,some (.var false (eGState M s)))],1⟩) hf ?_
 intro Ik2 k2 s1 hk2 hf e he; subst he
 unfold r26_spells_l1 at hf
 cbv
 refine d_b hS hf ?_ ?_
 ·intro hf; cbv
  refine d_cut hS [] [1,2,5,6] (fun s4=>⟨tpsL 0 34 [(1,.si .i64 id),(2,.lv 0 0),(5,.si .i64 s4),(6,.si .i64 s1.2)],[(0,some (.var false (eGState M s)))],1⟩) hf ?_ ?_
  ·intro Ik5 k5 hk5 hf; cbv
   refine d_cut hS [] [1,2,5,6,30] (fun s7=>⟨tpsL 0 34 [(1,.si .i64 id),(2,.lv 0 0),(5,.si .i64 s1.1),(6,.si .i64 s1.2),(30,.sb s7)],[(0,some (.var false (eGState M s)))],1⟩) hf ?_ ?_
   ·intro Ik8 k8 hk8 hf; cbv
    refine d_idx hS hM hf rfl rfl ?_
    intro x10 hf; cbv
    refine d_b hS hf ?_ ?_
    ·intro hf; cbv
     refine d_idx hS hM hf rfl rfl ?_
     intro x11 hf; cbv
     exact d_x hk8 hf
    intro hf; cbv
    exact d_x hk8 hf
   intro s7 hf; cbv
   refine d_br hS hf rfl ?_ ?_
   ·intro hf; cbv
    exact d_x hk5 hf
   intro hf; cbv
   exact d_x hk5 hf
  intro s4 hf; cbv
  exact d_x hk2 hf
 intro hf; cbv
 cases hf; exact hR _ (lp_eq rfl)
theorem c242 {M:EncM} (hM:M=mapE) {l:List ByteArray} {pby:ByteArray} {r:ByteArray} (hf:r02_Join l pby=some r):Pv.Fn Tryz.prog glF 242 [.sl 1 (M.m ByteArray eS l) false,.str pby] (fun u=>u=.str r):=by
 refine fn_dec (T:=(tabc [9,15])) (tabcOK [9,15]) rfl wf Tryz.func242 rfl Tryz.call242 rfl ?_
 intro S R hS hR
 have q:=sf hM hS
 unfold r02_Join at hf
 cbv
 refine d_lp hS (tabcOK [9,15]) wf [] [0,1,5,6] (fun s1=>⟨tpsL 0 25 [(0,.sl 1 (M.m ByteArray eS l) false),(1,.str pby),(5,.str s1.1),(6,.si .i64 s1.2)],[],0⟩) hf ?_
 intro Ik2 k2 s1 hk2 hf e he; subst he
 unfold r02_Join_l1 at hf
 cbv
 refine d_b hS hf ?_ ?_
 ·intro hf; cbv
  refine d_cut hS [] [0,1,5,6] (fun s4=>⟨tpsL 0 25 [(0,.sl 1 (M.m ByteArray eS l) false),(1,.str pby),(5,.str s4),(6,.si .i64 s1.2)],[],0⟩) hf ?_ ?_
  ·intro Ik5 k5 hk5 hf; cbv
   refine d_cut hS [] [0,1,5,6] (fun s7=>⟨tpsL 0 25 [(0,.sl 1 (M.m ByteArray eS l) false),(1,.str pby),(5,.str s7),(6,.si .i64 s1.2)],[],0⟩) hf ?_ ?_
   ·intro Ik8 k8 hk8 hf; cbv
    refine d_b hS hf ?_ ?_
    ·intro hf; cbv
     refine d_cat hS hf rfl rfl ?_
     intro x10 hf; cbv
     exact d_x hk8 hf
    intro hf; cbv
    exact d_x hk8 hf
   intro s7 hf; cbv
   refine d_idx hS hM hf rfl rfl ?_
   intro x11 hf; cbv
   refine d_cat hS hf rfl rfl ?_
   intro x12 hf; cbv
   exact d_x hk5 hf
  intro s4 hf; cbv
  exact d_x hk2 hf
 intro hf; cbv
 cases hf; exact hR _ (lp_eq rfl)
theorem c92 {M:EncM} (hM:M=mapE) {c:GChoice} {r:Bool} (hf:ask_Forced c=some r):Pv.Fn Tryz.prog glF 92 [.agg (eGChoice M c)] (fun u=>u=.sb r):=by
 refine fn_dec (T:=tab) tabOK rfl wf Tryz.func92 rfl Tryz.call92 rfl ?_
 intro S R hS hR
 have q:=sf hM hS
 unfold ask_Forced at hf
 cbv
 refine d_b hS hf ?_ ?_
 ·intro hf; cbv
  cases hf; exact hR _ d_l
 intro hf; cbv
 refine d_b hS hf ?_ ?_
 ·intro hf; cbv
  cases hf; exact hR _ d_l
 intro hf; cbv
 refine d_b hS hf ?_ ?_
 ·intro hf; cbv
  cases hf; exact hR _ d_l
 intro hf; cbv
 refine d_b hS hf ?_ ?_
 ·intro hf; cbv
  cases hf; exact hR _ d_l
 intro hf; cbv
 refine d_b hS hf ?_ ?_
 ·intro hf; cbv
  cases hf; exact hR _ d_l
 intro hf; cbv
 refine d_b hS hf ?_ ?_
 ·intro hf; cbv
  cases hf; exact hR _ d_l
 intro hf; cbv
 refine d_b hS hf ?_ ?_
 ·intro hf; cbv
  cases hf; exact hR _ d_l
 intro hf; cbv
 refine d_b hS hf ?_ ?_
 ·intro hf; cbv
  cases hf; exact hR _ d_l
 intro hf; cbv
 refine d_b hS hf ?_ ?_
 ·intro hf; cbv
  cases hf; exact hR _ d_l
 intro hf; cbv
 refine d_b hS hf ?_ ?_
 ·intro hf; cbv
  refine d_b hS hf ?_ ?_
  ·intro hf; cbv
   refine d_b hS hf ?_ ?_
   ·intro hf; cbv
    cases hf; exact hR _ (lp_eq rfl)
   intro hf; cbv
   cases hf; exact hR _ d_l
  intro hf; cbv
  cases hf; exact hR _ (lp_eq rfl)
 intro hf; cbv
 refine d_b hS hf ?_ ?_
 ·intro hf; cbv
  cases hf; exact hR _ d_l
 intro hf; cbv
 cases hf; exact hR _ (lp_eq rfl)
theorem c139 {M:EncM} (hM:M=mapE) {c:GChoice} {a:List Int} {r:Bool} (hf:r36_apart c a=some r):Pv.Fn Tryz.prog glF 139 [.agg (eGChoice M c),.sl 1 (M.m Int (eI .i64) a) false] (fun u=>u=.sb r):=by
 refine fn_dec (T:=tab) tabOK rfl wf Tryz.func139 rfl Tryz.call139 rfl ?_
 intro S R hS hR
 have q:=sf hM hS
 unfold r36_apart at hf
 cbv
 refine d_lp hS tabOK wf [] [1,2,5] (fun s1=>⟨tpsL 0 37 [(1,.sl 1 (M.m Int (eI .i64) a) false),(2,.lv 0 0),(5,.si .i64 s1)],[(0,some (.var false (eGChoice M c)))],1⟩) hf ?_
 intro Ik2 k2 s1 hk2 hf e he; subst he
 unfold r36_apart_l2 at hf
 cbv
 refine d_b hS hf ?_ ?_
 ·intro hf; cbv
  refine d_lp hS tabOK wf [] [1,2,5,6] (fun s4=>⟨tpsL 0 37 [(1,.sl 1 (M.m Int (eI .i64) a) false),(2,.lv 0 0),(5,.si .i64 s1),(6,.si .i64 s4)],[(0,some (.var false (eGChoice M c)))],1⟩) hf ?_
  intro Ik5 k5 s4 hk5 hf e he; subst he
  unfold r36_apart_l1 at hf
  cbv
  refine d_b hS hf ?_ ?_
  ·intro hf; cbv
   refine d_o hS ?_; cbv
   refine d_idx hS hM hf rfl rfl ?_
   intro x7 hf; cbv
   refine d_idx hS hM hf rfl rfl ?_
   intro x8 hf; cbv
   refine d_idx hS hM hf rfl rfl ?_
   intro x9 hf; cbv
   refine d_idx hS hM hf rfl rfl ?_
   intro x10 hf; cbv
   refine d_b hS hf ?_ ?_
   ·intro hf; cbv
    cases hf; exact hR _ (lp_eq rfl)
   intro hf; cbv
   exact d_x hk5 hf
  intro hf; cbv
  exact d_x hk2 hf
 intro hf; cbv
 cases hf; exact hR _ (lp_eq rfl)
theorem c83 {M:EncM} (hM:M=mapE) {s:GState} {r:List Int} (hf:state_Living s=some r):Pv.Fn Tryz.prog glF 83 [.agg (eGState M s)] (fun u=>u=.sl 1 (M.m Int (eI .i64) r) false):=by
 refine fn_dec (T:=(tabc [15])) (tabcOK [15]) rfl wf Tryz.func83 rfl Tryz.call83 rfl ?_
 intro S R hS hR
 have q:=sf hM hS
 unfold state_Living at hf
 cbv
 refine d_lp hS (tabcOK [15]) wf [.tO 3 1] [3,7,8,9] (fun s1=>⟨tpsL 0 23 [(3,.os 0 0 (S.lenN (M.m Int (eI .i64) s1.2))),(7,.sl 14 (M.m GPlayer (eGPlayer M) s.players) false),(8,.si .i64 (S.len (M.m GPlayer (eGPlayer M) s.players))),(9,.si .i64 s1.1)],[(0,some (.arr false 1 (M.m Int (eI .i64) s1.2)))],1⟩) hf ?_
 intro Ik2 k2 s1 hk2 hf e he; subst he
 unfold state_Living_l1 at hf
 cbv
 refine d_b hS hf ?_ ?_
 ·intro hf; cbv
  refine d_cut hS [.tO 3 1] [3,7,8,9] (fun s4=>⟨tpsL 0 23 [(3,.os 0 0 (S.lenN (M.m Int (eI .i64) s4))),(7,.sl 14 (M.m GPlayer (eGPlayer M) s.players) false),(8,.si .i64 (S.len (M.m GPlayer (eGPlayer M) s.players))),(9,.si .i64 s1.1)],[(0,some (.arr false 1 (M.m Int (eI .i64) s4)))],1⟩) hf ?_ ?_
  ·intro Ik5 k5 hk5 hf; cbv
   refine d_idx hS hM hf rfl rfl ?_
   intro x7 hf; cbv
   refine d_b hS hf ?_ ?_
   ·intro hf; cbv
    refine d_room hS hf d_e ?_
    intro hf; cbv
    exact d_x hk5 hf
   intro hf; cbv
   exact d_x hk5 hf
  intro s4 hf; cbv
  exact d_x hk2 hf
 intro hf; cbv
 cases hf; exact hR _ d_l
theorem c200 {M:EncM} (hM:M=mapE) {m:GMod} {r:GMod} (hf:r15_used m=some r):Pv.Fn Tryz.prog glF 200 [.agg (eGMod M m)] (fun u=>u=.agg (eGMod M r)):=by
 refine fn_dec (T:=tab) tabOK rfl wf Tryz.func200 rfl Tryz.call200 rfl ?_
 intro S R hS hR
 have q:=sf hM hS
 unfold r15_used at hf
 cbv
 refine d_b hS hf ?_ ?_
 ·intro hf; cbv
  cases hf; exact hR _ (lp_eq rfl)
 intro hf; cbv
 refine d_b hS hf ?_ ?_
 ·intro hf; cbv
  cases hf; exact hR _ (lp_eq rfl)
 intro hf; cbv
 refine d_b hS hf ?_ ?_
 ·intro hf; cbv
  cases hf; exact hR _ (lp_eq rfl)
 intro hf; cbv
 refine d_b hS hf ?_ ?_
 ·intro hf; cbv
  cases hf; exact hR _ (lp_eq rfl)
 intro hf; cbv
 refine d_b hS hf ?_ ?_
 ·intro hf; cbv
  cases hf; exact hR _ (lp_eq rfl)
 intro hf; cbv
 refine d_b hS hf ?_ ?_
 ·intro hf; cbv
  cases hf; exact hR _ (lp_eq rfl)
 intro hf; cbv
 refine d_b hS hf ?_ ?_
 ·intro hf; cbv
  cases hf; exact hR _ (lp_eq rfl)
 intro hf; cbv
 refine d_b hS hf ?_ ?_
 ·intro hf; cbv
  cases hf; exact hR _ (lp_eq rfl)
 intro hf; cbv
 refine d_b hS hf ?_ ?_
 ·intro hf; cbv
  cases hf; exact hR _ (lp_eq rfl)
 intro hf; cbv
 refine d_b hS hf ?_ ?_
 ·intro hf; cbv
  cases hf; exact hR _ (lp_eq rfl)
 intro hf; cbv
 refine d_b hS hf ?_ ?_
 ·intro hf; cbv
  cases hf; exact hR _ (lp_eq rfl)
 intro hf; cbv
 cases hf; exact hR _ (lp_eq rfl)
theorem c131 {M:EncM} (hM:M=mapE) {s:GState} {r:List Int} (hf:r26_Living s=some r):Pv.Fn Tryz.prog glF 131 [.agg (eGState M s)] (fun u=>u=.sl 1 (M.m Int (eI .i64) r) false):=by
 refine fn_dec (T:=(tabc [9])) (tabcOK [9]) rfl wf Tryz.func131 rfl Tryz.call131 rfl ?_
 intro S R hS hR
 have q:=sf hM hS
 unfold r26_Living at hf
 cbv
 refine d_lp hS (tabcOK [9]) wf [.tO 3 1] [1,3,4] (fun s1=>⟨tpsL 0 24 [(1,.lv 0 0),(3,.os 1 0 (S.lenN (M.m Int (eI .i64) s1.2))),(4,.si .i64 s1.1)],[(0,some (.var false (eGState M s))),(1,some (.arr false 1 (M.m Int (eI .i64) s1.2)))],2⟩) hf ?_
 intro Ik2 k2 s1 hk2 hf e he; subst he
 unfold r26_Living_l1 at hf
 cbv
 refine d_b hS hf ?_ ?_
 ·intro hf; cbv
  refine d_cut hS [.tO 3 1] [1,3,4] (fun s4=>⟨tpsL 0 24 [(1,.lv 0 0),(3,.os 1 0 (S.lenN (M.m Int (eI .i64) s4))),(4,.si .i64 s1.1)],[(0,some (.var false (eGState M s))),(1,some (.arr false 1 (M.m Int (eI .i64) s4)))],2⟩) hf ?_ ?_
  ·intro Ik5 k5 hk5 hf; cbv
   refine d_idx hS hM hf rfl rfl ?_
   intro x7 hf; cbv
   refine d_b hS hf ?_ ?_
   ·intro hf; cbv
    refine d_room hS hf d_e ?_
    intro hf; cbv
    exact d_x hk5 hf
   intro hf; cbv
   exact d_x hk5 hf
  intro s4 hf; cbv
  exact d_x hk2 hf
 intro hf; cbv
 cases hf; exact hR _ d_l
theorem c118 {M:EncM} (hM:M=mapE) {l:List GCard} {name:ByteArray} {r:Bool} (hf:r22_token l name=some r):Pv.Fn Tryz.prog glF 118 [.sl 17 (M.m GCard (eGCard M) l) false,.str name] (fun u=>u=.sb r):=by
 refine fn_dec (T:=(tabc [8])) (tabcOK [8]) rfl wf Tryz.func118 rfl Tryz.call118 rfl ?_
 intro S R hS hR
 have q:=sf hM hS
 unfold r22_token at hf
 cbv
 refine d_lp hS (tabcOK [8]) wf [] [0,1,5] (fun s1=>⟨tpsL 0 26 [(0,.sl 17 (M.m GCard (eGCard M) l) false),(1,.str name),(5,.si .i64 s1)],[],0⟩) hf ?_
 intro Ik2 k2 s1 hk2 hf e he; subst he
 unfold r22_token_l1 at hf
 cbv
 refine d_b hS hf ?_ ?_
 ·intro hf; cbv
  refine d_cut hS [] [0,1,5,25] (fun s4=>⟨tpsL 0 26 [(0,.sl 17 (M.m GCard (eGCard M) l) false),(1,.str name),(5,.si .i64 s1),(25,.sb s4)],[],0⟩) hf ?_ ?_
  ·intro Ik5 k5 hk5 hf; cbv
   refine d_idx hS hM hf rfl rfl ?_
   intro x7 hf; cbv
   refine d_b hS hf ?_ ?_
   ·intro hf; cbv
    refine d_idx hS hM hf rfl rfl ?_
    intro x8 hf; cbv
    exact d_x hk5 hf
   intro hf; cbv
   exact d_x hk5 hf
  intro s4 hf; cbv
  refine d_br hS hf rfl ?_ ?_
  ·intro hf; cbv
   cases hf; exact hR _ (lp_eq rfl)
  intro hf; cbv
  exact d_x hk2 hf
 intro hf; cbv
 cases hf; exact hR _ (lp_eq rfl)
theorem c196 {M:EncM} (hM:M=mapE) {pr:GReplace} {r:Bool} (hf:r19_plain pr=some r):Pv.Fn Tryz.prog glF 196 [.agg (eGReplace M pr)] (fun u=>u=.sb r):=by
 refine fn_dec (T:=(tabc [2,6])) (tabcOK [2,6]) rfl wf Tryz.func196 rfl Tryz.call196 rfl ?_
 intro S R hS hR
 have q:=sf hM hS
 unfold r19_plain at hf
 cbv
 refine d_cut hS [] [1,10] (fun s1=>⟨tpsL 0 30 [(1,.lv 0 0),(10,.sb s1)],[(0,some (.var false (eGReplace M pr)))],1⟩) hf ?_ ?_
 ·intro Ik2 k2 hk2 hf; cbv
  refine d_b hS hf ?_ ?_
  ·intro hf; cbv
   exact d_x hk2 hf
  intro hf; cbv
  exact d_x hk2 hf
 intro s1 hf; cbv
 refine d_br hS hf rfl ?_ ?_
 ·intro hf; cbv
  cases hf; exact hR _ (lp_eq rfl)
 intro hf; cbv
 refine d_cut hS [] [1,18] (fun s4=>⟨tpsL 0 30 [(1,.lv 0 0),(18,.sb s4)],[(0,some (.var false (eGReplace M pr)))],1⟩) hf ?_ ?_
 ·intro Ik5 k5 hk5 hf; cbv
  refine d_b hS hf ?_ ?_
  ·intro hf; cbv
   exact d_x hk5 hf
  intro hf; cbv
  exact d_x hk5 hf
 intro s4 hf; cbv
 refine d_br hS hf rfl ?_ ?_
 ·intro hf; cbv
  refine d_b hS hf ?_ ?_
  ·intro hf; cbv
   cases hf; exact hR _ d_l
  intro hf; cbv
  cases hf; exact hR _ (lp_eq rfl)
 intro hf; cbv
 cases hf; exact hR _ d_l
theorem c34 {M:EncM} (hM:M=mapE) {s:GState} {r:Bool} (hf:r48_combat s=some r):Pv.Fn Tryz.prog glF 34 [.agg (eGState M s)] (fun u=>u=.sb r):=by
 refine fn_dec (T:=(tabc [8])) (tabcOK [8]) rfl wf Tryz.func34 rfl Tryz.call34 rfl ?_
 intro S R hS hR
 have q:=sf hM hS
 unfold r48_combat at hf
 cbv
 refine d_lp hS (tabcOK [8]) wf [] [1,3] (fun s1=>⟨tpsL 0 27 [(1,.lv 0 0),(3,.si .i64 s1)],[(0,some (.var false (eGState M s)))],1⟩) hf ?_
 intro Ik2 k2 s1 hk2 hf e he; subst he
 unfold r48_combat_l1 at hf
 cbv
 refine d_b hS hf ?_ ?_
 ·intro hf; cbv
  refine d_cut hS [] [1,3,26] (fun s4=>⟨tpsL 0 27 [(1,.lv 0 0),(3,.si .i64 s1),(26,.sb s4)],[(0,some (.var false (eGState M s)))],1⟩) hf ?_ ?_
  ·intro Ik5 k5 hk5 hf; cbv
   refine d_idx hS hM hf rfl rfl ?_
   intro x7 hf; cbv
   refine d_b hS hf ?_ ?_
   ·intro hf; cbv
    refine d_idx hS hM hf rfl rfl ?_
    intro x8 hf; cbv
    exact d_x hk5 hf
   intro hf; cbv
   exact d_x hk5 hf
  intro s4 hf; cbv
  refine d_br hS hf rfl ?_ ?_
  ·intro hf; cbv
   cases hf; exact hR _ (lp_eq rfl)
  intro hf; cbv
  exact d_x hk2 hf
 intro hf; cbv
 cases hf; exact hR _ (lp_eq rfl)
theorem c26 {M:EncM} (hM:M=mapE) {step:Int} {r:ByteArray} (hf:turn_Name step=some r):Pv.Fn Tryz.prog glF 26 [.si .i64 step] (fun u=>u=.str r):=by
 refine fn_dec (T:=tab) tabOK rfl wf Tryz.func26 rfl Tryz.call26 rfl ?_
 intro S R hS hR
 have q:=sf hM hS
 unfold turn_Name at hf
 cbv
 refine d_b hS hf ?_ ?_
 ·intro hf; cbv
  cases hf; exact hR _ (lp_eq rfl)
 intro hf; cbv
 refine d_b hS hf ?_ ?_
 ·intro hf; cbv
  cases hf; exact hR _ (lp_eq rfl)
 intro hf; cbv
 obtain ⟨j1,hj1,ej1,hf⟩:=d_cases hf
 refine d_ixa hS rfl ⟨j1,hj1,ej1,?_⟩
 rcases lt11 hj1 with rfl | rfl | rfl | rfl | rfl | rfl | rfl | rfl | rfl | rfl | rfl
 ·cbv
  cases hf; exact hR _ (lp_eq rfl)
 ·cbv
  cases hf; exact hR _ (lp_eq rfl)
 ·cbv
  cases hf; exact hR _ (lp_eq rfl)
 ·cbv
  cases hf; exact hR _ (lp_eq rfl)
 ·cbv
  cases hf; exact hR _ (lp_eq rfl)
 ·cbv
  cases hf; exact hR _ (lp_eq rfl)
 ·cbv
  cases hf; exact hR _ (lp_eq rfl)
 ·cbv
  cases hf; exact hR _ (lp_eq rfl)
 ·cbv
  cases hf; exact hR _ (lp_eq rfl)
 ·cbv
  cases hf; exact hR _ (lp_eq rfl)
 cbv
 cases hf; exact hR _ (lp_eq rfl)
theorem c163 {M:EncM} (hM:M=mapE) {l:List Int} {n:Int} {r:Int} (hf:r26_times l n=some r):Pv.Fn Tryz.prog glF 163 [.sl 1 (M.m Int (eI .i64) l) false,.si .i64 n] (fun u=>u=.si .i64 r):=by
 refine fn_dec (T:=(tabc [9])) (tabcOK [9]) rfl wf Tryz.func163 rfl Tryz.call163 rfl ?_
 intro S R hS hR
 have q:=sf hM hS
 unfold r26_times at hf
 cbv
 refine d_lp hS (tabcOK [9]) wf [] [0,1,5,6] (fun s1=>⟨tpsL 0 22 [(0,.sl 1 (M.m Int (eI .i64) l) false),(1,.si .i64 n),(5,.si .i64 s1.1),(6,.si .i64 s1.2)],[],0⟩) hf ?_
 intro Ik2 k2 s1 hk2 hf e he; subst he
 unfold r26_times_l1 at hf
 cbv
 refine d_b hS hf ?_ ?_
 ·intro hf; cbv
  refine d_cut hS [] [0,1,5,6] (fun s4=>⟨tpsL 0 22 [(0,.sl 1 (M.m Int (eI .i64) l) false),(1,.si .i64 n),(5,.si .i64 s4),(6,.si .i64 s1.2)],[],0⟩) hf ?_ ?_
  ·intro Ik5 k5 hk5 hf; cbv
   refine d_idx hS hM hf rfl rfl ?_
   intro x7 hf; cbv
   refine d_b hS hf ?_ ?_
   ·intro hf; cbv
    exact d_x hk5 hf
   intro hf; cbv
   exact d_x hk5 hf
  intro s4 hf; cbv
  exact d_x hk2 hf
 intro hf; cbv
 cases hf; exact hR _ (lp_eq rfl)
theorem c171 {M:EncM} (hM:M=mapE) {a:List GMod} {b:List GMod} {r:Bool} (hf:r17_SameMods a b=some r):Pv.Fn Tryz.prog glF 171 [.sl 20 (M.m GMod (eGMod M) a) false,.sl 20 (M.m GMod (eGMod M) b) false] (fun u=>u=.sb r):=by
 refine fn_dec (T:=tab) tabOK rfl wf Tryz.func171 rfl Tryz.call171 rfl ?_
 intro S R hS hR
 have q:=sf hM hS
 unfold r17_SameMods at hf
 cbv
 refine d_b hS hf ?_ ?_
 ·intro hf; cbv
  cases hf; exact hR _ (lp_eq rfl)
 intro hf; cbv
 refine d_lp hS tabOK wf [] [0,1,5] (fun s1=>⟨tpsL 0 26 [(0,.sl 20 (M.m GMod (eGMod M) a) false),(1,.sl 20 (M.m GMod (eGMod M) b) false),(5,.si .i64 s1)],[],0⟩) hf ?_
 intro Ik2 k2 s1 hk2 hf e he; subst he
 unfold r17_SameMods_l1 at hf
 cbv
 refine d_b hS hf ?_ ?_
 ·intro hf; cbv
  refine d_o hS ?_; cbv
  refine d_idx hS hM hf rfl rfl ?_
  intro x4 hf; cbv
  refine d_idx hS hM hf rfl rfl ?_
  intro x5 hf; cbv
  replace hf:=d_lt hf
  refine d_b hS hf ?_ ?_
  ·intro hf; cbv
   cases hf; exact hR _ (lp_eq rfl)
  intro hf; cbv
  exact d_x hk2 hf
 intro hf; cbv
 cases hf; exact hR _ (lp_eq rfl)
theorem c126 {M:EncM} (hM:M=mapE) {a:List GMod} {b:List GMod} {r:Bool} (hf:r26_SameMods a b=some r):Pv.Fn Tryz.prog glF 126 [.sl 20 (M.m GMod (eGMod M) a) false,.sl 20 (M.m GMod (eGMod M) b) false] (fun u=>u=.sb r):=by
 refine fn_dec (T:=tab) tabOK rfl wf Tryz.func126 rfl Tryz.call126 rfl ?_
 intro S R hS hR
 have q:=sf hM hS
 unfold r26_SameMods at hf
 cbv
 refine d_b hS hf ?_ ?_
 ·intro hf; cbv
  cases hf; exact hR _ (lp_eq rfl)
 intro hf; cbv
 refine d_lp hS tabOK wf [] [0,1,5] (fun s1=>⟨tpsL 0 26 [(0,.sl 20 (M.m GMod (eGMod M) a) false),(1,.sl 20 (M.m GMod (eGMod M) b) false),(5,.si .i64 s1)],[],0⟩) hf ?_
 intro Ik2 k2 s1 hk2 hf e he; subst he
 unfold r26_SameMods_l1 at hf
 cbv
 refine d_b hS hf ?_ ?_
 ·intro hf; cbv
  refine d_o hS ?_; cbv
  refine d_idx hS hM hf rfl rfl ?_
  intro x4 hf; cbv
  refine d_idx hS hM hf rfl rfl ?_
  intro x5 hf; cbv
  replace hf:=d_lt hf
  refine d_b hS hf ?_ ?_
  ·intro hf; cbv
   cases hf; exact hR _ (lp_eq rfl)
  intro hf; cbv
  exact d_x hk2 hf
 intro hf; cbv
 cases hf; exact hR _ (lp_eq rfl)
theorem c25 {M:EncM} (hM:M=mapE) {a:List Int} {b:List Int} {r:Bool} (hf:r03_Same a b=some r):Pv.Fn Tryz.prog glF 25 [.sl 1 (M.m Int (eI .i64) a) false,.sl 1 (M.m Int (eI .i64) b) false] (fun u=>u=.sb r):=by
 refine fn_dec (T:=tab) tabOK rfl wf Tryz.func25 rfl Tryz.call25 rfl ?_
 intro S R hS hR
 have q:=sf hM hS
 unfold r03_Same at hf
 cbv
 refine d_b hS hf ?_ ?_
 ·intro hf; cbv
  cases hf; exact hR _ (lp_eq rfl)
 intro hf; cbv
 refine d_lp hS tabOK wf [] [0,1,5] (fun s1=>⟨tpsL 0 26 [(0,.sl 1 (M.m Int (eI .i64) a) false),(1,.sl 1 (M.m Int (eI .i64) b) false),(5,.si .i64 s1)],[],0⟩) hf ?_
 intro Ik2 k2 s1 hk2 hf e he; subst he
 unfold r03_Same_l1 at hf
 cbv
 refine d_b hS hf ?_ ?_
 ·intro hf; cbv
  refine d_o hS ?_; cbv
  refine d_idx hS hM hf rfl rfl ?_
  intro x4 hf; cbv
  refine d_idx hS hM hf rfl rfl ?_
  intro x5 hf; cbv
  refine d_b hS hf ?_ ?_
  ·intro hf; cbv
   cases hf; exact hR _ (lp_eq rfl)
  intro hf; cbv
  exact d_x hk2 hf
 intro hf; cbv
 cases hf; exact hR _ (lp_eq rfl)
theorem c243 {M:EncM} (hM:M=mapE) {u:Int} {r:ByteArray} (hf:r01_digits u=some r):Pv.Fn Tryz.prog glF 243 [.si .u64 u] (fun u=>u=.str r):=by
 refine fn_dec (T:=tab) tabOK rfl wf Tryz.func243 rfl Tryz.call243 rfl ?_
 intro S R hS hR
 have q:=sf hM hS
 unfold r01_digits at hf
 cbv
 refine d_div hS hf rfl rfl ?_
 intro x1 hf; cbv
 refine d_toS hS hM hf ⟨5,by kernel_rfl,by kernel_rfl⟩ d_e ?_
 intro x2 hf; cbv
 refine d_div hS hf rfl rfl ?_
 intro x3 hf; cbv
 refine d_lp hS tabOK wf [] [0,3] (fun s4=>⟨tpsL 0 25 [(0,.si .u64 s4.1),(3,.str s4.2)],[],0⟩) hf ?_
 intro Ik5 k5 s4 hk5 hf e he; subst he
 unfold r01_digits_l1 at hf
 cbv
 refine d_b hS hf ?_ ?_
 ·intro hf; cbv
  refine d_div hS hf rfl rfl ?_
  intro x7 hf; cbv
  refine d_toS hS hM hf ⟨5,by kernel_rfl,by kernel_rfl⟩ d_e ?_
  intro x8 hf; cbv
  refine d_cat hS hf rfl rfl ?_
  intro x9 hf; cbv
  refine d_div hS hf rfl rfl ?_
  intro x10 hf; cbv
  exact d_x hk5 hf
 intro hf; cbv
 cases hf; exact hR _ (lp_eq rfl)
theorem c191 {M:EncM} (hM:M=mapE) {b:GBound} {r:Bool} (hf:r13_bound b=some r):Pv.Fn Tryz.prog glF 191 [.agg (eGBound M b)] (fun u=>u=.sb r):=by
 refine fn_dec (T:=(tabc [2])) (tabcOK [2]) rfl wf Tryz.func191 rfl Tryz.call191 rfl ?_
 intro S R hS hR
 have q:=sf hM hS
 unfold r13_bound at hf
 cbv
 refine d_cut hS [] [1,20] (fun s1=>⟨tpsL 0 29 [(1,.lv 0 0),(20,.sb s1)],[(0,some (.var false (eGBound M b)))],1⟩) hf ?_ ?_
 ·intro Ik2 k2 hk2 hf; cbv
  refine d_b hS hf ?_ ?_
  ·intro hf; cbv
   exact d_x hk2 hf
  intro hf; cbv
  refine d_b hS hf ?_ ?_
  ·intro hf; cbv
   exact d_x hk2 hf
  intro hf; cbv
  refine d_b hS hf ?_ ?_
  ·intro hf; cbv
   exact d_x hk2 hf
  intro hf; cbv
  exact d_x hk2 hf
 intro s1 hf; cbv
 refine d_br hS hf rfl ?_ ?_
 ·intro hf; cbv
  cases hf; exact hR _ (lp_eq rfl)
 intro hf; cbv
 refine d_b hS hf ?_ ?_
 ·intro hf; cbv
  cases hf; exact hR _ (lp_eq rfl)
 intro hf; cbv
 cases hf; exact hR _ d_l
theorem c129 {M:EncM} (hM:M=mapE) {s:List Int} {v:Int} {r:Int} (hf:slices_Index_int s v=some r):Pv.Fn Tryz.prog glF 129 [.sl 1 (M.m Int (eI .i64) s) false,.si .i64 v] (fun u=>u=.si .i64 r):=by
 refine fn_dec (T:=tab) tabOK rfl wf Tryz.func129 rfl Tryz.call129 rfl ?_
 intro S R hS hR
 have q:=sf hM hS
 unfold slices_Index_int at hf
 cbv
 refine d_lp hS tabOK wf [] [0,1,7,8] (fun s1=>⟨tpsL 0 19 [(0,.sl 1 (M.m Int (eI .i64) s) false),(1,.si .i64 v),(7,.si .i64 (S.len (M.m Int (eI .i64) s))),(8,.si .i64 s1)],[],0⟩) hf ?_
 intro Ik2 k2 s1 hk2 hf e he; subst he
 unfold slices_Index_int_l1 at hf
 cbv
 refine d_b hS hf ?_ ?_
 ·intro hf; cbv
  refine d_idx hS hM hf rfl rfl ?_
  intro x4 hf; cbv
  refine d_b hS hf ?_ ?_
  ·intro hf; cbv
   cases hf; exact hR _ (lp_eq rfl)
  intro hf; cbv
  exact d_x hk2 hf
 intro hf; cbv
 cases hf; exact hR _ (lp_eq rfl)
theorem o80 {M:EncM} (hM:M=mapE) {s:List GWaiting} {r:List GWaiting} (hf:slices_Clone_waiting s=some r):Pv.FnS Tryz.prog glF 80 [.sl 89 (M.m GWaiting (eGWaiting M) s) false] [] 0 (fun u s n=>u=.os 0 0 (M.n GWaiting r)∧s=[(0,some (.arr false 89 (M.m GWaiting (eGWaiting M) r)))]∧n=1):=by
 refine fnS_dec (T:=(tabx 0 [] [[(89,true)]])) (tabxOK 0 [] [[(89,true)]]) wf Tryz.func80 rfl Tryz.call80 rfl ?_
 intro S R hS hR
 have q:=sf hM hS
 unfold slices_Clone_waiting at hf
 cbv
 refine d_nil hS hM hf rfl (by intro h; subst h; exact fun h=>h) ?_ ?_
 ·intro hf; cbv
  cases hf; exact hR _ _ _ (by (try simp only [q]); repeat' constructor) (by (try simp only [q]); repeat' constructor) rfl
 intro hf; cbv
 refine d_room hS hf d_e ?_
 intro hf; cbv
 cases hf; exact hR _ _ _ (by (try simp only [q]); repeat' constructor) (by (try simp only [q]); repeat' constructor) rfl
theorem o128 {M:EncM} (hM:M=mapE) {s:List GEffect} {r:List GEffect} (hf:slices_Clone_effect s=some r):Pv.FnS Tryz.prog glF 128 [.sl 64 (M.m GEffect (eGEffect M) s) false] [] 0 (fun u s n=>u=.os 0 0 (M.n GEffect r)∧s=[(0,some (.arr false 64 (M.m GEffect (eGEffect M) r)))]∧n=1):=by
 refine fnS_dec (T:=(tabx 0 [] [[(64,true)]])) (tabxOK 0 [] [[(64,true)]]) wf Tryz.func128 rfl Tryz.call128 rfl ?_
 intro S R hS hR
 have q:=sf hM hS
 unfold slices_Clone_effect at hf
 cbv
 refine d_nil hS hM hf rfl (by intro h; subst h; exact fun h=>h) ?_ ?_
 ·intro hf; cbv
  cases hf; exact hR _ _ _ (by (try simp only [q]); repeat' constructor) (by (try simp only [q]); repeat' constructor) rfl
 intro hf; cbv
 refine d_room hS hf d_e ?_
 intro hf; cbv
 cases hf; exact hR _ _ _ (by (try simp only [q]); repeat' constructor) (by (try simp only [q]); repeat' constructor) rfl
theorem o73 {M:EncM} (hM:M=mapE) {s:List GPlayer} {r:List GPlayer} (hf:slices_Clone_player s=some r):Pv.FnS Tryz.prog glF 73 [.sl 14 (M.m GPlayer (eGPlayer M) s) false] [] 0 (fun u s n=>u=.os 0 0 (M.n GPlayer r)∧s=[(0,some (.arr false 14 (M.m GPlayer (eGPlayer M) r)))]∧n=1):=by
 refine fnS_dec (T:=(tabx 0 [] [[(14,true)]])) (tabxOK 0 [] [[(14,true)]]) wf Tryz.func73 rfl Tryz.call73 rfl ?_
 intro S R hS hR
 have q:=sf hM hS
 unfold slices_Clone_player at hf
 cbv
 refine d_nil hS hM hf rfl (by intro h; subst h; exact fun h=>h) ?_ ?_
 ·intro hf; cbv
  cases hf; exact hR _ _ _ (by (try simp only [q]); repeat' constructor) (by (try simp only [q]); repeat' constructor) rfl
 intro hf; cbv
 refine d_room hS hf d_e ?_
 intro hf; cbv
 cases hf; exact hR _ _ _ (by (try simp only [q]); repeat' constructor) (by (try simp only [q]); repeat' constructor) rfl
theorem o75 {M:EncM} (hM:M=mapE) {s:List GObject} {r:List GObject} (hf:slices_Clone_object s=some r):Pv.FnS Tryz.prog glF 75 [.sl 19 (M.m GObject (eGObject M) s) false] [] 0 (fun u s n=>u=.os 0 0 (M.n GObject r)∧s=[(0,some (.arr false 19 (M.m GObject (eGObject M) r)))]∧n=1):=by
 refine fnS_dec (T:=(tabx 0 [] [[(19,true)]])) (tabxOK 0 [] [[(19,true)]]) wf Tryz.func75 rfl Tryz.call75 rfl ?_
 intro S R hS hR
 have q:=sf hM hS
 unfold slices_Clone_object at hf
 cbv
 refine d_nil hS hM hf rfl (by intro h; subst h; exact fun h=>h) ?_ ?_
 ·intro hf; cbv
  cases hf; exact hR _ _ _ (by (try simp only [q]); repeat' constructor) (by (try simp only [q]); repeat' constructor) rfl
 intro hf; cbv
 refine d_room hS hf d_e ?_
 intro hf; cbv
 cases hf; exact hR _ _ _ (by (try simp only [q]); repeat' constructor) (by (try simp only [q]); repeat' constructor) rfl
end Go.Proofs.YtddcpnlflncahaaGreat
