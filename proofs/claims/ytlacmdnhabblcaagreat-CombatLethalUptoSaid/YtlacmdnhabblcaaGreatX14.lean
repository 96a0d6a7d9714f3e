import Derived.Test.YtlacmdnhabblcaaGreatX13
set_option linter.all false
namespace Go.Proofs.YtlacmdnhabblcaaGreat
open Go Go.Pv
set_option maxRecDepth 100000
set_option maxHeartbeats 2000000
theorem c74 {M:EncM} (hM:M=mapE) {a:GAbility} {r:Bool} (hf:r20_Light a=some r):Pv.Fn Tryz.prog glF 74 [.agg (eGAbility M a)] (fun u=>u=.sb r):=by
 refine fn_dec (T:=(tabc [2,12])) (tabcOK [2,12]) rfl wf Tryz.func74 rfl Tryz.call74 rfl ?_
 intro S R hS hR
 have q:=sf hM hS
 unfold r20_Light at hf
 cbv
 refine d_cut hS [] [1,43] (fun s1=>⟨tpsL 0 86 [(1,.lv 0 0),(43,.sb s1)],[(0,some (.var false (eGAbility M a)))],1⟩) hf ?_ ?_
 ·intro Ik2 k2 hk2 hf; cbv
  refine d_b hS hf ?_ ?_
  ·intro hf; cbv
   exact d_x hk2 hf
  intro hf; cbv
  refine d_b hS hf ?_ ?_
  ·intro hf; cbv
   exact d_x hk2 hf
  intro hf; cbv
  refine d_b hS hf ?_ ?_
  ·intro hf; cbv
   exact d_x hk2 hf
  intro hf; cbv
  refine d_b hS hf ?_ ?_
  ·intro hf; cbv
   exact d_x hk2 hf
  intro hf; cbv
  refine d_b hS hf ?_ ?_
  ·intro hf; cbv
   exact d_x hk2 hf
  intro hf; cbv
  refine d_p hS hf (fun _=>c144 hM) ?_
  intro y4 hf; cbv
  exact d_x hk2 hf
 intro s1 hf; cbv
 refine d_br hS hf rfl ?_ ?_
 ·intro hf; cbv
  cases hf; exact hR _ (lp_eq rfl)
 intro hf; cbv
 refine d_lp hS (tabcOK [2,12]) wf [] [1,3] (fun s5=>⟨tpsL 0 86 [(1,.lv 0 0),(3,.si .i64 s5)],[(0,some (.var false (eGAbility M a)))],1⟩) hf ?_
 intro Ik6 k6 s5 hk6 hf e he; subst he
 unfold r20_Light_l2 at hf
 cbv
 refine d_b hS hf ?_ ?_
 ·intro hf; cbv
  refine d_cut hS [] [1,3,69] (fun s8=>⟨tpsL 0 86 [(1,.lv 0 0),(3,.si .i64 s5),(69,.sb s8)],[(0,some (.var false (eGAbility M a)))],1⟩) hf ?_ ?_
  ·intro Ik9 k9 hk9 hf; cbv
   refine d_idx hS hM hf rfl rfl ?_
   intro x11 hf; cbv
   refine d_b hS hf ?_ ?_
   ·intro hf; cbv
    exact d_x hk9 hf
   intro hf; cbv
   refine d_idx hS hM hf rfl rfl ?_
   intro x12 hf; cbv
   exact d_x hk9 hf
  intro s8 hf; cbv
  refine d_br hS hf rfl ?_ ?_
  ·intro hf; cbv
   cases hf; exact hR _ (lp_eq rfl)
  intro hf; cbv
  exact d_x hk6 hf
 intro hf; cbv
 refine d_lp hS (tabcOK [2,12]) wf [] [1,4] (fun s13=>⟨tpsL 0 86 [(1,.lv 0 0),(4,.si .i64 s13)],[(0,some (.var false (eGAbility M a)))],1⟩) hf ?_
 intro Ik14 k14 s13 hk14 hf e he; subst he
 unfold r20_Light_l1 at hf
 cbv
 refine d_b hS hf ?_ ?_
 ·intro hf; cbv
  refine d_idx hS hM hf rfl rfl ?_
  intro x16 hf; cbv
  refine d_b hS hf ?_ ?_
  ·intro hf; cbv
   cases hf; exact hR _ (lp_eq rfl)
  intro hf; cbv
  exact d_x hk14 hf
 intro hf; cbv
 cases hf; exact hR _ (lp_eq rfl)
theorem c16 {M:EncM} (hM:M=mapE) {b:GObject} {tb:GTraits} {a:GObject} {ta:GTraits} {r:Bool} (hf:block_Can b tb a ta=some r):Pv.Fn Tryz.prog glF 16 [.agg (eGObject M b),.agg (eGTraits M tb),.agg (eGObject M a),.agg (eGTraits M ta)] (fun u=>u=.sb r):=by
 refine fn_dec (T:=(tabc [4])) (tabcOK [4]) rfl wf Tryz.func16 rfl Tryz.call16 rfl ?_
 intro S R hS hR
 have q:=sf hM hS
 unfold block_Can at hf
 cbv
 refine d_cut hS [] [5,7,9,28] (fun s1=>⟨tpsL 0 43 [(5,.lv 0 0),(7,.lv 1 0),(9,.fn 55 []),(28,.sb s1)],[(0,some (.var false (eGTraits M tb))),(1,some (.var false (eGTraits M ta)))],2⟩) hf ?_ ?_
 ·intro Ik2 k2 hk2 hf; cbv
  refine d_b hS hf ?_ ?_
  ·intro hf; cbv
   exact d_x hk2 hf
  intro hf; cbv
  refine d_br hS hf rfl ?_ ?_
  ·intro hf; cbv
   exact d_x hk2 hf
  intro hf; cbv
  refine d_p hS hf (fun _=>c55 hM) ?_
  intro y4 hf; cbv
  refine d_br hS hf rfl ?_ ?_
  ·intro hf; cbv
   exact d_x hk2 hf
  intro hf; cbv
  refine d_p hS hf (fun _=>c55 hM) ?_
  intro y5 hf; cbv
  exact d_x hk2 hf
 intro s1 hf; cbv
 refine d_br hS hf rfl ?_ ?_
 ·intro hf; cbv
  cases hf; exact hR _ (lp_eq rfl)
 intro hf; cbv
 refine d_p hS hf (fun _=>c55 hM) ?_
 intro y6 hf; cbv
 refine d_b hS hf ?_ ?_
 ·intro hf; cbv
  cases hf; exact hR _ (lp_eq rfl)
 intro hf; cbv
 refine d_p hS hf (fun _=>c55 hM) ?_
 intro y7 hf; cbv
 refine d_br hS hf rfl ?_ ?_
 ·intro hf; cbv
  cases hf; exact hR _ (lp_eq rfl)
 intro hf; cbv
 refine d_p hS hf (fun _=>c55 hM) ?_
 intro y8 hf; cbv
 cases hf; exact hR _ (lp_eq rfl)
theorem c7 {M:EncM} (hM:M=mapE) {need:List Int} {l:List Int} {sum:Int} {r:Bool} (hf:law47_CombatLegal need l sum=some r):Pv.Fn Tryz.prog glF 7 [.sl 1 (M.m Int (eI .i64) need) false,.sl 1 (M.m Int (eI .i64) l) false,.si .i64 sum] (fun u=>u=.sb r):=by
 refine fn_dec (T:=(tabc [2])) (tabcOK [2]) rfl wf Tryz.func7 rfl Tryz.call7 rfl ?_
 intro S R hS hR
 have q:=sf hM hS
 unfold law47_CombatLegal at hf
 cbv
 refine d_cut hS [] [0,1,2,14] (fun s1=>⟨tpsL 0 39 [(0,.sl 1 (M.m Int (eI .i64) need) false),(1,.sl 1 (M.m Int (eI .i64) l) false),(2,.si .i64 sum),(14,.sb s1)],[],0⟩) hf ?_ ?_
 ·intro Ik2 k2 hk2 hf; cbv
  refine d_b hS hf ?_ ?_
  ·intro hf; cbv
   exact d_x hk2 hf
  intro hf; cbv
  exact d_x hk2 hf
 intro s1 hf; cbv
 refine d_br hS hf rfl ?_ ?_
 ·intro hf; cbv
  refine d_p hS hf (fun _=>c26 hM) ?_
  intro y4 hf; cbv
  cases hf; exact hR _ (lp_eq rfl)
 intro hf; cbv
 refine d_p hS hf (fun _=>c27 hM) ?_
 intro y5 hf; cbv
 refine d_p hS hf (fun _=>c28 hM) ?_
 intro y6 hf; cbv
 refine d_b hS hf ?_ ?_
 ·intro hf; cbv
  refine d_p hS hf (fun _=>c27 hM) ?_
  intro y7 hf; cbv
  refine d_p hS hf (fun _=>c28 hM) ?_
  intro y8 hf; cbv
  refine d_b hS hf ?_ ?_
  ·intro hf; cbv
   refine d_p hS hf (fun _=>c26 hM) ?_
   intro y9 hf; cbv
   cases hf; exact hR _ (lp_eq rfl)
  intro hf; cbv
  cases hf; exact hR _ (lp_eq rfl)
 intro hf; cbv
 cases hf; exact hR _ (lp_eq rfl)
theorem c30 {M:EncM} (hM:M=mapE) {o:GObject} {t:GTraits} {deadly:Bool} {r:Int} (hf:combat_Lethal o t deadly=some r):Pv.Fn Tryz.prog glF 30 [.agg (eGObject M o),.agg (eGTraits M t),.sb deadly] (fun u=>u=.si .i64 r):=by
 refine fn_dec (T:=tab) tabOK rfl wf Tryz.func30 rfl Tryz.call30 rfl ?_
 intro S R hS hR
 have q:=sf hM hS
 unfold combat_Lethal at hf
 cbv
 refine d_br hS hf rfl ?_ ?_
 ·intro hf; cbv
  cases hf; exact hR _ (lp_eq rfl)
 intro hf; cbv
 refine d_p hS hf (fun _=>c75 hM) ?_
 intro y1 hf; cbv
 cases hf; exact hR _ d_l
theorem c31 {M:EncM} (hM:M=mapE) {o:GObject} {t:GTraits} {deadly:Bool} {r:Int} (hf:r47_Lethal o t deadly=some r):Pv.Fn Tryz.prog glF 31 [.agg (eGObject M o),.agg (eGTraits M t),.sb deadly] (fun u=>u=.si .i64 r):=by
 refine fn_dec (T:=tab) tabOK rfl wf Tryz.func31 rfl Tryz.call31 rfl ?_
 intro S R hS hR
 have q:=sf hM hS
 unfold r47_Lethal at hf
 cbv
 refine d_br hS hf rfl ?_ ?_
 ·intro hf; cbv
  cases hf; exact hR _ (lp_eq rfl)
 intro hf; cbv
 refine d_p hS hf (fun _=>c76 hM) ?_
 intro y1 hf; cbv
 cases hf; exact hR _ d_l
end Go.Proofs.YtlacmdnhabblcaaGreat
