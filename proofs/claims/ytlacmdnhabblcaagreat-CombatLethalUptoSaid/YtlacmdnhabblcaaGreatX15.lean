import Derived.Test.YtlacmdnhabblcaaGreatX14
set_option linter.all false
namespace Go.Proofs.YtlacmdnhabblcaaGreat
open Go Go.Pv
set_option maxRecDepth 100000
set_option maxHeartbeats 2000000
theorem c29 {M:EncM} (hM:M=mapE) {s:GState} {r:Bool} (hf:r26_Small s=some r):Pv.Fn Tryz.prog glF 29 [.agg (eGState M s)] (fun u=>u=.sb r):=by
 refine fn_dec (T:=(tabc [6,12,22,42])) (tabcOK [6,12,22,42]) rfl wf Tryz.func29 rfl Tryz.call29 rfl ?_
 intro S R hS hR
 have q:=sf hM hS
 unfold r26_Small at hf
 cbv
 replace hf:=d_lt hf
 obtain ⟨v1,gv1,ev1⟩:∃ z:Int,(S.bin .add .i64 (S.bin .add .i64 (S.len (M.m GObject (eGObject M) s.objects)) (S.len (M.m Int (eI .i64) s.battlefield))) (S.len (M.m Int (eI .i64) s.exile)))=z∧(addI (addI (lenI s.objects) (lenI s.battlefield)) (lenI s.exile))=z:=⟨_,rfl,d_e⟩
 (try rw [gv1]); (try (conv at gv1=>(lhs; cbv))); (try rw [gv1]); (try rw [ev1] at hf); clear gv1 ev1
 replace hf:=d_lt hf
 obtain ⟨v2,gv2,ev2⟩:∃ z:Int,(S.bin .add .i64 (S.bin .add .i64 (S.bin .add .i64 v1 (S.len (M.m Int (eI .i64) s.extra))) (S.bin .mul .i64 8 (S.len (M.m GItem (eGItem M) s.stack)))) (S.bin .mul .i64 8 (S.len (M.m GWaiting (eGWaiting M) s.waiting))))=z∧(addI (addI (addI v1 (lenI s.extra)) (mulI 8 (lenI s.stack))) (mulI 8 (lenI s.waiting)))=z:=⟨_,rfl,d_e⟩
 (try rw [gv2]); (try (conv at gv2=>(lhs; cbv))); (try rw [gv2]); (try rw [ev2] at hf); clear gv2 ev2
 refine d_lp hS (tabcOK [6,12,22,42]) wf [] [1,3,4] (fun s3=>⟨tpsL 0 148 [(1,.lv 0 0),(3,.si .i64 s3.1),(4,.si .i64 s3.2)],[(0,some (.var false (eGState M s)))],1⟩) hf ?_
 intro Ik4 k4 s3 hk4 hf e he; subst he
 unfold r26_Small_l4 at hf
 cbv
 refine d_cut hS [] [1,3,4,46] (fun s6=>⟨tpsL 0 148 [(1,.lv 0 0),(3,.si .i64 s3.1),(4,.si .i64 s3.2),(46,.sb s6)],[(0,some (.var false (eGState M s)))],1⟩) hf ?_ ?_
 ·intro Ik7 k7 hk7 hf; cbv
  refine d_b hS hf ?_ ?_
  ·intro hf; cbv
   exact d_x hk7 hf
  intro hf; cbv
  exact d_x hk7 hf
 intro s6 hf; cbv
 refine d_br hS hf rfl ?_ ?_
 ·intro hf; cbv
  refine d_o hS ?_; cbv
  refine d_idx hS hM hf rfl rfl ?_
  intro x9 hf; cbv
  refine d_idx hS hM hf rfl rfl ?_
  intro x10 hf; cbv
  refine d_idx hS hM hf rfl rfl ?_
  intro x11 hf; cbv
  replace hf:=d_lt hf
  obtain ⟨v12,gv12,ev12⟩:∃ z:Int,(S.bin .add .i64 (S.bin .add .i64 (S.bin .add .i64 s3.1 (S.len (M.m Int (eI .i64) x9.library))) (S.len (M.m Int (eI .i64) x10.hand))) (S.len (M.m Int (eI .i64) x11.graveyard)))=z∧(addI (addI (addI s3.1 (lenI x9.library)) (lenI x10.hand)) (lenI x11.graveyard))=z:=⟨_,rfl,d_e⟩
  (try rw [gv12]); (try (conv at gv12=>(lhs; cbv))); (try rw [gv12]); (try rw [ev12] at hf); clear gv12 ev12
  exact d_x hk4 hf
 intro hf; cbv
 refine d_cut hS [] [1,81] (fun s13=>⟨tpsL 0 148 [(1,.lv 0 0),(81,.sb s13)],[(0,some (.var false (eGState M s)))],1⟩) hf ?_ ?_
 ·intro Ik14 k14 hk14 hf; cbv
  refine d_b hS hf ?_ ?_
  ·intro hf; cbv
   exact d_x hk14 hf
  intro hf; cbv
  exact d_x hk14 hf
 intro s13 hf; cbv
 refine d_br hS hf rfl ?_ ?_
 ·intro hf; cbv
  cases hf; exact hR _ (lp_eq rfl)
 intro hf; cbv
 refine d_lp hS (tabcOK [6,12,22,42]) wf [] [1,5] (fun s16=>⟨tpsL 0 148 [(1,.lv 0 0),(5,.si .i64 s16)],[(0,some (.var false (eGState M s)))],1⟩) hf ?_
 intro Ik17 k17 s16 hk17 hf e he; subst he
 unfold r26_Small_l3 at hf
 cbv
 refine d_b hS hf ?_ ?_
 ·intro hf; cbv
  refine d_cut hS [] [1,5,106] (fun s19=>⟨tpsL 0 148 [(1,.lv 0 0),(5,.si .i64 s16),(106,.sb s19)],[(0,some (.var false (eGState M s)))],1⟩) hf ?_ ?_
  ·intro Ik20 k20 hk20 hf; cbv
   refine d_idx hS hM hf rfl rfl ?_
   intro x22 hf; cbv
   refine d_b hS hf ?_ ?_
   ·intro hf; cbv
    exact d_x hk20 hf
   intro hf; cbv
   refine d_idx hS hM hf rfl rfl ?_
   intro x23 hf; cbv
   refine d_p hS hf (fun _=>c74 hM) ?_
   intro y24 hf; cbv
   exact d_x hk20 hf
  intro s19 hf; cbv
  refine d_br hS hf rfl ?_ ?_
  ·intro hf; cbv
   cases hf; exact hR _ (lp_eq rfl)
  intro hf; cbv
  exact d_x hk17 hf
 intro hf; cbv
 refine d_lp hS (tabcOK [6,12,22,42]) wf [] [1,6] (fun s25=>⟨tpsL 0 148 [(1,.lv 0 0),(6,.si .i64 s25)],[(0,some (.var false (eGState M s)))],1⟩) hf ?_
 intro Ik26 k26 s25 hk26 hf e he; subst he
 unfold r26_Small_l2 at hf
 cbv
 refine d_b hS hf ?_ ?_
 ·intro hf; cbv
  refine d_idx hS hM hf rfl rfl ?_
  intro x28 hf; cbv
  refine d_p hS hf (fun _=>c74 hM) ?_
  intro y29 hf; cbv
  refine d_b hS hf ?_ ?_
  ·intro hf; cbv
   cases hf; exact hR _ (lp_eq rfl)
  intro hf; cbv
  exact d_x hk26 hf
 intro hf; cbv
 refine d_lp hS (tabcOK [6,12,22,42]) wf [] [1,7] (fun s30=>⟨tpsL 0 148 [(1,.lv 0 0),(7,.si .i64 s30)],[(0,some (.var false (eGState M s)))],1⟩) hf ?_
 intro Ik31 k31 s30 hk31 hf e he; subst he
 unfold r26_Small_l1 at hf
 cbv
 refine d_b hS hf ?_ ?_
 ·intro hf; cbv
  refine d_cut hS [] [1,7,147] (fun s33=>⟨tpsL 0 148 [(1,.lv 0 0),(7,.si .i64 s30),(147,.sb s33)],[(0,some (.var false (eGState M s)))],1⟩) hf ?_ ?_
  ·intro Ik34 k34 hk34 hf; cbv
   refine d_idx hS hM hf rfl rfl ?_
   intro x36 hf; cbv
   refine d_b hS hf ?_ ?_
   ·intro hf; cbv
    exact d_x hk34 hf
   intro hf; cbv
   refine d_idx hS hM hf rfl rfl ?_
   intro x37 hf; cbv
   refine d_callp hS hf (fun _=>c74 hM) d_st ?_
   intro y38 hf; cbv
   exact d_x hk34 hf
  intro s33 hf; cbv
  refine d_br hS hf rfl ?_ ?_
  ·intro hf; cbv
   cases hf; exact hR _ (lp_eq rfl)
  intro hf; cbv
  exact d_x hk31 hf
 intro hf; cbv
 cases hf; exact hR _ (lp_eq rfl)
theorem c3 {M:EncM} (hM:M=mapE) {p:GLaw46Pair} {r:Bool} (hf:law46_BlockCan p=some r):Pv.Fn Tryz.prog glF 3 [.agg (eGLaw46Pair M p)] (fun u=>u=.sb r):=by
 refine fn_dec (T:=(tabc [2])) (tabcOK [2]) rfl wf Tryz.func3 rfl Tryz.call3 rfl ?_
 intro S R hS hR
 have q:=sf hM hS
 unfold law46_BlockCan at hf
 cbv
 refine d_cut hS [] [1,19] (fun s1=>⟨tpsL 0 43 [(1,.lv 0 0),(19,.sb s1)],[(0,some (.var false (eGLaw46Pair M p)))],1⟩) hf ?_ ?_
 ·intro Ik2 k2 hk2 hf; cbv
  refine d_b hS hf ?_ ?_
  ·intro hf; cbv
   exact d_x hk2 hf
  intro hf; cbv
  refine d_b hS hf ?_ ?_
  ·intro hf; cbv
   exact d_x hk2 hf
  intro hf; cbv
  exact d_x hk2 hf
 intro s1 hf; cbv
 refine d_br hS hf rfl ?_ ?_
 ·intro hf; cbv
  refine d_p hS hf (fun _=>c15 hM) ?_
  intro y4 hf; cbv
  cases hf; exact hR _ (lp_eq rfl)
 intro hf; cbv
 refine d_o hS ?_; cbv
 refine d_c hS hf (fun _=>c15 hM) ?_
 intro y5 hf; cbv
 refine d_br hS hf rfl ?_ ?_
 ·intro hf; cbv
  refine d_c hS hf (fun _=>c16 hM) ?_
  intro y6 hf; cbv
  refine d_c hS hf (fun _=>c17 hM) ?_
  intro y7 hf; cbv
  cases hf; exact hR _ d_l
 intro hf; cbv
 cases hf; exact hR _ (lp_eq rfl)
end Go.Proofs.YtlacmdnhabblcaaGreat
