import Derived.Test.YtddcpnlflncahaaGreatC27
set_option linter.all false
namespace Go.Proofs.YtddcpnlflncahaaGreat
open Go Go.Pv
set_option maxRecDepth 100000
set_option maxHeartbeats 2000000
theorem c8 {M:EncM} (hM:M=mapE) {cards:List GCard} {s:GState} {r:Bool} (hf:law48_small cards s=some r):Pv.Fn Tryz.prog glF 8 [.sl 17 (M.m GCard (eGCard M) cards) false,.agg (eGState M s)] (fun u=>u=.sb r):=by
 refine fn_dec (T:=(tabc [2])) (tabcOK [2]) rfl wf Tryz.func8 rfl Tryz.call8 rfl ?_
 intro S R hS hR
 have q:=sf hM hS
 unfold law48_small at hf
 cbv
 refine d_cut hS [] [0,3,58] (fun s1=>⟨tpsL 0 102 [(0,.sl 17 (M.m GCard (eGCard M) cards) false),(3,.lv 0 0),(58,.sb s1)],[(0,some (.var false (eGState M s)))],1⟩) hf ?_ ?_
 ·intro Ik2 k2 hk2 hf; cbv
  refine d_b hS hf ?_ ?_
  ·intro hf; cbv
   exact d_x hk2 hf
  intro hf; cbv
  refine d_b hS hf ?_ ?_
  ·intro hf; cbv
   exact d_x hk2 hf
  intro hf; cbv
  refine d_b hS hf ?_ ?_
  ·intro hf; cbv
   exact d_x hk2 hf
  intro hf; cbv
  refine d_b hS hf ?_ ?_
  ·intro hf; cbv
   exact d_x hk2 hf
  intro hf; cbv
  refine d_b hS hf ?_ ?_
  ·intro hf; cbv
   exact d_x hk2 hf
  intro hf; cbv
  refine d_b hS hf ?_ ?_
  ·intro hf; cbv
   exact d_x hk2 hf
  intro hf; cbv
  refine d_b hS hf ?_ ?_
  ·intro hf; cbv
   exact d_x hk2 hf
  intro hf; cbv
  refine d_b hS hf ?_ ?_
  ·intro hf; cbv
   exact d_x hk2 hf
  intro hf; cbv
  exact d_x hk2 hf
 intro s1 hf; cbv
 refine d_br hS hf rfl ?_ ?_
 ·intro hf; cbv
  cases hf; exact hR _ (lp_eq rfl)
 intro hf; cbv
 refine d_lp hS (tabcOK [2]) wf [] [0,3,5] (fun s4=>⟨tpsL 0 102 [(0,.sl 17 (M.m GCard (eGCard M) cards) false),(3,.lv 0 0),(5,.si .i64 s4)],[(0,some (.var false (eGState M s)))],1⟩) hf ?_
 intro Ik5 k5 s4 hk5 hf e he; subst he
 unfold law48_small_l1 at hf
 cbv
 refine d_b hS hf ?_ ?_
 ·intro hf; cbv
  refine d_o hS ?_; cbv
  refine d_idx hS hM hf rfl rfl ?_
  intro x7 hf; cbv
  refine d_idx hS hM hf rfl rfl ?_
  intro x8 hf; cbv
  refine d_idx hS hM hf rfl rfl ?_
  intro x9 hf; cbv
  replace hf:=d_lt hf
  obtain ⟨v10,gv10,ev10⟩:∃ z:Int,(S.bin .add .i64 (S.bin .add .i64 (S.len (M.m Int (eI .i64) x7.library)) (S.len (M.m Int (eI .i64) x8.hand))) (S.len (M.m Int (eI .i64) x9.graveyard)))=z∧(addI (addI (lenI x7.library) (lenI x8.hand)) (lenI x9.graveyard))=z:=⟨_,rfl,d_e⟩
  (try rw [gv10]); (try (conv at gv10=>(lhs; cbv))); (try rw [gv10]); (try rw [ev10] at hf); clear gv10 ev10
  refine d_b hS hf ?_ ?_
  ·intro hf; cbv
   cases hf; exact hR _ (lp_eq rfl)
  intro hf; cbv
  exact d_x hk5 hf
 intro hf; cbv
 refine d_p hS hf (fun _=>c23 hM) ?_
 intro y11 hf; cbv
 refine d_b hS hf ?_ ?_
 ·intro hf; cbv
  refine d_p hS hf (fun _=>c24 hM) ?_
  intro y12 hf; cbv
  cases hf; exact hR _ (lp_eq rfl)
 intro hf; cbv
 cases hf; exact hR _ (lp_eq rfl)
theorem c13 {M:EncM} (hM:M=mapE) {cards:List GCard} {s:GState} {r:Bool} (hf:law39_valid cards s=some r):Pv.Fn Tryz.prog glF 13 [.sl 17 (M.m GCard (eGCard M) cards) false,.agg (eGState M s)] (fun u=>u=.sb r):=by
 refine fn_dec (T:=tab) tabOK rfl wf Tryz.func13 rfl Tryz.call13 rfl ?_
 intro S R hS hR
 have q:=sf hM hS
 unfold law39_valid at hf
 cbv
 refine d_p hS hf (fun _=>c23 hM) ?_
 intro y1 hf; cbv
 refine d_b hS hf ?_ ?_
 ·intro hf; cbv
  refine d_p hS hf (fun _=>c24 hM) ?_
  intro y2 hf; cbv
  cases hf; exact hR _ (lp_eq rfl)
 intro hf; cbv
 cases hf; exact hR _ (lp_eq rfl)
end Go.Proofs.YtddcpnlflncahaaGreat
