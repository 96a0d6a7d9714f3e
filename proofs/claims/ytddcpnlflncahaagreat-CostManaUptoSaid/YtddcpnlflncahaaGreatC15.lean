import Derived.Test.YtddcpnlflncahaaGreatC11
import Derived.Test.YtddcpnlflncahaaGreatC12
import Derived.Test.YtddcpnlflncahaaGreatC13
set_option linter.all false
namespace Go.Proofs.YtddcpnlflncahaaGreat
open Go Go.Pv
set_option maxRecDepth 100000
set_option maxHeartbeats 2000000
theorem c133 {M:EncM} (hM:M=mapE) {c:GChoice} {a:List Int} {r:Bool} (hf:ask_indexes c a=some r):Pv.Fn Tryz.prog glF 133 [.agg (eGChoice M c),.sl 1 (M.m Int (eI .i64) a) false] (fun u=>u=.sb r):=by
 refine fn_dec (T:=(tabc [8])) (tabcOK [8]) rfl wf Tryz.func133 rfl Tryz.call133 rfl ?_
 intro S R hS hR
 have q:=sf hM hS
 unfold ask_indexes at hf
 cbv
 refine d_lp hS (tabcOK [8]) wf [] [1,2,7,8,9] (fun s1=>⟨tpsL 0 31 [(1,.sl 1 (M.m Int (eI .i64) a) false),(2,.lv 0 0),(7,.sl 1 (M.m Int (eI .i64) a) false),(8,.si .i64 (S.len (M.m Int (eI .i64) a))),(9,.si .i64 s1)],[(0,some (.var false (eGChoice M c)))],1⟩) hf ?_
 intro Ik2 k2 s1 hk2 hf e he; subst he
 unfold ask_indexes_l1 at hf
 cbv
 refine d_b hS hf ?_ ?_
 ·intro hf; cbv
  refine d_idx hS hM hf rfl rfl ?_
  intro x4 hf; cbv
  refine d_cut hS [] [1,2,7,8,9,29] (fun s5=>⟨tpsL 0 31 [(1,.sl 1 (M.m Int (eI .i64) a) false),(2,.lv 0 0),(7,.sl 1 (M.m Int (eI .i64) a) false),(8,.si .i64 (S.len (M.m Int (eI .i64) a))),(9,.si .i64 s1),(29,.sb s5)],[(0,some (.var false (eGChoice M c)))],1⟩) hf ?_ ?_
  ·intro Ik6 k6 hk6 hf; cbv
   refine d_b hS hf ?_ ?_
   ·intro hf; cbv
    exact d_x hk6 hf
   intro hf; cbv
   refine d_b hS hf ?_ ?_
   ·intro hf; cbv
    exact d_x hk6 hf
   intro hf; cbv
   refine d_p hS hf (fun _=>c174 hM) ?_
   intro y8 hf; cbv
   exact d_x hk6 hf
  intro s5 hf; cbv
  refine d_br hS hf rfl ?_ ?_
  ·intro hf; cbv
   cases hf; exact hR _ (lp_eq rfl)
  intro hf; cbv
  exact d_x hk2 hf
 intro hf; cbv
 cases hf; exact hR _ (lp_eq rfl)
theorem c172 {M:EncM} (hM:M=mapE) {a:List GEffect} {b:List GEffect} {r:Bool} (hf:r17_SameList a b=some r):Pv.Fn Tryz.prog glF 172 [.sl 64 (M.m GEffect (eGEffect M) a) false,.sl 64 (M.m GEffect (eGEffect M) b) false] (fun u=>u=.sb r):=by
 refine fn_dec (T:=tab) tabOK rfl wf Tryz.func172 rfl Tryz.call172 rfl ?_
 intro S R hS hR
 have q:=sf hM hS
 unfold r17_SameList at hf
 cbv
 refine d_b hS hf ?_ ?_
 ·intro hf; cbv
  cases hf; exact hR _ (lp_eq rfl)
 intro hf; cbv
 refine d_lp hS tabOK wf [] [0,1,5] (fun s1=>⟨tpsL 0 27 [(0,.sl 64 (M.m GEffect (eGEffect M) a) false),(1,.sl 64 (M.m GEffect (eGEffect M) b) false),(5,.si .i64 s1)],[],0⟩) hf ?_
 intro Ik2 k2 s1 hk2 hf e he; subst he
 unfold r17_SameList_l1 at hf
 cbv
 refine d_b hS hf ?_ ?_
 ·intro hf; cbv
  refine d_o hS ?_; cbv
  refine d_idx hS hM hf rfl rfl ?_
  intro x4 hf; cbv
  refine d_idx hS hM hf rfl rfl ?_
  intro x5 hf; cbv
  refine d_c hS hf (fun _=>c207 hM) ?_
  intro y6 hf; cbv
  refine d_b hS hf ?_ ?_
  ·intro hf; cbv
   cases hf; exact hR _ (lp_eq rfl)
  intro hf; cbv
  exact d_x hk2 hf
 intro hf; cbv
 cases hf; exact hR _ (lp_eq rfl)
theorem c154 {M:EncM} (hM:M=mapE) {s:ByteArray} {r:Bool} (hf:r10_IsSub s=some r):Pv.Fn Tryz.prog glF 154 [.str s] (fun u=>u=.sb r):=by
 refine fn_dec (T:=tab) tabOK rfl wf Tryz.func154 rfl Tryz.call154 rfl ?_
 intro S R hS hR
 have q:=sf hM hS
 unfold r10_IsSub at hf
 cbv
 refine d_p hS hf (fun _=>c112 hM) ?_
 intro y1 hf; cbv
 refine d_br hS hf rfl ?_ ?_
 ·intro hf; cbv
  refine d_p hS hf (fun _=>c188 hM) ?_
  intro y2 hf; cbv
  refine d_p hS hf (fun _=>c187 hM) ?_
  intro y3 hf; cbv
  refine d_b hS hf ?_ ?_
  ·intro hf; cbv
   refine d_p hS hf (fun _=>c189 hM) ?_
   intro y4 hf; cbv
   refine d_p hS hf (fun _=>c187 hM) ?_
   intro y5 hf; cbv
   cases hf; exact hR _ d_l
  intro hf; cbv
  cases hf; exact hR _ (lp_eq rfl)
 intro hf; cbv
 cases hf; exact hR _ (lp_eq rfl)
theorem c241 {M:EncM} (hM:M=mapE) {name:ByteArray} {b:GBound} {r:ByteArray} (hf:r13_boundWord name b=some r):Pv.Fn Tryz.prog glF 241 [.str name,.agg (eGBound M b)] (fun u=>u=.str r):=by
 refine fn_dec (T:=tab) tabOK rfl wf Tryz.func241 rfl Tryz.call241 rfl ?_
 intro S R hS hR
 have q:=sf hM hS
 unfold r13_boundWord at hf
 cbv
 refine d_b hS hf ?_ ?_
 ·intro hf; cbv
  cases hf; exact hR _ (lp_eq rfl)
 intro hf; cbv
 refine d_p hS hf (fun _=>c251 hM) ?_
 intro y1 hf; cbv
 refine d_o hS ?_; cbv
 refine d_idx hS hM hf rfl rfl ?_
 intro x2 hf; cbv
 refine d_cat hS hf rfl rfl ?_
 intro x3 hf; cbv
 refine d_c hS hf (fun _=>c206 hM) ?_
 intro y4 hf; cbv
 refine d_cat hS hf rfl rfl ?_
 intro x5 hf; cbv
 cases hf; exact hR _ (lp_eq rfl)
theorem c121 {M:EncM} (hM:M=mapE) {s:GState} {o:GObject} {r:Bool} (hf:r26_placed s o=some r):Pv.Fn Tryz.prog glF 121 [.agg (eGState M s),.agg (eGObject M o)] (fun u=>u=.sb r):=by
 refine fn_dec (T:=tab) tabOK rfl wf Tryz.func121 rfl Tryz.call121 rfl ?_
 intro S R hS hR
 have q:=sf hM hS
 unfold r26_placed at hf
 cbv
 refine d_b hS hf ?_ ?_
 ·intro hf; cbv
  refine d_p hS hf (fun _=>c167 hM) ?_
  intro y1 hf; cbv
  cases hf; exact hR _ d_l
 intro hf; cbv
 refine d_o hS ?_; cbv
 refine d_c hS hf (fun _=>c168 hM) ?_
 intro y2 hf; cbv
 refine d_c hS hf (fun _=>c163 hM) ?_
 intro y3 hf; cbv
 cases hf; exact hR _ d_l
theorem c202 {M:EncM} (hM:M=mapE) {mask:Int} {r:ByteArray} (hf:r10_TypesText mask=some r):Pv.Fn Tryz.prog glF 202 [.si .i64 mask] (fun u=>u=.str r):=by
 refine fn_dec (T:=tab) tabOK rfl wf Tryz.func202 rfl Tryz.call202 rfl ?_
 intro S R hS hR
 have q:=sf hM hS
 unfold r10_TypesText at hf
 cbv
 refine d_b hS hf ?_ ?_
 ·intro hf; cbv
  cases hf; exact hR _ (lp_eq rfl)
 intro hf; cbv
 refine d_b hS hf ?_ ?_
 ·intro hf; cbv
  cases hf; exact hR _ (lp_eq rfl)
 intro hf; cbv
 refine d_p hS hf (fun _=>c189 hM) ?_
 intro y1 hf; cbv
 refine d_p hS hf (fun _=>c230 hM) ?_
 intro y2 hf; cbv
 cases hf; exact hR _ (lp_eq rfl)
theorem c56 {M:EncM} (hM:M=mapE) {p:Arr6 Int} {c:GCost} {x:Int} {r:Bool} (hf:mana_CanPay p c x=some r):Pv.Fn Tryz.prog glF 56 [.agg [.si .i64 p.a0,.si .i64 p.a1,.si .i64 p.a2,.si .i64 p.a3,.si .i64 p.a4,.si .i64 p.a5],.agg (eGCost M c),.si .i64 x] (fun u=>u=.sb r):=by
 refine fn_dec (T:=tab) tabOK rfl wf Tryz.func56 rfl Tryz.call56 rfl ?_
 intro S R hS hR
 have q:=sf hM hS
 unfold mana_CanPay at hf
 cbv
 refine d_p hS hf (fun _=>c42 hM) ?_
 intro y1 hf; cbv
 cases hf; exact hR _ d_l
theorem c60 {M:EncM} (hM:M=mapE) {p:Arr6 Int} {c:GCost} {x:Int} {r:Bool} (hf:r08_CanPay p c x=some r):Pv.Fn Tryz.prog glF 60 [.agg [.si .i64 p.a0,.si .i64 p.a1,.si .i64 p.a2,.si .i64 p.a3,.si .i64 p.a4,.si .i64 p.a5],.agg (eGCost M c),.si .i64 x] (fun u=>u=.sb r):=by
 refine fn_dec (T:=tab) tabOK rfl wf Tryz.func60 rfl Tryz.call60 rfl ?_
 intro S R hS hR
 have q:=sf hM hS
 unfold r08_CanPay at hf
 cbv
 refine d_p hS hf (fun _=>c45 hM) ?_
 intro y1 hf; cbv
 cases hf; exact hR _ d_l
theorem c86_0 {M:EncM} (hM:M=mapE) {s:List GObject} {r:Bool} (hf:slices_ContainsFunc_object s turn_fighting_1=some r):Pv.Fn Tryz.prog glF 86 [.sl 19 (M.m GObject (eGObject M) s) false,.fn 87 []] (fun u=>u=.sb r):=by
 refine fn_dec (T:=tab) tabOK rfl wf Tryz.func86 rfl Tryz.call86 rfl ?_
 intro S R hS hR
 have q:=sf hM hS
 unfold slices_ContainsFunc_object at hf
 cbv
 refine d_p hS hf (fun _=>c54_0 hM) ?_
 intro y1 hf; cbv
 cases hf; exact hR _ d_l
theorem c162 {M:EncM} (hM:M=mapE) {s:GState} {id:Int} {r:GObject × Bool} (hf:r26_object s id=some r):Pv.Fn Tryz.prog glF 162 [.agg (eGState M s),.si .i64 id] (fun u=>u=.tup [.agg (eGObject M r.1),.sb r.2]):=by
 refine fn_dec (T:=tab) tabOK rfl wf Tryz.func162 rfl Tryz.call162 rfl ?_
 intro S R hS hR
 have q:=sf hM hS
 unfold r26_object at hf
 cbv
 refine d_p hS hf (fun _=>c57 hM) ?_
 intro y1 hf; cbv
 cases hf; exact hR _ (lp_eq rfl)
theorem c175 {M:EncM} (hM:M=mapE) {l:List Int} {n:Int} {r:Bool} (hf:idset_Has l n=some r):Pv.Fn Tryz.prog glF 175 [.sl 1 (M.m Int (eI .i64) l) false,.si .i64 n] (fun u=>u=.sb r):=by
 refine fn_dec (T:=tab) tabOK rfl wf Tryz.func175 rfl Tryz.call175 rfl ?_
 intro S R hS hR
 have q:=sf hM hS
 unfold idset_Has at hf
 cbv
 refine d_p hS hf (fun _=>c84 hM) ?_
 intro y1 hf; cbv
 cases hf; exact hR _ (lp_eq rfl)
end Go.Proofs.YtddcpnlflncahaaGreat
