import Derived.Test.YtddcpnlflncahaaGreatC07
set_option linter.all false
namespace Go.Proofs.YtddcpnlflncahaaGreat
open Go Go.Pv
set_option maxRecDepth 100000
set_option maxHeartbeats 2000000
theorem s238 {M:EncM} (hM:M=mapE) {l:List ByteArray} {s:ByteArray} {r:List ByteArray} (hf:r13_add l s=some r):Pv.FnS Tryz.prog glF 238 [.os 0 0 (M.n ByteArray l),.str s] [(0,some (.arr false 1 (M.m ByteArray eS l)))] 1 (fun u s n=>u=.os 1 0 (M.n ByteArray r)∧s=[(0,none),(1,some (.arr false 1 (M.m ByteArray eS r)))]∧n=2):=by
 refine fnS_dec (T:=(tabx 1 [] [[(1,true)]])) (tabxOK 1 [] [[(1,true)]]) wf Tryz.func238 rfl Tryz.call238 rfl ?_
 intro S R hS hR
 have q:=sf hM hS
 unfold r13_add at hf
 cbv
 refine d_b hS hf ?_ ?_
 ·intro hf; cbv
  cases hf; exact hR _ _ _ (by (try simp only [q]); repeat' constructor) (by (try simp only [q]); repeat' constructor) rfl
 intro hf; cbv
 refine d_room hS hf d_e ?_
 intro hf; cbv
 cases hf; exact hR _ _ _ (by (try simp only [q]); repeat' constructor) (by (try simp only [q]); repeat' constructor) rfl
theorem o127 {M:EncM} (hM:M=mapE) {s:List GSpec} {r:List GSpec} (hf:slices_Clone_spec s=some r):Pv.FnS Tryz.prog glF 127 [.sl 18 (M.m GSpec (eGSpec M) s) false] [] 0 (fun u s n=>u=.os 0 0 (M.n GSpec r)∧s=[(0,some (.arr false 18 (M.m GSpec (eGSpec M) r)))]∧n=1):=by
 refine fnS_dec (T:=(tabx 0 [] [[(18,true)]])) (tabxOK 0 [] [[(18,true)]]) wf Tryz.func127 rfl Tryz.call127 rfl ?_
 intro S R hS hR
 have q:=sf hM hS
 unfold slices_Clone_spec at hf
 cbv
 refine d_nil hS hM hf rfl (by intro h; subst h; exact fun h=>h) ?_ ?_
 ·intro hf; cbv
  cases hf; exact hR _ _ _ (by (try simp only [q]); repeat' constructor) (by (try simp only [q]); repeat' constructor) rfl
 intro hf; cbv
 refine d_room hS hf d_e ?_
 intro hf; cbv
 cases hf; exact hR _ _ _ (by (try simp only [q]); repeat' constructor) (by (try simp only [q]); repeat' constructor) rfl
theorem o77 {M:EncM} (hM:M=mapE) {s:List GItem} {r:List GItem} (hf:slices_Clone_item s=some r):Pv.FnS Tryz.prog glF 77 [.sl 94 (M.m GItem (eGItem M) s) false] [] 0 (fun u s n=>u=.os 0 0 (M.n GItem r)∧s=[(0,some (.arr false 94 (M.m GItem (eGItem M) r)))]∧n=1):=by
 refine fnS_dec (T:=(tabx 0 [] [[(94,true)]])) (tabxOK 0 [] [[(94,true)]]) wf Tryz.func77 rfl Tryz.call77 rfl ?_
 intro S R hS hR
 have q:=sf hM hS
 unfold slices_Clone_item at hf
 cbv
 refine d_nil hS hM hf rfl (by intro h; subst h; exact fun h=>h) ?_ ?_
 ·intro hf; cbv
  cases hf; exact hR _ _ _ (by (try simp only [q]); repeat' constructor) (by (try simp only [q]); repeat' constructor) rfl
 intro hf; cbv
 refine d_room hS hf d_e ?_
 intro hf; cbv
 cases hf; exact hR _ _ _ (by (try simp only [q]); repeat' constructor) (by (try simp only [q]); repeat' constructor) rfl
theorem c123 {M:EncM} (hM:M=mapE) {l:List Int} {r:Bool} (hf:r03_Is l=some r):Pv.Fn Tryz.prog glF 123 [.sl 1 (M.m Int (eI .i64) l) false] (fun u=>u=.sb r):=by
 refine fn_dec (T:=tab) tabOK rfl wf Tryz.func123 rfl Tryz.call123 rfl ?_
 intro S R hS hR
 have q:=sf hM hS
 unfold r03_Is at hf
 cbv
 refine d_lp hS tabOK wf [] [0,3] (fun s1=>⟨tpsL 0 20 [(0,.sl 1 (M.m Int (eI .i64) l) false),(3,.si .i64 s1)],[],0⟩) hf ?_
 intro Ik2 k2 s1 hk2 hf e he; subst he
 unfold r03_Is_l1 at hf
 cbv
 refine d_b hS hf ?_ ?_
 ·intro hf; cbv
  refine d_o hS ?_; cbv
  refine d_idx hS hM hf rfl d_e ?_
  intro x4 hf; cbv
  refine d_idx hS hM hf rfl rfl ?_
  intro x5 hf; cbv
  refine d_b hS hf ?_ ?_
  ·intro hf; cbv
   cases hf; exact hR _ (lp_eq rfl)
  intro hf; cbv
  exact d_x hk2 hf
 intro hf; cbv
 cases hf; exact hR _ (lp_eq rfl)
theorem o81 {M:EncM} (hM:M=mapE) {s:List GCont} {r:List GCont} (hf:slices_Clone_cont s=some r):Pv.FnS Tryz.prog glF 81 [.sl 6 (M.m GCont (eGCont M) s) false] [] 0 (fun u s n=>u=.os 0 0 (M.n GCont r)∧s=[(0,some (.arr false 6 (M.m GCont (eGCont M) r)))]∧n=1):=by
 refine fnS_dec (T:=(tabx 0 [] [[(6,true)]])) (tabxOK 0 [] [[(6,true)]]) wf Tryz.func81 rfl Tryz.call81 rfl ?_
 intro S R hS hR
 have q:=sf hM hS
 unfold slices_Clone_cont at hf
 cbv
 refine d_nil hS hM hf rfl (by intro h; subst h; exact fun h=>h) ?_ ?_
 ·intro hf; cbv
  cases hf; exact hR _ _ _ (by (try simp only [q]); repeat' constructor) (by (try simp only [q]); repeat' constructor) rfl
 intro hf; cbv
 refine d_room hS hf d_e ?_
 intro hf; cbv
 cases hf; exact hR _ _ _ (by (try simp only [q]); repeat' constructor) (by (try simp only [q]); repeat' constructor) rfl
theorem o82 {M:EncM} (hM:M=mapE) {s:List GMod} {r:List GMod} (hf:slices_Clone_mod s=some r):Pv.FnS Tryz.prog glF 82 [.sl 20 (M.m GMod (eGMod M) s) false] [] 0 (fun u s n=>u=.os 0 0 (M.n GMod r)∧s=[(0,some (.arr false 20 (M.m GMod (eGMod M) r)))]∧n=1):=by
 refine fnS_dec (T:=(tabx 0 [] [[(20,true)]])) (tabxOK 0 [] [[(20,true)]]) wf Tryz.func82 rfl Tryz.call82 rfl ?_
 intro S R hS hR
 have q:=sf hM hS
 unfold slices_Clone_mod at hf
 cbv
 refine d_nil hS hM hf rfl (by intro h; subst h; exact fun h=>h) ?_ ?_
 ·intro hf; cbv
  cases hf; exact hR _ _ _ (by (try simp only [q]); repeat' constructor) (by (try simp only [q]); repeat' constructor) rfl
 intro hf; cbv
 refine d_room hS hf d_e ?_
 intro hf; cbv
 cases hf; exact hR _ _ _ (by (try simp only [q]); repeat' constructor) (by (try simp only [q]); repeat' constructor) rfl
theorem c62 {M:EncM} (hM:M=mapE) {l:List GCard} {name:ByteArray} {r:Int} (hf:r22_Find l name=some r):Pv.Fn Tryz.prog glF 62 [.sl 17 (M.m GCard (eGCard M) l) false,.str name] (fun u=>u=.si .i64 r):=by
 refine fn_dec (T:=tab) tabOK rfl wf Tryz.func62 rfl Tryz.call62 rfl ?_
 intro S R hS hR
 have q:=sf hM hS
 unfold r22_Find at hf
 cbv
 refine d_lp hS tabOK wf [] [0,1,5] (fun s1=>⟨tpsL 0 20 [(0,.sl 17 (M.m GCard (eGCard M) l) false),(1,.str name),(5,.si .i64 s1)],[],0⟩) hf ?_
 intro Ik2 k2 s1 hk2 hf e he; subst he
 unfold r22_Find_l1 at hf
 cbv
 refine d_b hS hf ?_ ?_
 ·intro hf; cbv
  refine d_idx hS hM hf rfl rfl ?_
  intro x4 hf; cbv
  refine d_b hS hf ?_ ?_
  ·intro hf; cbv
   cases hf; exact hR _ (lp_eq rfl)
  intro hf; cbv
  exact d_x hk2 hf
 intro hf; cbv
 cases hf; exact hR _ (lp_eq rfl)
theorem o76 {M:EncM} (hM:M=mapE) {s:List Int} {r:List Int} (hf:slices_Clone_int s=some r):Pv.FnS Tryz.prog glF 76 [.sl 1 (M.m Int (eI .i64) s) false] [] 0 (fun u s n=>u=.os 0 0 (M.n Int r)∧s=[(0,some (.arr false 1 (M.m Int (eI .i64) r)))]∧n=1):=by
 refine fnS_dec (T:=(tabx 0 [] [[(1,true)]])) (tabxOK 0 [] [[(1,true)]]) wf Tryz.func76 rfl Tryz.call76 rfl ?_
 intro S R hS hR
 have q:=sf hM hS
 unfold slices_Clone_int at hf
 cbv
 refine d_nil hS hM hf rfl (by intro h; subst h; exact fun h=>h) ?_ ?_
 ·intro hf; cbv
  cases hf; exact hR _ _ _ (by (try simp only [q]); repeat' constructor) (by (try simp only [q]); repeat' constructor) rfl
 intro hf; cbv
 refine d_room hS hf d_e ?_
 intro hf; cbv
 cases hf; exact hR _ _ _ (by (try simp only [q]); repeat' constructor) (by (try simp only [q]); repeat' constructor) rfl
theorem c187 {M:EncM} (hM:M=mapE) {l:List ByteArray} {s:ByteArray} {r:Int} (hf:r10_index l s=some r):Pv.Fn Tryz.prog glF 187 [.sl 1 (M.m ByteArray eS l) false,.str s] (fun u=>u=.si .i64 r):=by
 refine fn_dec (T:=tab) tabOK rfl wf Tryz.func187 rfl Tryz.call187 rfl ?_
 intro S R hS hR
 have q:=sf hM hS
 unfold r10_index at hf
 cbv
 refine d_lp hS tabOK wf [] [0,1,5] (fun s1=>⟨tpsL 0 19 [(0,.sl 1 (M.m ByteArray eS l) false),(1,.str s),(5,.si .i64 s1)],[],0⟩) hf ?_
 intro Ik2 k2 s1 hk2 hf e he; subst he
 unfold r10_index_l1 at hf
 cbv
 refine d_b hS hf ?_ ?_
 ·intro hf; cbv
  refine d_idx hS hM hf rfl rfl ?_
  intro x4 hf; cbv
  refine d_b hS hf ?_ ?_
  ·intro hf; cbv
   cases hf; exact hR _ (lp_eq rfl)
  intro hf; cbv
  exact d_x hk2 hf
 intro hf; cbv
 cases hf; exact hR _ (lp_eq rfl)
theorem c111 {M:EncM} (hM:M=mapE) {s:GState} {id:Int} {r:Int} (hf:r25_place s id=some r):Pv.Fn Tryz.prog glF 111 [.agg (eGState M s),.si .i64 id] (fun u=>u=.si .i64 r):=by
 refine fn_dec (T:=tab) tabOK rfl wf Tryz.func111 rfl Tryz.call111 rfl ?_
 intro S R hS hR
 have q:=sf hM hS
 unfold r25_place at hf
 cbv
 refine d_lp hS tabOK wf [] [1,2,5] (fun s1=>⟨tpsL 0 22 [(1,.si .i64 id),(2,.lv 0 0),(5,.si .i64 s1)],[(0,some (.var false (eGState M s)))],1⟩) hf ?_
 intro Ik2 k2 s1 hk2 hf e he; subst he
 unfold r25_place_l1 at hf
 cbv
 refine d_b hS hf ?_ ?_
 ·intro hf; cbv
  refine d_idx hS hM hf rfl rfl ?_
  intro x4 hf; cbv
  refine d_b hS hf ?_ ?_
  ·intro hf; cbv
   cases hf; exact hR _ (lp_eq rfl)
  intro hf; cbv
  exact d_x hk2 hf
 intro hf; cbv
 cases hf; exact hR _ (lp_eq rfl)
theorem c222 {M:EncM} (hM:M=mapE) {op:Int} {r:ByteArray} (hf:r17_Word op=some r):Pv.Fn Tryz.prog glF 222 [.si .i64 op] (fun u=>u=.str r):=by
 refine fn_dec (T:=(tabc [2])) (tabcOK [2]) rfl wf Tryz.func222 rfl Tryz.call222 rfl ?_
 intro S R hS hR
 have q:=sf hM hS
 unfold r17_Word at hf
 cbv
 refine d_cut hS [] [0,9] (fun s1=>⟨tpsL 0 16 [(0,.si .i64 op),(9,.sb s1)],[],0⟩) hf ?_ ?_
 ·intro Ik2 k2 hk2 hf; cbv
  refine d_b hS hf ?_ ?_
  ·intro hf; cbv
   exact d_x hk2 hf
  intro hf; cbv
  exact d_x hk2 hf
 intro s1 hf; cbv
 refine d_br hS hf rfl ?_ ?_
 ·intro hf; cbv
  cases hf; exact hR _ (lp_eq rfl)
 intro hf; cbv
 refine d_ix hS hf rfl d_e ?_
 intro j4 _ hf; cbv
 refine d_row hS hM (e:=eS) hf d_e d_e ?_
 intro x5 hf; cbv
 cases hf; exact hR _ (lp_eq rfl)
theorem c232 {M:EncM} (hM:M=mapE) {i:Int} {r:ByteArray} (hf:r09_Name i=some r):Pv.Fn Tryz.prog glF 232 [.si .i64 i] (fun u=>u=.str r):=by
 refine fn_dec (T:=tab) tabOK rfl wf Tryz.func232 rfl Tryz.call232 rfl ?_
 intro S R hS hR
 have q:=sf hM hS
 unfold r09_Name at hf
 cbv
 refine d_b hS hf ?_ ?_
 ·intro hf; cbv
  cases hf; exact hR _ (lp_eq rfl)
 intro hf; cbv
 refine d_b hS hf ?_ ?_
 ·intro hf; cbv
  cases hf; exact hR _ (lp_eq rfl)
 intro hf; cbv
 refine d_b hS hf ?_ ?_
 ·intro hf; cbv
  cases hf; exact hR _ (lp_eq rfl)
 intro hf; cbv
 refine d_b hS hf ?_ ?_
 ·intro hf; cbv
  cases hf; exact hR _ (lp_eq rfl)
 intro hf; cbv
 refine d_b hS hf ?_ ?_
 ·intro hf; cbv
  cases hf; exact hR _ (lp_eq rfl)
 intro hf; cbv
 cases hf; exact hR _ (lp_eq rfl)
theorem c193 {M:EncM} (hM:M=mapE) {when:Int} {r:Bool} (hf:r18_hasWho when=some r):Pv.Fn Tryz.prog glF 193 [.si .i64 when] (fun u=>u=.sb r):=by
 refine fn_dec (T:=tab) tabOK rfl wf Tryz.func193 rfl Tryz.call193 rfl ?_
 intro S R hS hR
 have q:=sf hM hS
 unfold r18_hasWho at hf
 cbv
 refine d_b hS hf ?_ ?_
 ·intro hf; cbv
  cases hf; exact hR _ (lp_eq rfl)
 intro hf; cbv
 refine d_b hS hf ?_ ?_
 ·intro hf; cbv
  cases hf; exact hR _ (lp_eq rfl)
 intro hf; cbv
 refine d_b hS hf ?_ ?_
 ·intro hf; cbv
  cases hf; exact hR _ (lp_eq rfl)
 intro hf; cbv
 refine d_b hS hf ?_ ?_
 ·intro hf; cbv
  cases hf; exact hR _ (lp_eq rfl)
 intro hf; cbv
 refine d_b hS hf ?_ ?_
 ·intro hf; cbv
  cases hf; exact hR _ (lp_eq rfl)
 intro hf; cbv
 cases hf; exact hR _ d_l
theorem c249 {M:EncM} (hM:M=mapE) {p:Arr6 Int} {r:GCost} (hf:r08_cost p=some r):Pv.Fn Tryz.prog glF 249 [.agg [.si .i64 p.a0,.si .i64 p.a1,.si .i64 p.a2,.si .i64 p.a3,.si .i64 p.a4,.si .i64 p.a5]] (fun u=>u=.agg (eGCost M r)):=by
 refine fn_dec (T:=(tabc [6])) (tabcOK [6]) rfl wf Tryz.func249 rfl Tryz.call249 rfl ?_
 intro S R hS hR
 have q:=sf hM hS
 unfold r08_cost at hf
 cbv
 refine l_roundsF hS (tabcOK [6]) wf 7 ?_; intro g1 hg1
 refine hg1 _ _ ?_; cbv
 refine l_seq hS ?_; cbv
 refine hg1 _ _ ?_; cbv
 refine l_seq hS ?_; cbv
 refine hg1 _ _ ?_; cbv
 refine l_seq hS ?_; cbv
 refine hg1 _ _ ?_; cbv
 refine l_seq hS ?_; cbv
 refine hg1 _ _ ?_; cbv
 refine l_seq hS ?_; cbv
 refine hg1 _ _ ?_; cbv
 refine l_seq hS ?_; cbv
 cases hf; exact hR _ (lp_eq rfl)
theorem c132 {M:EncM} (hM:M=mapE) {n:Int} {r:List Int} (hf:ask_first n=some r):Pv.Fn Tryz.prog glF 132 [.si .i64 n] (fun u=>u=.sl 1 (M.m Int (eI .i64) r) false):=by
 refine fn_dec (T:=tab) tabOK rfl wf Tryz.func132 rfl Tryz.call132 rfl ?_
 intro S R hS hR
 have q:=sf hM hS
 unfold ask_first at hf
 cbv
 refine d_lp hS tabOK wf [.tO 3 1] [3,5,6] (fun s1=>⟨tpsL 0 15 [(3,.os 0 0 (S.lenN (M.m Int (eI .i64) s1.2))),(5,.si .i64 n),(6,.si .i64 s1.1)],[(0,some (.arr false 1 (M.m Int (eI .i64) s1.2)))],1⟩) hf ?_
 intro Ik2 k2 s1 hk2 hf e he; subst he
 unfold ask_first_l1 at hf
 cbv
 refine d_b hS hf ?_ ?_
 ·intro hf; cbv
  refine d_room hS hf d_e ?_
  intro hf; cbv
  exact d_x hk2 hf
 intro hf; cbv
 cases hf; exact hR _ d_l
theorem c137 {M:EncM} (hM:M=mapE) {n:Int} {r:List Int} (hf:r36_count n=some r):Pv.Fn Tryz.prog glF 137 [.si .i64 n] (fun u=>u=.sl 1 (M.m Int (eI .i64) r) false):=by
 refine fn_dec (T:=tab) tabOK rfl wf Tryz.func137 rfl Tryz.call137 rfl ?_
 intro S R hS hR
 have q:=sf hM hS
 unfold r36_count at hf
 cbv
 refine d_lp hS tabOK wf [.tO 3 1] [0,3,4] (fun s1=>⟨tpsL 0 15 [(0,.si .i64 n),(3,.os 0 0 (S.lenN (M.m Int (eI .i64) s1.2))),(4,.si .i64 s1.1)],[(0,some (.arr false 1 (M.m Int (eI .i64) s1.2)))],1⟩) hf ?_
 intro Ik2 k2 s1 hk2 hf e he; subst he
 unfold r36_count_l1 at hf
 cbv
 refine d_b hS hf ?_ ?_
 ·intro hf; cbv
  refine d_room hS hf d_e ?_
  intro hf; cbv
  exact d_x hk2 hf
 intro hf; cbv
 cases hf; exact hR _ d_l
theorem c155 {M:EncM} (hM:M=mapE) {mask:Int} {i:Int} {r:Bool} (hf:r10_bit mask i=some r):Pv.Fn Tryz.prog glF 155 [.si .i64 mask,.si .i64 i] (fun u=>u=.sb r):=by
 refine fn_dec (T:=tab) tabOK rfl wf Tryz.func155 rfl Tryz.call155 rfl ?_
 intro S R hS hR
 have q:=sf hM hS
 unfold r10_bit at hf
 cbv
 refine d_lp hS tabOK wf [] [0,1,5] (fun s1=>⟨tpsL 0 16 [(0,.si .i64 s1.1),(1,.si .i64 i),(5,.si .i64 s1.2)],[],0⟩) hf ?_
 intro Ik2 k2 s1 hk2 hf e he; subst he
 unfold r10_bit_l1 at hf
 cbv
 refine d_b hS hf ?_ ?_
 ·intro hf; cbv
  refine d_div hS hf rfl rfl ?_
  intro x4 hf; cbv
  exact d_x hk2 hf
 intro hf; cbv
 refine d_div hS hf rfl rfl ?_
 intro x5 hf; cbv
 cases hf; exact hR _ d_l
theorem c239 {M:EncM} (hM:M=mapE) {mask:Int} {i:Int} {r:Bool} (hf:r13_bit mask i=some r):Pv.Fn Tryz.prog glF 239 [.si .i64 mask,.si .i64 i] (fun u=>u=.sb r):=by
 refine fn_dec (T:=tab) tabOK rfl wf Tryz.func239 rfl Tryz.call239 rfl ?_
 intro S R hS hR
 have q:=sf hM hS
 unfold r13_bit at hf
 cbv
 refine d_lp hS tabOK wf [] [0,1,5] (fun s1=>⟨tpsL 0 16 [(0,.si .i64 s1.1),(1,.si .i64 i),(5,.si .i64 s1.2)],[],0⟩) hf ?_
 intro Ik2 k2 s1 hk2 hf e he; subst he
 unfold r13_bit_l1 at hf
 cbv
 refine d_b hS hf ?_ ?_
 ·intro hf; cbv
  refine d_div hS hf rfl rfl ?_
  intro x4 hf; cbv
  exact d_x hk2 hf
 intro hf; cbv
 refine d_div hS hf rfl rfl ?_
 intro x5 hf; cbv
 cases hf; exact hR _ d_l
theorem c136 {M:EncM} (hM:M=mapE) {kind:Int} {r:Bool} (hf:r36_single kind=some r):Pv.Fn Tryz.prog glF 136 [.si .i64 kind] (fun u=>u=.sb r):=by
 refine fn_dec (T:=tab) tabOK rfl wf Tryz.func136 rfl Tryz.call136 rfl ?_
 intro S R hS hR
 have q:=sf hM hS
 unfold r36_single at hf
 cbv
 refine d_b hS hf ?_ ?_
 ·intro hf; cbv
  cases hf; exact hR _ (lp_eq rfl)
 intro hf; cbv
 refine d_b hS hf ?_ ?_
 ·intro hf; cbv
  cases hf; exact hR _ (lp_eq rfl)
 intro hf; cbv
 refine d_b hS hf ?_ ?_
 ·intro hf; cbv
  cases hf; exact hR _ (lp_eq rfl)
 intro hf; cbv
 refine d_b hS hf ?_ ?_
 ·intro hf; cbv
  cases hf; exact hR _ (lp_eq rfl)
 intro hf; cbv
 cases hf; exact hR _ d_l
theorem c225 {M:EncM} (hM:M=mapE) {kind:Int} {r:ByteArray} (hf:r12_Name kind=some r):Pv.Fn Tryz.prog glF 225 [.si .i64 kind] (fun u=>u=.str r):=by
 refine fn_dec (T:=tab) tabOK rfl wf Tryz.func225 rfl Tryz.call225 rfl ?_
 intro S R hS hR
 have q:=sf hM hS
 unfold r12_Name at hf
 cbv
 refine d_b hS hf ?_ ?_
 ·intro hf; cbv
  cases hf; exact hR _ (lp_eq rfl)
 intro hf; cbv
 refine d_b hS hf ?_ ?_
 ·intro hf; cbv
  cases hf; exact hR _ (lp_eq rfl)
 intro hf; cbv
 refine d_b hS hf ?_ ?_
 ·intro hf; cbv
  cases hf; exact hR _ (lp_eq rfl)
 intro hf; cbv
 cases hf; exact hR _ (lp_eq rfl)
theorem c76 {M:EncM} (hM:M=mapE) {s:List Int} {r:List Int} (hf:slices_Clone_int s=some r):Pv.Fn Tryz.prog glF 76 [.sl 1 (M.m Int (eI .i64) s) false] (fun u=>u=.sl 1 (M.m Int (eI .i64) r) false):=by
 refine fn_dec (T:=tab) tabOK rfl wf Tryz.func76 rfl Tryz.call76 rfl ?_
 intro S R hS hR
 have q:=sf hM hS
 unfold slices_Clone_int at hf
 cbv
 refine d_nil hS hM hf rfl (by intro h; subst h; exact fun h=>h) ?_ ?_
 ·intro hf; cbv
  cases hf; exact hR _ (by (try simp only [q]); repeat' constructor)
 intro hf; cbv
 refine d_room hS hf d_e ?_
 intro hf; cbv
 cases hf; exact hR _ d_l
theorem c79 {M:EncM} (hM:M=mapE) {s:List GTarget} {r:List GTarget} (hf:slices_Clone_target s=some r):Pv.Fn Tryz.prog glF 79 [.sl 2 (M.m GTarget (eGTarget M) s) false] (fun u=>u=.sl 2 (M.m GTarget (eGTarget M) r) false):=by
 refine fn_dec (T:=tab) tabOK rfl wf Tryz.func79 rfl Tryz.call79 rfl ?_
 intro S R hS hR
 have q:=sf hM hS
 unfold slices_Clone_target at hf
 cbv
 refine d_nil hS hM hf rfl (by intro h; subst h; exact fun h=>h) ?_ ?_
 ·intro hf; cbv
  cases hf; exact hR _ d_st
 intro hf; cbv
 refine d_room hS hf d_e ?_
 intro hf; cbv
 cases hf; exact hR _ d_l
theorem c82 {M:EncM} (hM:M=mapE) {s:List GMod} {r:List GMod} (hf:slices_Clone_mod s=some r):Pv.Fn Tryz.prog glF 82 [.sl 20 (M.m GMod (eGMod M) s) false] (fun u=>u=.sl 20 (M.m GMod (eGMod M) r) false):=by
 refine fn_dec (T:=tab) tabOK rfl wf Tryz.func82 rfl Tryz.call82 rfl ?_
 intro S R hS hR
 have q:=sf hM hS
 unfold slices_Clone_mod at hf
 cbv
 refine d_nil hS hM hf rfl (by intro h; subst h; exact fun h=>h) ?_ ?_
 ·intro hf; cbv
  cases hf; exact hR _ d_st
 intro hf; cbv
 refine d_room hS hf d_e ?_
 intro hf; cbv
 cases hf; exact hR _ d_l
theorem c201 {M:EncM} (hM:M=mapE) {mask:Int} {r:Bool} (hf:r15_types mask=some r):Pv.Fn Tryz.prog glF 201 [.si .i64 mask] (fun u=>u=.sb r):=by
 refine fn_dec (T:=tab) tabOK rfl wf Tryz.func201 rfl Tryz.call201 rfl ?_
 intro S R hS hR
 have q:=sf hM hS
 unfold r15_types at hf
 cbv
 refine d_b hS hf ?_ ?_
 ·intro hf; cbv
  refine d_b hS hf ?_ ?_
  ·intro hf; cbv
   cases hf; exact hR _ d_l
  intro hf; cbv
  cases hf; exact hR _ (lp_eq rfl)
 intro hf; cbv
 cases hf; exact hR _ (lp_eq rfl)
theorem c64 {M:EncM} (hM:M=mapE) {n:Int} {least:Int} {most:Int} {r:Bool} (hf:r26_in n least most=some r):Pv.Fn Tryz.prog glF 64 [.si .i64 n,.si .i64 least,.si .i64 most] (fun u=>u=.sb r):=by
 refine fn_dec (T:=tab) tabOK rfl wf Tryz.func64 rfl Tryz.call64 rfl ?_
 intro S R hS hR
 have q:=sf hM hS
 unfold r26_in at hf
 cbv
 refine d_b hS hf ?_ ?_
 ·intro hf; cbv
  cases hf; exact hR _ d_l
 intro hf; cbv
 cases hf; exact hR _ (lp_eq rfl)
theorem c94 {M:EncM} (hM:M=mapE) {l:List GOption} {r:List GOption} (hf:ask_copied_option l=some r):Pv.Fn Tryz.prog glF 94 [.sl 3 (M.m GOption (eGOption M) l) false] (fun u=>u=.sl 3 (M.m GOption (eGOption M) r) false):=by
 refine fn_dec (T:=tab) tabOK rfl wf Tryz.func94 rfl Tryz.call94 rfl ?_
 intro S R hS hR
 have q:=sf hM hS
 unfold ask_copied_option at hf
 cbv
 refine d_room hS hf d_e ?_
 intro hf; cbv
 cases hf; exact hR _ d_l
theorem c87 {M:EncM} (hM:M=mapE) {o:GObject} {r:Bool} (hf:turn_fighting_1 o=some r):Pv.Fn Tryz.prog glF 87 [.agg (eGObject M o)] (fun u=>u=.sb r):=by
 refine fn_dec (T:=tab) tabOK rfl wf Tryz.func87 rfl Tryz.call87 rfl ?_
 intro S R hS hR
 have q:=sf hM hS
 unfold turn_fighting_1 at hf
 cbv
 refine d_b hS hf ?_ ?_
 ·intro hf; cbv
  cases hf; exact hR _ d_l
 intro hf; cbv
 cases hf; exact hR _ (lp_eq rfl)
theorem c247 {M:EncM} (hM:M=mapE) {kind:Int} {r:Bool} (hf:r16_numbered kind=some r):Pv.Fn Tryz.prog glF 247 [.si .i64 kind] (fun u=>u=.sb r):=by
 refine fn_dec (T:=tab) tabOK rfl wf Tryz.func247 rfl Tryz.call247 rfl ?_
 intro S R hS hR
 have q:=sf hM hS
 unfold r16_numbered at hf
 cbv
 refine d_b hS hf ?_ ?_
 ·intro hf; cbv
  cases hf; exact hR _ (lp_eq rfl)
 intro hf; cbv
 cases hf; exact hR _ d_l
theorem c39 {M:EncM} (hM:M=mapE) {l:List Int} {r:List Int} (hf:ask_copied_int l=some r):Pv.Fn Tryz.prog glF 39 [.sl 1 (M.m Int (eI .i64) l) false] (fun u=>u=.sl 1 (M.m Int (eI .i64) r) false):=by
 refine fn_dec (T:=tab) tabOK rfl wf Tryz.func39 rfl Tryz.call39 rfl ?_
 intro S R hS hR
 have q:=sf hM hS
 unfold ask_copied_int at hf
 cbv
 refine d_room hS hf d_e ?_
 intro hf; cbv
 cases hf; exact hR _ d_l
theorem c117 {M:EncM} (hM:M=mapE) {c:GCard} {r:Bool} (hf:r21_fast c=some r):Pv.Fn Tryz.prog glF 117 [.agg (eGCard M c)] (fun u=>u=.sb r):=by
 refine fn_dec (T:=tab) tabOK rfl wf Tryz.func117 rfl Tryz.call117 rfl ?_
 intro S R hS hR
 have q:=sf hM hS
 unfold r21_fast at hf
 cbv
 refine d_b hS hf ?_ ?_
 ·intro hf; cbv
  cases hf; exact hR _ (lp_eq rfl)
 intro hf; cbv
 cases hf; exact hR _ d_l
theorem c40 {M:EncM} (hM:M=mapE) {l:List Int} {r:List Int} (hf:r36_copied l=some r):Pv.Fn Tryz.prog glF 40 [.sl 1 (M.m Int (eI .i64) l) false] (fun u=>u=.sl 1 (M.m Int (eI .i64) r) false):=by
 refine fn_dec (T:=tab) tabOK rfl wf Tryz.func40 rfl Tryz.call40 rfl ?_
 intro S R hS hR
 have q:=sf hM hS
 unfold r36_copied at hf
 cbv
 refine d_room hS hf d_e ?_
 intro hf; cbv
 cases hf; exact hR _ d_l
theorem c88 {M:EncM} (hM:M=mapE) {l:List Int} {r:List Int} (hf:r25_ints l=some r):Pv.Fn Tryz.prog glF 88 [.sl 1 (M.m Int (eI .i64) l) false] (fun u=>u=.sl 1 (M.m Int (eI .i64) r) false):=by
 refine fn_dec (T:=tab) tabOK rfl wf Tryz.func88 rfl Tryz.call88 rfl ?_
 intro S R hS hR
 have q:=sf hM hS
 unfold r25_ints at hf
 cbv
 refine d_room hS hf d_e ?_
 intro hf; cbv
 cases hf; exact hR _ d_l
theorem c114 {M:EncM} (hM:M=mapE) {mask:Int} {r:Bool} (hf:r11_Is mask=some r):Pv.Fn Tryz.prog glF 114 [.si .i64 mask] (fun u=>u=.sb r):=by
 refine fn_dec (T:=tab) tabOK rfl wf Tryz.func114 rfl Tryz.call114 rfl ?_
 intro S R hS hR
 have q:=sf hM hS
 unfold r11_Is at hf
 cbv
 refine d_b hS hf ?_ ?_
 ·intro hf; cbv
  cases hf; exact hR _ d_l
 intro hf; cbv
 cases hf; exact hR _ (lp_eq rfl)
theorem c231 {M:EncM} (hM:M=mapE) {mask:Int} {r:Bool} (hf:r09_Is mask=some r):Pv.Fn Tryz.prog glF 231 [.si .i64 mask] (fun u=>u=.sb r):=by
 refine fn_dec (T:=tab) tabOK rfl wf Tryz.func231 rfl Tryz.call231 rfl ?_
 intro S R hS hR
 have q:=sf hM hS
 unfold r09_Is at hf
 cbv
 refine d_b hS hf ?_ ?_
 ·intro hf; cbv
  cases hf; exact hR _ d_l
 intro hf; cbv
 cases hf; exact hR _ (lp_eq rfl)
theorem c153 {M:EncM} (hM:M=mapE) {c:Int} {r:Bool} (hf:r02_low c=some r):Pv.Fn Tryz.prog glF 153 [.si .u8 c] (fun u=>u=.sb r):=by
 refine fn_dec (T:=tab) tabOK rfl wf Tryz.func153 rfl Tryz.call153 rfl ?_
 intro S R hS hR
 have q:=sf hM hS
 unfold r02_low at hf
 cbv
 refine d_b hS hf ?_ ?_
 ·intro hf; cbv
  cases hf; exact hR _ d_l
 intro hf; cbv
 cases hf; exact hR _ (lp_eq rfl)
theorem c100 {M:EncM} (hM:M=mapE) {c:GChoice} {r:GChoice} (hf:r36_Copy c=some r):Pv.Fn Tryz.prog glF 100 [.agg (eGChoice M c)] (fun u=>u=.agg (eGChoice M r)):=by
 refine fn_dec (T:=tab) tabOK rfl wf Tryz.func100 rfl Tryz.call100 rfl ?_
 intro S R hS hR
 have q:=sf hM hS
 unfold r36_Copy at hf
 cbv
 refine d_room hS hf d_e ?_
 intro hf; cbv
 cases hf; exact hR _ d_l
theorem c166 {M:EncM} (hM:M=mapE) {o:GObject} {r:GObject} (hf:r24_Ended o=some r):Pv.Fn Tryz.prog glF 166 [.agg (eGObject M o)] (fun u=>u=.agg (eGObject M r)):=by
 refine fn_dec (T:=tab) tabOK rfl wf Tryz.func166 rfl Tryz.call166 rfl ?_
 intro S R hS hR
 have q:=sf hM hS
 unfold r24_Ended at hf
 cbv
 cases hf; exact hR _ (lp_eq rfl)
theorem c165 {M:EncM} (hM:M=mapE) {o:GObject} {r:GObject} (hf:r24_Calm o=some r):Pv.Fn Tryz.prog glF 165 [.agg (eGObject M o)] (fun u=>u=.agg (eGObject M r)):=by
 refine fn_dec (T:=tab) tabOK rfl wf Tryz.func165 rfl Tryz.call165 rfl ?_
 intro S R hS hR
 have q:=sf hM hS
 unfold r24_Calm at hf
 cbv
 cases hf; exact hR _ (lp_eq rfl)
theorem c50 {M:EncM} (hM:M=mapE) {k:GAskAsker} {r:Int} (hf:ask_Asker_Used k=some r):Pv.Fn Tryz.prog glF 50 [.pp (eGAskAsker M k)] (fun u=>u=.si .i64 r):=by
 refine fn_dec (T:=tab) tabOK rfl wf Tryz.func50 rfl Tryz.call50 rfl ?_
 intro S R hS hR
 have q:=sf hM hS
 unfold ask_Asker_Used at hf
 cbv
 cases hf; exact hR _ (lp_eq rfl)
theorem c51 {M:EncM} (hM:M=mapE) {k:GR36Asker} {r:Int} (hf:r36_Asker_Used k=some r):Pv.Fn Tryz.prog glF 51 [.pp (eGR36Asker M k)] (fun u=>u=.si .i64 r):=by
 refine fn_dec (T:=tab) tabOK rfl wf Tryz.func51 rfl Tryz.call51 rfl ?_
 intro S R hS hR
 have q:=sf hM hS
 unfold r36_Asker_Used at hf
 cbv
 cases hf; exact hR _ (lp_eq rfl)
theorem c48 {M:EncM} (hM:M=mapE) {k:GAskAsker} {r:Bool} (hf:ask_Asker_Bad k=some r):Pv.Fn Tryz.prog glF 48 [.pp (eGAskAsker M k)] (fun u=>u=.sb r):=by
 refine fn_dec (T:=tab) tabOK rfl wf Tryz.func48 rfl Tryz.call48 rfl ?_
 intro S R hS hR
 have q:=sf hM hS
 unfold ask_Asker_Bad at hf
 cbv
 cases hf; exact hR _ (lp_eq rfl)
theorem c49 {M:EncM} (hM:M=mapE) {k:GR36Asker} {r:Bool} (hf:r36_Asker_Bad k=some r):Pv.Fn Tryz.prog glF 49 [.pp (eGR36Asker M k)] (fun u=>u=.sb r):=by
 refine fn_dec (T:=tab) tabOK rfl wf Tryz.func49 rfl Tryz.call49 rfl ?_
 intro S R hS hR
 have q:=sf hM hS
 unfold r36_Asker_Bad at hf
 cbv
 cases hf; exact hR _ (lp_eq rfl)
theorem c188 {M:EncM} (hM:M=mapE)  {r:List ByteArray} (hf:r10_superWords =some r):Pv.Fn Tryz.prog glF 188 [] (fun u=>u=.sl 1 (M.m ByteArray eS r) false):=by
 refine fn_dec (T:=tab) tabOK rfl wf Tryz.func188 rfl Tryz.call188 rfl ?_
 intro S R hS hR
 have q:=sf hM hS
 unfold r10_superWords at hf
 cbv
 cases hf; exact hR _ d_l
theorem c189 {M:EncM} (hM:M=mapE)  {r:List ByteArray} (hf:r10_typeWords =some r):Pv.Fn Tryz.prog glF 189 [] (fun u=>u=.sl 1 (M.m ByteArray eS r) false):=by
 refine fn_dec (T:=tab) tabOK rfl wf Tryz.func189 rfl Tryz.call189 rfl ?_
 intro S R hS hR
 have q:=sf hM hS
 unfold r10_typeWords at hf
 cbv
 cases hf; exact hR _ d_l
theorem c234 {M:EncM} (hM:M=mapE)  {r:List ByteArray} (hf:r13_zoneWords =some r):Pv.Fn Tryz.prog glF 234 [] (fun u=>u=.sl 1 (M.m ByteArray eS r) false):=by
 refine fn_dec (T:=tab) tabOK rfl wf Tryz.func234 rfl Tryz.call234 rfl ?_
 intro S R hS hR
 have q:=sf hM hS
 unfold r13_zoneWords at hf
 cbv
 cases hf; exact hR _ d_l
theorem c236 {M:EncM} (hM:M=mapE)  {r:List ByteArray} (hf:r13_selfWords =some r):Pv.Fn Tryz.prog glF 236 [] (fun u=>u=.sl 1 (M.m ByteArray eS r) false):=by
 refine fn_dec (T:=tab) tabOK rfl wf Tryz.func236 rfl Tryz.call236 rfl ?_
 intro S R hS hR
 have q:=sf hM hS
 unfold r13_selfWords at hf
 cbv
 cases hf; exact hR _ d_l
theorem c235 {M:EncM} (hM:M=mapE)  {r:List ByteArray} (hf:r13_whoWords =some r):Pv.Fn Tryz.prog glF 235 [] (fun u=>u=.sl 1 (M.m ByteArray eS r) false):=by
 refine fn_dec (T:=tab) tabOK rfl wf Tryz.func235 rfl Tryz.call235 rfl ?_
 intro S R hS hR
 have q:=sf hM hS
 unfold r13_whoWords at hf
 cbv
 cases hf; exact hR _ d_l
theorem c237 {M:EncM} (hM:M=mapE)  {r:List ByteArray} (hf:r13_tapWords =some r):Pv.Fn Tryz.prog glF 237 [] (fun u=>u=.sl 1 (M.m ByteArray eS r) false):=by
 refine fn_dec (T:=tab) tabOK rfl wf Tryz.func237 rfl Tryz.call237 rfl ?_
 intro S R hS hR
 have q:=sf hM hS
 unfold r13_tapWords at hf
 cbv
 cases hf; exact hR _ d_l
theorem c250 {M:EncM} (hM:M=mapE)  {r:List ByteArray} (hf:r11_names =some r):Pv.Fn Tryz.prog glF 250 [] (fun u=>u=.sl 1 (M.m ByteArray eS r) false):=by
 refine fn_dec (T:=tab) tabOK rfl wf Tryz.func250 rfl Tryz.call250 rfl ?_
 intro S R hS hR
 have q:=sf hM hS
 unfold r11_names at hf
 cbv
 cases hf; exact hR _ d_l
theorem c251 {M:EncM} (hM:M=mapE)  {r:List ByteArray} (hf:r13_signs =some r):Pv.Fn Tryz.prog glF 251 [] (fun u=>u=.sl 1 (M.m ByteArray eS r) false):=by
 refine fn_dec (T:=tab) tabOK rfl wf Tryz.func251 rfl Tryz.call251 rfl ?_
 intro S R hS hR
 have q:=sf hM hS
 unfold r13_signs at hf
 cbv
 cases hf; exact hR _ d_l
theorem c115 {M:EncM} (hM:M=mapE) {c:GCard} {r:Bool} (hf:r21_creature c=some r):Pv.Fn Tryz.prog glF 115 [.agg (eGCard M c)] (fun u=>u=.sb r):=by
 refine fn_dec (T:=tab) tabOK rfl wf Tryz.func115 rfl Tryz.call115 rfl ?_
 intro S R hS hR
 have q:=sf hM hS
 unfold r21_creature at hf
 cbv
 cases hf; exact hR _ d_l
theorem c208 {M:EncM} (hM:M=mapE) {x:Int} {r:Bool} (hf:cmp_isNaN_int x=some r):Pv.Fn Tryz.prog glF 208 [.si .i64 x] (fun u=>u=.sb r):=by
 refine fn_dec (T:=tab) tabOK rfl wf Tryz.func208 rfl Tryz.call208 rfl ?_
 intro S R hS hR
 have q:=sf hM hS
 unfold cmp_isNaN_int at hf
 cbv
 cases hf; exact hR _ d_l
end Go.Proofs.YtddcpnlflncahaaGreat
