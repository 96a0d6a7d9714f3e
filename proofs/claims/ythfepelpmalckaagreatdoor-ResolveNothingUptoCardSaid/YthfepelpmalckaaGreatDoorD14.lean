import Derived.Test.YthfepelpmalckaaGreatDoorD08
import Derived.Test.YthfepelpmalckaaGreatDoorD13
set_option linter.all false
namespace Go.Proofs.YthfepelpmalckaaGreatDoor
open Go Go.Pv
set_option maxRecDepth 100000
set_option maxHeartbeats 2000000
section
variable {M:EncM} (hM:M=mapE)
include hM
theorem c232 {b:GBound} {r:Bool} (hf:r13_bound b=some r):Pv.Fn Tryz.prog glF 232 [.agg (eGBound M b)] (fun u=>u=.sb r):=by
 refine fn_D (tabcOK [2]) Tryz.func232 Tryz.call232 ?_
 intro S R hS hR
 have q:=sf hM hS
 unfold r13_bound at hf
 cbv
 refine d_cut hS [] [1,20] (fun s1=>f3 29 [(1,.lv 0 0),(20,.sb s1)] [vR (eGBound M b)]) hf ?_ ?_
 ·intro Ik2 k2 hk2 hf; cbv
  refine d_B ?_ ?_
  ·exact d_X
  intro hf; cbv
  refine d_B ?_ ?_
  ·exact d_X
  intro hf; cbv
  refine d_B ?_ ?_ <;> exact d_X
 intro s1 hf; cbv
 refine d_br hS hf rfl ?_ ?_
 ·exact d_R
 intro hf; cbv
 refine d_B ?_ ?_ <;> exact d_R
theorem o44 {s:List GWaiting} {r:List GWaiting} (hf:slices_Clone_waiting s=some r):Pv.FnS Tryz.prog glF 44 [.sl 89 (M.m GWaiting (eGWaiting M) s) false] [] 0 (fun u s n=>u=.os 0 0 (M.n GWaiting r)∧s=[(0,(aR 89 (M.m GWaiting (eGWaiting M) r)))]∧n=1):=by
 refine fnS_dec (T:=(tabx 0 [] [[(89,true)]])) (tabxOK 0 [] [[(89,true)]]) wf Tryz.func44 rfl Tryz.call44 rfl ?_
 intro S R hS hR
 have q:=sf hM hS
 unfold slices_Clone_waiting at hf
 cbv
 refine d_nil hS hM hf rfl (by intro h; subst h; exact fun h=>h) ?_ ?_
 ·intro hf; cbv
  cases hf; exact hR _ _ _ (by (try simp only [q]); repeat' constructor) (by (try simp only [q]); repeat' constructor) rfl
 intro hf; cbv
 refine d_room hS hf d_e ?_
 intro hf; cbv
 cases hf; exact hR _ _ _ (by (try simp only [q]); repeat' constructor) (by (try simp only [q]); repeat' constructor) rfl
theorem o119 {s:List GEffect} {r:List GEffect} (hf:slices_Clone_effect s=some r):Pv.FnS Tryz.prog glF 119 [.sl 64 (M.m GEffect (eGEffect M) s) false] [] 0 (fun u s n=>u=.os 0 0 (M.n GEffect r)∧s=[(0,(aR 64 (M.m GEffect (eGEffect M) r)))]∧n=1):=by
 refine fnS_dec (T:=(tabx 0 [] [[(64,true)]])) (tabxOK 0 [] [[(64,true)]]) wf Tryz.func119 rfl Tryz.call119 rfl ?_
 intro S R hS hR
 have q:=sf hM hS
 unfold slices_Clone_effect at hf
 cbv
 refine d_nil hS hM hf rfl (by intro h; subst h; exact fun h=>h) ?_ ?_
 ·intro hf; cbv
  cases hf; exact hR _ _ _ (by (try simp only [q]); repeat' constructor) (by (try simp only [q]); repeat' constructor) rfl
 intro hf; cbv
 refine d_room hS hf d_e ?_
 intro hf; cbv
 cases hf; exact hR _ _ _ (by (try simp only [q]); repeat' constructor) (by (try simp only [q]); repeat' constructor) rfl
theorem o37 {s:List GPlayer} {r:List GPlayer} (hf:slices_Clone_player s=some r):Pv.FnS Tryz.prog glF 37 [.sl 14 (M.m GPlayer (eGPlayer M) s) false] [] 0 (fun u s n=>u=.os 0 0 (M.n GPlayer r)∧s=[(0,(aR 14 (M.m GPlayer (eGPlayer M) r)))]∧n=1):=by
 refine fnS_dec (T:=(tabx 0 [] [[(14,true)]])) (tabxOK 0 [] [[(14,true)]]) wf Tryz.func37 rfl Tryz.call37 rfl ?_
 intro S R hS hR
 have q:=sf hM hS
 unfold slices_Clone_player at hf
 cbv
 refine d_nil hS hM hf rfl (by intro h; subst h; exact fun h=>h) ?_ ?_
 ·intro hf; cbv
  cases hf; exact hR _ _ _ (by (try simp only [q]); repeat' constructor) (by (try simp only [q]); repeat' constructor) rfl
 intro hf; cbv
 refine d_room hS hf d_e ?_
 intro hf; cbv
 cases hf; exact hR _ _ _ (by (try simp only [q]); repeat' constructor) (by (try simp only [q]); repeat' constructor) rfl
theorem o39 {s:List GObject} {r:List GObject} (hf:slices_Clone_object s=some r):Pv.FnS Tryz.prog glF 39 [.sl 19 (M.m GObject (eGObject M) s) false] [] 0 (fun u s n=>u=.os 0 0 (M.n GObject r)∧s=[(0,(aR 19 (M.m GObject (eGObject M) r)))]∧n=1):=by
 refine fnS_dec (T:=(tabx 0 [] [[(19,true)]])) (tabxOK 0 [] [[(19,true)]]) wf Tryz.func39 rfl Tryz.call39 rfl ?_
 intro S R hS hR
 have q:=sf hM hS
 unfold slices_Clone_object at hf
 cbv
 refine d_nil hS hM hf rfl (by intro h; subst h; exact fun h=>h) ?_ ?_
 ·intro hf; cbv
  cases hf; exact hR _ _ _ (by (try simp only [q]); repeat' constructor) (by (try simp only [q]); repeat' constructor) rfl
 intro hf; cbv
 refine d_room hS hf d_e ?_
 intro hf; cbv
 cases hf; exact hR _ _ _ (by (try simp only [q]); repeat' constructor) (by (try simp only [q]); repeat' constructor) rfl
theorem s316 {l:List ByteArray} {s:ByteArray} {r:List ByteArray} (hf:r13_add l s=some r):Pv.FnS Tryz.prog glF 316 [.os 0 0 (M.n ByteArray l),.str s] [(0,(aR 1 (M.m ByteArray eS l)))] 1 (fun u s n=>u=.os 1 0 (M.n ByteArray r)∧s=[(0,none),(1,(aR 1 (M.m ByteArray eS r)))]∧n=2):=by
 refine fnS_dec (T:=(tabx 1 [] [[(1,true)]])) (tabxOK 1 [] [[(1,true)]]) wf Tryz.func316 rfl Tryz.call316 rfl ?_
 intro S R hS hR
 have q:=sf hM hS
 unfold r13_add at hf
 cbv
 refine d_B ?_ ?_
 ·intro hf; cbv
  cases hf; exact hR _ _ _ (by (try simp only [q]); repeat' constructor) (by (try simp only [q]); repeat' constructor) rfl
 intro hf; cbv
 refine d_room hS hf d_e ?_
 intro hf; cbv
 cases hf; exact hR _ _ _ (by (try simp only [q]); repeat' constructor) (by (try simp only [q]); repeat' constructor) rfl
theorem o118 {s:List GSpec} {r:List GSpec} (hf:slices_Clone_spec s=some r):Pv.FnS Tryz.prog glF 118 [.sl 18 (M.m GSpec (eGSpec M) s) false] [] 0 (fun u s n=>u=.os 0 0 (M.n GSpec r)∧s=[(0,(aR 18 (M.m GSpec (eGSpec M) r)))]∧n=1):=by
 refine fnS_dec (T:=(tabx 0 [] [[(18,true)]])) (tabxOK 0 [] [[(18,true)]]) wf Tryz.func118 rfl Tryz.call118 rfl ?_
 intro S R hS hR
 have q:=sf hM hS
 unfold slices_Clone_spec at hf
 cbv
 refine d_nil hS hM hf rfl (by intro h; subst h; exact fun h=>h) ?_ ?_
 ·intro hf; cbv
  cases hf; exact hR _ _ _ (by (try simp only [q]); repeat' constructor) (by (try simp only [q]); repeat' constructor) rfl
 intro hf; cbv
 refine d_room hS hf d_e ?_
 intro hf; cbv
 cases hf; exact hR _ _ _ (by (try simp only [q]); repeat' constructor) (by (try simp only [q]); repeat' constructor) rfl
theorem o41 {s:List GItem} {r:List GItem} (hf:slices_Clone_item s=some r):Pv.FnS Tryz.prog glF 41 [.sl 94 (M.m GItem (eGItem M) s) false] [] 0 (fun u s n=>u=.os 0 0 (M.n GItem r)∧s=[(0,(aR 94 (M.m GItem (eGItem M) r)))]∧n=1):=by
 refine fnS_dec (T:=(tabx 0 [] [[(94,true)]])) (tabxOK 0 [] [[(94,true)]]) wf Tryz.func41 rfl Tryz.call41 rfl ?_
 intro S R hS hR
 have q:=sf hM hS
 unfold slices_Clone_item at hf
 cbv
 refine d_nil hS hM hf rfl (by intro h; subst h; exact fun h=>h) ?_ ?_
 ·intro hf; cbv
  cases hf; exact hR _ _ _ (by (try simp only [q]); repeat' constructor) (by (try simp only [q]); repeat' constructor) rfl
 intro hf; cbv
 refine d_room hS hf d_e ?_
 intro hf; cbv
 cases hf; exact hR _ _ _ (by (try simp only [q]); repeat' constructor) (by (try simp only [q]); repeat' constructor) rfl
theorem c116 {l:List Int} {r:Bool} (hf:r03_Is l=some r):Pv.Fn Tryz.prog glF 116 [.sl 1 (mI M l) false] (fun u=>u=.sb r):=by
 refine fn_D tabOK Tryz.func116 Tryz.call116 ?_
 intro S R hS hR
 have q:=sf hM hS
 unfold r03_Is at hf
 cbv
 refine d_lp hS tabOK wf [] [0,3] (fun s1=>f3 20 [(0,.sl 1 (mI M l) false),(3,sI s1)] []) hf ?_
 intro Ik2 k2 s1 hk2 hf e he; subst he
 unfold r03_Is_l1 at hf
 cbv
 refine d_B ?_ ?_
 ·intro hf; cbv
  refine d_o hS ?_; cbv
  refine d_idx hS hM hf rfl d_e ?_
  intro x4 hf; cbv
  refine d_I ?_
  intro x5 hf; cbv
  refine d_B ?_ ?_
  ·exact d_R
  exact d_X
 exact d_R
theorem o45 {s:List GCont} {r:List GCont} (hf:slices_Clone_cont s=some r):Pv.FnS Tryz.prog glF 45 [.sl 6 (M.m GCont (eGCont M) s) false] [] 0 (fun u s n=>u=.os 0 0 (M.n GCont r)∧s=[(0,(aR 6 (M.m GCont (eGCont M) r)))]∧n=1):=by
 refine fnS_dec (T:=(tabx 0 [] [[(6,true)]])) (tabxOK 0 [] [[(6,true)]]) wf Tryz.func45 rfl Tryz.call45 rfl ?_
 intro S R hS hR
 have q:=sf hM hS
 unfold slices_Clone_cont at hf
 cbv
 refine d_nil hS hM hf rfl (by intro h; subst h; exact fun h=>h) ?_ ?_
 ·intro hf; cbv
  cases hf; exact hR _ _ _ (by (try simp only [q]); repeat' constructor) (by (try simp only [q]); repeat' constructor) rfl
 intro hf; cbv
 refine d_room hS hf d_e ?_
 intro hf; cbv
 cases hf; exact hR _ _ _ (by (try simp only [q]); repeat' constructor) (by (try simp only [q]); repeat' constructor) rfl
theorem o46 {s:List GMod} {r:List GMod} (hf:slices_Clone_mod s=some r):Pv.FnS Tryz.prog glF 46 [.sl 20 (M.m GMod (eGMod M) s) false] [] 0 (fun u s n=>u=.os 0 0 (M.n GMod r)∧s=[(0,(aR 20 (M.m GMod (eGMod M) r)))]∧n=1):=by
 refine fnS_dec (T:=(tabx 0 [] [[(20,true)]])) (tabxOK 0 [] [[(20,true)]]) wf Tryz.func46 rfl Tryz.call46 rfl ?_
 intro S R hS hR
 have q:=sf hM hS
 unfold slices_Clone_mod at hf
 cbv
 refine d_nil hS hM hf rfl (by intro h; subst h; exact fun h=>h) ?_ ?_
 ·intro hf; cbv
  cases hf; exact hR _ _ _ (by (try simp only [q]); repeat' constructor) (by (try simp only [q]); repeat' constructor) rfl
 intro hf; cbv
 refine d_room hS hf d_e ?_
 intro hf; cbv
 cases hf; exact hR _ _ _ (by (try simp only [q]); repeat' constructor) (by (try simp only [q]); repeat' constructor) rfl
theorem c30 {l:List GCard} {name:ByteArray} {r:Int} (hf:r22_Find l name=some r):Pv.Fn Tryz.prog glF 30 [.sl 17 (M.m GCard (eGCard M) l) false,.str name] (fun u=>u=sI r):=by
 refine fn_D tabOK Tryz.func30 Tryz.call30 ?_
 intro S R hS hR
 have q:=sf hM hS
 unfold r22_Find at hf
 cbv
 refine d_lp hS tabOK wf [] [0,1,5] (fun s1=>f3 20 [(0,.sl 17 (M.m GCard (eGCard M) l) false),(1,.str name),(5,sI s1)] []) hf ?_
 intro Ik2 k2 s1 hk2 hf e he; subst he
 unfold r22_Find_l1 at hf
 cbv
 refine d_B ?_ ?_
 ·intro hf; cbv
  refine d_I ?_
  intro x4 hf; cbv
  refine d_B ?_ ?_
  ·exact d_R
  exact d_X
 exact d_R
theorem o40 {s:List Int} {r:List Int} (hf:slices_Clone_int s=some r):Pv.FnS Tryz.prog glF 40 [.sl 1 (mI M s) false] [] 0 (fun u s n=>u=.os 0 0 (M.n Int r)∧s=[(0,(aR 1 (mI M r)))]∧n=1):=by
 refine fnS_dec (T:=(tabx 0 [] [[(1,true)]])) (tabxOK 0 [] [[(1,true)]]) wf Tryz.func40 rfl Tryz.call40 rfl ?_
 intro S R hS hR
 have q:=sf hM hS
 unfold slices_Clone_int at hf
 cbv
 refine d_nil hS hM hf rfl (by intro h; subst h; exact fun h=>h) ?_ ?_
 ·intro hf; cbv
  cases hf; exact hR _ _ _ (by (try simp only [q]); repeat' constructor) (by (try simp only [q]); repeat' constructor) rfl
 intro hf; cbv
 refine d_room hS hf d_e ?_
 intro hf; cbv
 cases hf; exact hR _ _ _ (by (try simp only [q]); repeat' constructor) (by (try simp only [q]); repeat' constructor) rfl
theorem c228 {l:List ByteArray} {s:ByteArray} {r:Int} (hf:r10_index l s=some r):Pv.Fn Tryz.prog glF 228 [.sl 1 (M.m ByteArray eS l) false,.str s] (fun u=>u=sI r):=by
 refine fn_D tabOK Tryz.func228 Tryz.call228 ?_
 intro S R hS hR
 have q:=sf hM hS
 unfold r10_index at hf
 cbv
 refine d_lp hS tabOK wf [] [0,1,5] (fun s1=>f3 19 [(0,.sl 1 (M.m ByteArray eS l) false),(1,.str s),(5,sI s1)] []) hf ?_
 intro Ik2 k2 s1 hk2 hf e he; subst he
 unfold r10_index_l1 at hf
 cbv
 refine d_B ?_ ?_
 ·intro hf; cbv
  refine d_I ?_
  intro x4 hf; cbv
  refine d_B ?_ ?_
  ·exact d_R
  exact d_X
 exact d_R
theorem c307 {s:GState} {id:Int} {r:Int} (hf:r25_place s id=some r):Pv.Fn Tryz.prog glF 307 [.agg (eGState M s),sI id] (fun u=>u=sI r):=by
 refine fn_D tabOK Tryz.func307 Tryz.call307 ?_
 intro S R hS hR
 have q:=sf hM hS
 unfold r25_place at hf
 cbv
 refine d_lp hS tabOK wf [] [1,2,5] (fun s1=>f3 22 [(1,sI id),(2,.lv 0 0),(5,sI s1)] [vR (eGState M s)]) hf ?_
 intro Ik2 k2 s1 hk2 hf e he; subst he
 unfold r25_place_l1 at hf
 cbv
 refine d_B ?_ ?_
 ·intro hf; cbv
  refine d_I ?_
  intro x4 hf; cbv
  refine d_B ?_ ?_
  ·exact d_R
  exact d_X
 exact d_R
theorem c299 {op:Int} {r:ByteArray} (hf:r17_Word op=some r):Pv.Fn Tryz.prog glF 299 [sI op] (fun u=>u=.str r):=by
 refine fn_D (tabcOK [2]) Tryz.func299 Tryz.call299 ?_
 intro S R hS hR
 have q:=sf hM hS
 unfold r17_Word at hf
 cbv
 refine d_cut hS [] [0,9] (fun s1=>f3 16 [(0,sI op),(9,.sb s1)] []) hf ?_ ?_
 ·intro Ik2 k2 hk2 hf; cbv
  refine d_B ?_ ?_ <;> exact d_X
 intro s1 hf; cbv
 refine d_br hS hf rfl ?_ ?_
 ·exact d_R
 intro hf; cbv
 refine d_ix hS hf rfl d_e ?_
 intro j4 _ hf; cbv
 refine d_row hS hM (e:=eS) hf d_e d_e ?_
 exact d_Ry
theorem c310 {i:Int} {r:ByteArray} (hf:r09_Name i=some r):Pv.Fn Tryz.prog glF 310 [sI i] (fun u=>u=.str r):=by
 refine fn_D tabOK Tryz.func310 Tryz.call310 ?_
 intro S R hS hR
 have q:=sf hM hS
 unfold r09_Name at hf
 cbv
 refine d_B ?_ ?_
 ·exact d_R
 intro hf; cbv
 refine d_B ?_ ?_
 ·exact d_R
 intro hf; cbv
 refine d_B ?_ ?_
 ·exact d_R
 intro hf; cbv
 refine d_B ?_ ?_
 ·exact d_R
 intro hf; cbv
 refine d_B ?_ ?_ <;> exact d_R
theorem c234 {when:Int} {r:Bool} (hf:r18_hasWho when=some r):Pv.Fn Tryz.prog glF 234 [sI when] (fun u=>u=.sb r):=by
 refine fn_D tabOK Tryz.func234 Tryz.call234 ?_
 intro S R hS hR
 have q:=sf hM hS
 unfold r18_hasWho at hf
 cbv
 refine d_B ?_ ?_
 ·exact d_R
 intro hf; cbv
 refine d_B ?_ ?_
 ·exact d_R
 intro hf; cbv
 refine d_B ?_ ?_
 ·exact d_R
 intro hf; cbv
 refine d_B ?_ ?_
 ·exact d_R
 intro hf; cbv
 refine d_B ?_ ?_ <;> exact d_R
theorem c359 {p:Arr6 Int} {r:GCost} (hf:r08_cost p=some r):Pv.Fn Tryz.prog glF 359 [.agg [sI p.a0,sI p.a1,sI p.a2,sI p.a3,sI p.a4,sI p.a5]] (fun u=>u=.agg (eGCost M r)):=by
 refine fn_D (tabcOK [6]) Tryz.func359 Tryz.call359 ?_
 intro S R hS hR
 have q:=sf hM hS
 unfold r08_cost at hf
 cbv
 refine l_roundsF hS (tabcOK [6]) wf 7 ?_; intro g1 hg1
 refine hg1 _ _ ?_; cbv
 refine l_seq hS ?_; cbv
 refine hg1 _ _ ?_; cbv
 refine l_seq hS ?_; cbv
 refine hg1 _ _ ?_; cbv
 refine l_seq hS ?_; cbv
 refine hg1 _ _ ?_; cbv
 refine l_seq hS ?_; cbv
 refine hg1 _ _ ?_; cbv
 refine l_seq hS ?_; cbv
 refine hg1 _ _ ?_; cbv
 refine l_seq hS ?_; cbv
 exact d_Rz
theorem c165 {mask:Int} {i:Int} {r:Bool} (hf:r10_bit mask i=some r):Pv.Fn Tryz.prog glF 165 [sI mask,sI i] (fun u=>u=.sb r):=by
 refine fn_D tabOK Tryz.func165 Tryz.call165 ?_
 intro S R hS hR
 have q:=sf hM hS
 unfold r10_bit at hf
 cbv
 refine d_lp hS tabOK wf [] [0,1,5] (fun s1=>f3 16 [(0,sI s1.1),(1,sI i),(5,sI s1.2)] []) hf ?_
 intro Ik2 k2 s1 hk2 hf e he; subst he
 unfold r10_bit_l1 at hf
 cbv
 refine d_B ?_ ?_
 ·intro hf; cbv
  refine d_div hS hf rfl rfl ?_
  exact d_Xy
 intro hf; cbv
 refine d_div hS hf rfl rfl ?_
 exact d_Ry
theorem c317 {mask:Int} {i:Int} {r:Bool} (hf:r13_bit mask i=some r):Pv.Fn Tryz.prog glF 317 [sI mask,sI i] (fun u=>u=.sb r):=by
 refine fn_D tabOK Tryz.func317 Tryz.call317 ?_
 intro S R hS hR
 have q:=sf hM hS
 unfold r13_bit at hf
 cbv
 refine d_lp hS tabOK wf [] [0,1,5] (fun s1=>f3 16 [(0,sI s1.1),(1,sI i),(5,sI s1.2)] []) hf ?_
 intro Ik2 k2 s1 hk2 hf e he; subst he
 unfold r13_bit_l1 at hf
 cbv
 refine d_B ?_ ?_
 ·intro hf; cbv
  refine d_div hS hf rfl rfl ?_
  exact d_Xy
 intro hf; cbv
 refine d_div hS hf rfl rfl ?_
 exact d_Ry
theorem c302 {kind:Int} {r:ByteArray} (hf:r12_Name kind=some r):Pv.Fn Tryz.prog glF 302 [sI kind] (fun u=>u=.str r):=by
 refine fn_D tabOK Tryz.func302 Tryz.call302 ?_
 intro S R hS hR
 have q:=sf hM hS
 unfold r12_Name at hf
 cbv
 refine d_B ?_ ?_
 ·exact d_R
 intro hf; cbv
 refine d_B ?_ ?_
 ·exact d_R
 intro hf; cbv
 refine d_B ?_ ?_ <;> exact d_R
theorem c40 {s:List Int} {r:List Int} (hf:slices_Clone_int s=some r):Pv.Fn Tryz.prog glF 40 [.sl 1 (mI M s) false] (fun u=>u=.sl 1 (mI M r) false):=by
 refine fn_D tabOK Tryz.func40 Tryz.call40 ?_
 intro S R hS hR
 have q:=sf hM hS
 unfold slices_Clone_int at hf
 cbv
 refine d_nil hS hM hf rfl (by intro h; subst h; exact fun h=>h) ?_ ?_
 ·intro hf; cbv
  cases hf; exact hR _ (by (try simp only [q]); repeat' constructor)
 intro hf; cbv
 refine d_room hS hf d_e ?_
 exact d_R
theorem c43 {s:List GTarget} {r:List GTarget} (hf:slices_Clone_target s=some r):Pv.Fn Tryz.prog glF 43 [.sl 2 (M.m GTarget (eGTarget M) s) false] (fun u=>u=.sl 2 (M.m GTarget (eGTarget M) r) false):=by
 refine fn_D tabOK Tryz.func43 Tryz.call43 ?_
 intro S R hS hR
 have q:=sf hM hS
 unfold slices_Clone_target at hf
 cbv
 refine d_nil hS hM hf rfl (by intro h; subst h; exact fun h=>h) ?_ ?_
 ·intro hf; cbv
  cases hf; exact hR _ d_st
 intro hf; cbv
 refine d_room hS hf d_e ?_
 exact d_R
theorem c46 {s:List GMod} {r:List GMod} (hf:slices_Clone_mod s=some r):Pv.Fn Tryz.prog glF 46 [.sl 20 (M.m GMod (eGMod M) s) false] (fun u=>u=.sl 20 (M.m GMod (eGMod M) r) false):=by
 refine fn_D tabOK Tryz.func46 Tryz.call46 ?_
 intro S R hS hR
 have q:=sf hM hS
 unfold slices_Clone_mod at hf
 cbv
 refine d_nil hS hM hf rfl (by intro h; subst h; exact fun h=>h) ?_ ?_
 ·intro hf; cbv
  cases hf; exact hR _ d_st
 intro hf; cbv
 refine d_room hS hf d_e ?_
 exact d_R
theorem c244 {mask:Int} {r:Bool} (hf:r15_types mask=some r):Pv.Fn Tryz.prog glF 244 [sI mask] (fun u=>u=.sb r):=by
 refine fn_D tabOK Tryz.func244 Tryz.call244 ?_
 intro S R hS hR
 have q:=sf hM hS
 unfold r15_types at hf
 cbv
 refine d_B ?_ ?_
 ·intro hf; cbv
  refine d_B ?_ ?_ <;> exact d_R
 exact d_R
theorem c32 {n:Int} {least:Int} {most:Int} {r:Bool} (hf:r26_in n least most=some r):Pv.Fn Tryz.prog glF 32 [sI n,sI least,sI most] (fun u=>u=.sb r):=by
 refine fn_D tabOK Tryz.func32 Tryz.call32 ?_
 intro S R hS hR
 have q:=sf hM hS
 unfold r26_in at hf
 cbv
 refine d_B ?_ ?_ <;> exact d_R
theorem c26 {l:List GOption} {r:List GOption} (hf:ask_copied_option l=some r):Pv.Fn Tryz.prog glF 26 [.sl 3 (M.m GOption (eGOption M) l) false] (fun u=>u=.sl 3 (M.m GOption (eGOption M) r) false):=by
 refine fn_D tabOK Tryz.func26 Tryz.call26 ?_
 intro S R hS hR
 have q:=sf hM hS
 unfold ask_copied_option at hf
 cbv
 refine d_room hS hf d_e ?_
 exact d_R
theorem c357 {kind:Int} {r:Bool} (hf:r16_numbered kind=some r):Pv.Fn Tryz.prog glF 357 [sI kind] (fun u=>u=.sb r):=by
 refine fn_D tabOK Tryz.func357 Tryz.call357 ?_
 intro S R hS hR
 have q:=sf hM hS
 unfold r16_numbered at hf
 cbv
 refine d_B ?_ ?_ <;> exact d_R
theorem c14 {l:List Int} {r:List Int} (hf:ask_copied_int l=some r):Pv.Fn Tryz.prog glF 14 [.sl 1 (mI M l) false] (fun u=>u=.sl 1 (mI M r) false):=by
 refine fn_D tabOK Tryz.func14 Tryz.call14 ?_
 intro S R hS hR
 have q:=sf hM hS
 unfold ask_copied_int at hf
 cbv
 refine d_room hS hf d_e ?_
 exact d_R
theorem c109 {c:GCard} {r:Bool} (hf:r21_fast c=some r):Pv.Fn Tryz.prog glF 109 [.agg (eGCard M c)] (fun u=>u=.sb r):=by
 refine fn_D tabOK Tryz.func109 Tryz.call109 ?_
 intro S R hS hR
 have q:=sf hM hS
 unfold r21_fast at hf
 cbv
 refine d_B ?_ ?_ <;> exact d_R
theorem c242 {l:List Int} {r:List Int} (hf:r25_ints l=some r):Pv.Fn Tryz.prog glF 242 [.sl 1 (mI M l) false] (fun u=>u=.sl 1 (mI M r) false):=by
 refine fn_D tabOK Tryz.func242 Tryz.call242 ?_
 intro S R hS hR
 have q:=sf hM hS
 unfold r25_ints at hf
 cbv
 refine d_room hS hf d_e ?_
 exact d_R
theorem c106 {mask:Int} {r:Bool} (hf:r11_Is mask=some r):Pv.Fn Tryz.prog glF 106 [sI mask] (fun u=>u=.sb r):=by
 refine fn_D tabOK Tryz.func106 Tryz.call106 ?_
 intro S R hS hR
 have q:=sf hM hS
 unfold r11_Is at hf
 cbv
 refine d_B ?_ ?_ <;> exact d_R
theorem c309 {mask:Int} {r:Bool} (hf:r09_Is mask=some r):Pv.Fn Tryz.prog glF 309 [sI mask] (fun u=>u=.sb r):=by
 refine fn_D tabOK Tryz.func309 Tryz.call309 ?_
 intro S R hS hR
 have q:=sf hM hS
 unfold r09_Is at hf
 cbv
 refine d_B ?_ ?_ <;> exact d_R
theorem c163 {c:Int} {r:Bool} (hf:r02_low c=some r):Pv.Fn Tryz.prog glF 163 [.si .u8 c] (fun u=>u=.sb r):=by
 refine fn_D tabOK Tryz.func163 Tryz.call163 ?_
 intro S R hS hR
 have q:=sf hM hS
 unfold r02_low at hf
 cbv
 refine d_B ?_ ?_ <;> exact d_R
theorem c176 {o:GObject} {r:GObject} (hf:r24_Ended o=some r):Pv.Fn Tryz.prog glF 176 [.agg (eGObject M o)] (fun u=>u=.agg (eGObject M r)):=by
 refine fn_D tabOK Tryz.func176 Tryz.call176 ?_
 intro S R hS hR
 have q:=sf hM hS
 unfold r24_Ended at hf
 cbv
 exact d_Rz
theorem c175 {o:GObject} {r:GObject} (hf:r24_Calm o=some r):Pv.Fn Tryz.prog glF 175 [.agg (eGObject M o)] (fun u=>u=.agg (eGObject M r)):=by
 refine fn_D tabOK Tryz.func175 Tryz.call175 ?_
 intro S R hS hR
 have q:=sf hM hS
 unfold r24_Calm at hf
 cbv
 exact d_Rz
theorem c229  {r:List ByteArray} (hf:r10_superWords =some r):Pv.Fn Tryz.prog glF 229 [] (fun u=>u=.sl 1 (M.m ByteArray eS r) false):=by
 refine fn_D tabOK Tryz.func229 Tryz.call229 ?_
 intro S R hS hR
 have q:=sf hM hS
 unfold r10_superWords at hf
 cbv
 exact d_Rz
theorem c230  {r:List ByteArray} (hf:r10_typeWords =some r):Pv.Fn Tryz.prog glF 230 [] (fun u=>u=.sl 1 (M.m ByteArray eS r) false):=by
 refine fn_D tabOK Tryz.func230 Tryz.call230 ?_
 intro S R hS hR
 have q:=sf hM hS
 unfold r10_typeWords at hf
 cbv
 exact d_Rz
theorem c312  {r:List ByteArray} (hf:r13_zoneWords =some r):Pv.Fn Tryz.prog glF 312 [] (fun u=>u=.sl 1 (M.m ByteArray eS r) false):=by
 refine fn_D tabOK Tryz.func312 Tryz.call312 ?_
 intro S R hS hR
 have q:=sf hM hS
 unfold r13_zoneWords at hf
 cbv
 exact d_Rz
theorem c314  {r:List ByteArray} (hf:r13_selfWords =some r):Pv.Fn Tryz.prog glF 314 [] (fun u=>u=.sl 1 (M.m ByteArray eS r) false):=by
 refine fn_D tabOK Tryz.func314 Tryz.call314 ?_
 intro S R hS hR
 have q:=sf hM hS
 unfold r13_selfWords at hf
 cbv
 exact d_Rz
theorem c313  {r:List ByteArray} (hf:r13_whoWords =some r):Pv.Fn Tryz.prog glF 313 [] (fun u=>u=.sl 1 (M.m ByteArray eS r) false):=by
 refine fn_D tabOK Tryz.func313 Tryz.call313 ?_
 intro S R hS hR
 have q:=sf hM hS
 unfold r13_whoWords at hf
 cbv
 exact d_Rz
theorem c315  {r:List ByteArray} (hf:r13_tapWords =some r):Pv.Fn Tryz.prog glF 315 [] (fun u=>u=.sl 1 (M.m ByteArray eS r) false):=by
 refine fn_D tabOK Tryz.func315 Tryz.call315 ?_
 intro S R hS hR
 have q:=sf hM hS
 unfold r13_tapWords at hf
 cbv
 exact d_Rz
theorem c360  {r:List ByteArray} (hf:r11_names =some r):Pv.Fn Tryz.prog glF 360 [] (fun u=>u=.sl 1 (M.m ByteArray eS r) false):=by
 refine fn_D tabOK Tryz.func360 Tryz.call360 ?_
 intro S R hS hR
 have q:=sf hM hS
 unfold r11_names at hf
 cbv
 exact d_Rz
theorem c361  {r:List ByteArray} (hf:r13_signs =some r):Pv.Fn Tryz.prog glF 361 [] (fun u=>u=.sl 1 (M.m ByteArray eS r) false):=by
 refine fn_D tabOK Tryz.func361 Tryz.call361 ?_
 intro S R hS hR
 have q:=sf hM hS
 unfold r13_signs at hf
 cbv
 exact d_Rz
theorem c107 {c:GCard} {r:Bool} (hf:r21_creature c=some r):Pv.Fn Tryz.prog glF 107 [.agg (eGCard M c)] (fun u=>u=.sb r):=by
 refine fn_D tabOK Tryz.func107 Tryz.call107 ?_
 intro S R hS hR
 have q:=sf hM hS
 unfold r21_creature at hf
 cbv
 exact d_Rz
theorem c5  {r:Bool} (hf:law40_alive=some r):Pv.Fn Tryz.prog glF 5 [] (fun u=>u=.sb r):=by
 cases hf
 exact alive40
end
end Go.Proofs.YthfepelpmalckaaGreatDoor
