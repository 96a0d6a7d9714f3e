import Derived.Test.YthfepelpmalckaaGreatDoorD15
set_option linter.all false
namespace Go.Proofs.YthfepelpmalckaaGreatDoor
open Go Go.Pv
set_option maxRecDepth 100000
set_option maxHeartbeats 2000000
section
variable {M:EncM} (hM:M=mapE)
include hM
theorem c15 {s:GState} {r:GState} (hf:zone_Copy s=some r):Pv.Fn Tryz.prog glF 15 [.agg (eGState M s)] (fun u=>u=.agg (eGState M r)):=by
 refine fn_D tabOK Tryz.func15 Tryz.call15 ?_
 intro S R hS hR
 have q:=sf hM hS
 unfold zone_Copy at hf
 cbv
 refine d_callo hS hf (fun _=>o37 hM) (le_eq rfl) ?_
 intro y1 hf; cbv
 refine d_lp hS tabOK wf [] [1,2,13,14] (fun s2=>f3 138 [(1,.lv 0 0),(2,.lv 2 0),(13,sI (S.nint (M.n GPlayer y1))),(14,sI s2.1)] [vR [.os 1 0 (S.lenN (M.m GPlayer (eGPlayer M) s2.2)),.sl 19 (M.m GObject (eGObject M) s.objects) false,.sl 1 (mI M s.battlefield) false,.sl 1 (mI M s.exile) false,.sl 94 (M.m GItem (eGItem M) s.stack) false,.sl 89 (M.m GWaiting (eGWaiting M) s.waiting) false,.sl 6 (M.m GCont (eGCont M) s.conts) false,sI s.turn,sI s.active,sI s.step,.sb s.begun,sI s.priority,sI s.passes,sI s.nextId,sI s.nextStamp,.si .u64 s.seed,.sl 1 (mI M s.extra) false,sI s.over,sI s.winner],aR 14 (M.m GPlayer (eGPlayer M) s2.2),vR [.sl 0 [] true,.sl 0 [] true,.sl 0 [] true,.sl 0 [] true,.sl 0 [] true,.sl 0 [] true,.sl 0 [] true,sI 0,sI 0,sI 0,.sb false,sI 0,sI 0,sI 0,sI 0,.si .u64 0,.sl 0 [] true,sI 0,sI 0]]) hf ?_
 intro Ik3 k3 s2 hk3 hf e he; subst he
 unfold zone_Copy_l4 at hf
 cbv
 refine d_B ?_ ?_
 ·intro hf; cbv
  refine d_o hS ?_; cbv
  refine d_ix hS hf d_e rfl ?_
  intro j5 _ hf; cbv
  refine d_row hS hM hf rfl d_e ?_
  intro x6 hf; cbv
  refine d_c hS hf (fun _=>c38 hM) ?_
  intro y7 hf; cbv
  refine d_ix hS hf d_e rfl ?_
  intro j8 _ hf; cbv
  refine d_row hS hM hf rfl d_e ?_
  exact d_Xy
 intro hf; cbv
 refine d_callo hS hf (fun _=>o39 hM) (le_eq rfl) ?_
 intro y10 hf; cbv
 refine d_callo hS hf (fun _=>o40 hM) (le_eq rfl) ?_
 intro y11 hf; cbv
 refine d_callo hS hf (fun _=>o40 hM) (le_eq rfl) ?_
 intro y12 hf; cbv
 refine d_callo hS hf (fun _=>o41 hM) (le_eq rfl) ?_
 intro y13 hf; cbv
 refine d_lp hS tabOK wf [] [1,2,46,47] (fun s14=>f3 138 [(1,.lv 0 0),(2,.lv 6 0),(46,sI (S.nint (M.n GItem y13))),(47,sI s14.1)] [vR [.os 1 0 (S.lenN (M.m GPlayer (eGPlayer M) s2.2)),.os 2 0 (S.lenN (M.m GObject (eGObject M) y10)),.os 3 0 (S.lenN (mI M y11)),.os 4 0 (S.lenN (mI M y12)),.os 5 0 (S.lenN (M.m GItem (eGItem M) s14.2)),.sl 89 (M.m GWaiting (eGWaiting M) s.waiting) false,.sl 6 (M.m GCont (eGCont M) s.conts) false,sI s.turn,sI s.active,sI s.step,.sb s.begun,sI s.priority,sI s.passes,sI s.nextId,sI s.nextStamp,.si .u64 s.seed,.sl 1 (mI M s.extra) false,sI s.over,sI s.winner],aR 14 (M.m GPlayer (eGPlayer M) s2.2),aR 19 (M.m GObject (eGObject M) y10),aR 1 (mI M y11),aR 1 (mI M y12),aR 94 (M.m GItem (eGItem M) s14.2),vR [.sl 0 [] true,.sl 0 [] true,.sl 0 [] true,.sl 0 [] true,.sl 0 [] true,.sl 0 [] true,.sl 0 [] true,sI 0,sI 0,sI 0,.sb false,sI 0,sI 0,sI 0,sI 0,.si .u64 0,.sl 0 [] true,sI 0,sI 0]]) hf ?_
 intro Ik15 k15 s14 hk15 hf e he; subst he
 unfold zone_Copy_l3 at hf
 cbv
 refine d_B ?_ ?_
 ·intro hf; cbv
  refine d_o hS ?_; cbv
  refine d_ix hS hf d_e rfl ?_
  intro j17 _ hf; cbv
  refine d_row hS hM hf rfl d_e ?_
  intro x18 hf; cbv
  refine d_c hS hf (fun _=>c42 hM) ?_
  intro y19 hf; cbv
  refine d_ix hS hf d_e rfl ?_
  intro j20 _ hf; cbv
  refine d_row hS hM hf rfl d_e ?_
  intro x21 hf; cbv
  refine d_o hS ?_; cbv
  refine d_ix hS hf d_e rfl ?_
  intro j22 _ hf; cbv
  refine d_row hS hM (e:=(eGItem M)) hf d_e d_e ?_
  intro x23 hf; cbv
  refine d_c hS hf (fun _=>c43 hM) ?_
  intro y24 hf; cbv
  refine d_ix hS hf d_e rfl ?_
  intro j25 _ hf; cbv
  refine d_row hS hM (e:=(eGItem M)) hf d_e d_e ?_
  exact d_Xy
 intro hf; cbv
 refine d_callo hS hf (fun _=>o44 hM) (le_eq rfl) ?_
 intro y27 hf; cbv
 refine d_lp hS tabOK wf [] [1,2,81,82] (fun s28=>f3 138 [(1,.lv 0 0),(2,.lv 7 0),(81,sI (S.nint (M.n GWaiting y27))),(82,sI s28.1)] [vR [.os 1 0 (S.lenN (M.m GPlayer (eGPlayer M) s2.2)),.os 2 0 (S.lenN (M.m GObject (eGObject M) y10)),.os 3 0 (S.lenN (mI M y11)),.os 4 0 (S.lenN (mI M y12)),.os 5 0 (S.lenN (M.m GItem (eGItem M) s14.2)),.os 6 0 (S.lenN (M.m GWaiting (eGWaiting M) s28.2)),.sl 6 (M.m GCont (eGCont M) s.conts) false,sI s.turn,sI s.active,sI s.step,.sb s.begun,sI s.priority,sI s.passes,sI s.nextId,sI s.nextStamp,.si .u64 s.seed,.sl 1 (mI M s.extra) false,sI s.over,sI s.winner],aR 14 (M.m GPlayer (eGPlayer M) s2.2),aR 19 (M.m GObject (eGObject M) y10),aR 1 (mI M y11),aR 1 (mI M y12),aR 94 (M.m GItem (eGItem M) s14.2),aR 89 (M.m GWaiting (eGWaiting M) s28.2),vR [.sl 0 [] true,.sl 0 [] true,.sl 0 [] true,.sl 0 [] true,.sl 0 [] true,.sl 0 [] true,.sl 0 [] true,sI 0,sI 0,sI 0,.sb false,sI 0,sI 0,sI 0,sI 0,.si .u64 0,.sl 0 [] true,sI 0,sI 0]]) hf ?_
 intro Ik29 k29 s28 hk29 hf e he; subst he
 unfold zone_Copy_l2 at hf
 cbv
 refine d_B ?_ ?_
 ·intro hf; cbv
  refine d_o hS ?_; cbv
  refine d_ix hS hf d_e rfl ?_
  intro j31 _ hf; cbv
  refine d_row hS hM hf rfl d_e ?_
  intro x32 hf; cbv
  refine d_c hS hf (fun _=>c42 hM) ?_
  intro y33 hf; cbv
  refine d_ix hS hf d_e rfl ?_
  intro j34 _ hf; cbv
  refine d_row hS hM hf rfl d_e ?_
  exact d_Xy
 intro hf; cbv
 refine d_callo hS hf (fun _=>o45 hM) (le_eq rfl) ?_
 intro y36 hf; cbv
 refine d_lp hS tabOK wf [] [1,2,104,105] (fun s37=>f3 138 [(1,.lv 0 0),(2,.lv 8 0),(104,sI (S.nint (M.n GCont y36))),(105,sI s37.1)] [vR [.os 1 0 (S.lenN (M.m GPlayer (eGPlayer M) s2.2)),.os 2 0 (S.lenN (M.m GObject (eGObject M) y10)),.os 3 0 (S.lenN (mI M y11)),.os 4 0 (S.lenN (mI M y12)),.os 5 0 (S.lenN (M.m GItem (eGItem M) s14.2)),.os 6 0 (S.lenN (M.m GWaiting (eGWaiting M) s28.2)),.os 7 0 (S.lenN (M.m GCont (eGCont M) s37.2)),sI s.turn,sI s.active,sI s.step,.sb s.begun,sI s.priority,sI s.passes,sI s.nextId,sI s.nextStamp,.si .u64 s.seed,.sl 1 (mI M s.extra) false,sI s.over,sI s.winner],aR 14 (M.m GPlayer (eGPlayer M) s2.2),aR 19 (M.m GObject (eGObject M) y10),aR 1 (mI M y11),aR 1 (mI M y12),aR 94 (M.m GItem (eGItem M) s14.2),aR 89 (M.m GWaiting (eGWaiting M) s28.2),aR 6 (M.m GCont (eGCont M) s37.2),vR [.sl 0 [] true,.sl 0 [] true,.sl 0 [] true,.sl 0 [] true,.sl 0 [] true,.sl 0 [] true,.sl 0 [] true,sI 0,sI 0,sI 0,.sb false,sI 0,sI 0,sI 0,sI 0,.si .u64 0,.sl 0 [] true,sI 0,sI 0]]) hf ?_
 intro Ik38 k38 s37 hk38 hf e he; subst he
 unfold zone_Copy_l1 at hf
 cbv
 refine d_B ?_ ?_
 ·intro hf; cbv
  refine d_o hS ?_; cbv
  refine d_ix hS hf d_e rfl ?_
  intro j40 _ hf; cbv
  refine d_row hS hM hf rfl d_e ?_
  intro x41 hf; cbv
  refine d_c hS hf (fun _=>c40 hM) ?_
  intro y42 hf; cbv
  refine d_ix hS hf d_e rfl ?_
  intro j43 _ hf; cbv
  refine d_row hS hM hf rfl d_e ?_
  intro x44 hf; cbv
  refine d_o hS ?_; cbv
  refine d_ix hS hf d_e rfl ?_
  intro j45 _ hf; cbv
  refine d_row hS hM (e:=(eGCont M)) hf d_e d_e ?_
  intro x46 hf; cbv
  refine d_c hS hf (fun _=>c46 hM) ?_
  intro y47 hf; cbv
  refine d_ix hS hf d_e rfl ?_
  intro j48 _ hf; cbv
  refine d_row hS hM (e:=(eGCont M)) hf d_e d_e ?_
  exact d_Xy
 intro hf; cbv
 refine d_callo hS hf (fun _=>o40 hM) (le_eq rfl) ?_
 exact d_Ry
theorem c358 {c:GCost} {r:ByteArray} (hf:r08_Text c=some r):Pv.Fn Tryz.prog glF 358 [.agg (eGCost M c)] (fun u=>u=.str r):=by
 refine fn_D (tabcOK [21,22,28]) Tryz.func358 Tryz.call358 ?_
 intro S R hS hR
 have q:=sf hM hS
 unfold r08_Text at hf
 cbv
 refine d_p hS hf (fun _=>c104 hM) ?_
 intro y1 hf; cbv
 refine d_B ?_ ?_
 ·exact d_R
 intro hf; cbv
 refine d_lp hS (tabcOK [21,22,28]) wf [] [1,3,4] (fun s2=>f3 47 [(1,.lv 0 0),(3,.str s2.1),(4,sI s2.2)] [vR (eGCost M c)]) hf ?_
 intro Ik3 k3 s2 hk3 hf e he; subst he
 unfold r08_Text_l3 at hf
 cbv
 refine d_B ?_ ?_
 ·intro hf; cbv
  refine d_cat hS hf rfl rfl ?_
  exact d_Xy
 intro hf; cbv
 refine d_cut hS [] [1,3] (fun s6=>f3 47 [(1,.lv 0 0),(3,.str s6)] [vR (eGCost M c)]) hf ?_ ?_
 ·intro Ik7 k7 hk7 hf; cbv
  refine d_B ?_ ?_
  ·intro hf; cbv
   refine d_p hS hf (fun _=>c249 hM) ?_
   intro y9 hf; cbv
   refine d_cat hS hf rfl rfl ?_
   exact d_Xy
  exact d_X
 intro s6 hf; cbv
 refine d_lp hS (tabcOK [21,22,28]) wf [] [1,3,5] (fun s11=>f3 47 [(1,.lv 0 0),(3,.str s11.1),(5,sI s11.2)] [vR (eGCost M c)]) hf ?_
 intro Ik12 k12 s11 hk12 hf e he; subst he
 unfold r08_Text_l2 at hf
 cbv
 refine l_seq hS ?_; cbv
 refine d_B ?_ ?_
 ·intro hf; cbv
  refine d_lp hS (tabcOK [21,22,28]) wf [] [1,3,5,6] (fun s14=>f3 47 [(1,.lv 0 0),(3,.str s14.1),(5,sI s11.2),(6,sI s14.2)] [vR (eGCost M c)]) hf ?_
  intro Ik15 k15 s14 hk15 hf e he; subst he
  unfold r08_Text_l1 at hf
  cbv
  refine d_cut hS [] [1,3,5,6,35] (fun s17=>f3 47 [(1,.lv 0 0),(3,.str s14.1),(5,sI s11.2),(6,sI s14.2),(35,.sb s17)] [vR (eGCost M c)]) hf ?_ ?_
  ·intro Ik18 k18 hk18 hf; cbv
   obtain ⟨j20,hj20,ej20,hf⟩:=d_cases hf
   refine d_ixa hS rfl ⟨j20,hj20,ej20,?_⟩
   rcases lt5 hj20 with rfl | rfl | rfl | rfl | rfl
   ·cbv
    exact d_Xz
   ·cbv
    exact d_Xz
   ·cbv
    exact d_Xz
   ·cbv
    exact d_Xz
   cbv
   exact d_Xz
  intro s17 hf; cbv
  refine d_br hS hf rfl ?_ ?_
  ·intro hf; cbv
   refine d_ssl hS hf rfl rfl d_e ?_
   intro x21 hf; cbv
   refine d_cat hS hf rfl rfl ?_
   exact d_Xy
  exact d_X
 intro hf; cbv
 refine d_B ?_ ?_ <;> exact d_R
theorem c247 {mask:Int} {r:ByteArray} (hf:r11_Text mask=some r):Pv.Fn Tryz.prog glF 247 [sI mask] (fun u=>u=.str r):=by
 refine fn_D (tabcOK [10,13,21,23]) Tryz.func247 Tryz.call247 ?_
 intro S R hS hR
 have q:=sf hM hS
 unfold r11_Text at hf
 cbv
 refine d_p hS hf (fun _=>c106 hM) ?_
 intro y1 hf; cbv
 refine d_B ?_ ?_
 ·exact d_R
 intro hf; cbv
 refine d_lp hS (tabcOK [10,13,21,23]) wf [] [0,3,4] (fun s2=>f3 28 [(0,sI s2.1),(3,.str s2.2.1),(4,sI s2.2.2)] []) hf ?_
 intro Ik3 k3 s2 hk3 hf e he; subst he
 unfold r11_Text_l1 at hf
 cbv
 refine l_seq hS ?_; cbv
 refine d_B ?_ ?_
 ·intro hf; cbv
  refine d_cut hS [] [0,3,4] (fun s5=>f3 28 [(0,sI s5.1),(3,.str s5.2),(4,sI s2.2.2)] []) hf ?_ ?_
  ·intro Ik6 k6 hk6 hf; cbv
   refine d_cut hS [] [0,3,4] (fun s8=>f3 28 [(0,sI s2.1),(3,.str s8),(4,sI s2.2.2)] []) hf ?_ ?_
   ·intro Ik9 k9 hk9 hf; cbv
    refine d_div hS hf rfl rfl ?_
    intro x11 hf; cbv
    refine d_B ?_ ?_
    ·intro hf; cbv
     refine d_cut hS [] [0,3,4] (fun s12=>f3 28 [(0,sI s2.1),(3,.str s12),(4,sI s2.2.2)] []) hf ?_ ?_
     ·intro Ik13 k13 hk13 hf; cbv
      refine d_B ?_ ?_
      ·intro hf; cbv
       refine d_cat hS hf rfl rfl ?_
       exact d_Xy
      exact d_X
     intro s12 hf; cbv
     refine d_p hS hf (fun _=>c311 hM) ?_
     intro y16 hf; cbv
     refine d_cat hS hf rfl rfl ?_
     exact d_Xy
    exact d_X
   intro s8 hf; cbv
   refine d_div hS hf rfl rfl ?_
   exact d_Xy
  intro s5 hf; cbv
  exact d_Xz
 intro hf; cbv
 refine d_B ?_ ?_ <;> exact d_R
theorem c227 {a:List GEffect} {b:List GEffect} {r:Bool} (hf:r17_SameList a b=some r):Pv.Fn Tryz.prog glF 227 [.sl 64 (M.m GEffect (eGEffect M) a) false,.sl 64 (M.m GEffect (eGEffect M) b) false] (fun u=>u=.sb r):=by
 refine fn_D tabOK Tryz.func227 Tryz.call227 ?_
 intro S R hS hR
 have q:=sf hM hS
 unfold r17_SameList at hf
 cbv
 refine d_B ?_ ?_
 ·exact d_R
 intro hf; cbv
 refine d_lp hS tabOK wf [] [0,1,5] (fun s1=>f3 27 [(0,.sl 64 (M.m GEffect (eGEffect M) a) false),(1,.sl 64 (M.m GEffect (eGEffect M) b) false),(5,sI s1)] []) hf ?_
 intro Ik2 k2 s1 hk2 hf e he; subst he
 unfold r17_SameList_l1 at hf
 cbv
 refine d_B ?_ ?_
 ·intro hf; cbv
  refine d_o hS ?_; cbv
  refine d_I ?_
  intro x4 hf; cbv
  refine d_I ?_
  intro x5 hf; cbv
  refine d_c hS hf (fun _=>c298 hM) ?_
  intro y6 hf; cbv
  refine d_B ?_ ?_
  ·exact d_R
  exact d_X
 exact d_R
theorem c164 {s:ByteArray} {r:Bool} (hf:r10_IsSub s=some r):Pv.Fn Tryz.prog glF 164 [.str s] (fun u=>u=.sb r):=by
 refine fn_D tabOK Tryz.func164 Tryz.call164 ?_
 intro S R hS hR
 have q:=sf hM hS
 unfold r10_IsSub at hf
 cbv
 refine d_p hS hf (fun _=>c103 hM) ?_
 intro y1 hf; cbv
 refine d_br hS hf rfl ?_ ?_
 ·intro hf; cbv
  refine d_p hS hf (fun _=>c229 hM) ?_
  intro y2 hf; cbv
  refine d_p hS hf (fun _=>c228 hM) ?_
  intro y3 hf; cbv
  refine d_B ?_ ?_
  ·intro hf; cbv
   refine d_p hS hf (fun _=>c230 hM) ?_
   intro y4 hf; cbv
   refine d_p hS hf (fun _=>c228 hM) ?_
   exact d_Ry
  exact d_R
 exact d_R
theorem c319 {name:ByteArray} {b:GBound} {r:ByteArray} (hf:r13_boundWord name b=some r):Pv.Fn Tryz.prog glF 319 [.str name,.agg (eGBound M b)] (fun u=>u=.str r):=by
 refine fn_D tabOK Tryz.func319 Tryz.call319 ?_
 intro S R hS hR
 have q:=sf hM hS
 unfold r13_boundWord at hf
 cbv
 refine d_B ?_ ?_
 ·exact d_R
 intro hf; cbv
 refine d_p hS hf (fun _=>c361 hM) ?_
 intro y1 hf; cbv
 refine d_o hS ?_; cbv
 refine d_I ?_
 intro x2 hf; cbv
 refine d_cat hS hf rfl rfl ?_
 intro x3 hf; cbv
 refine d_c hS hf (fun _=>c249 hM) ?_
 intro y4 hf; cbv
 refine d_cat hS hf rfl rfl ?_
 exact d_Ry
theorem c114 {s:GState} {o:GObject} {r:Bool} (hf:r26_placed s o=some r):Pv.Fn Tryz.prog glF 114 [.agg (eGState M s),.agg (eGObject M o)] (fun u=>u=.sb r):=by
 refine fn_D tabOK Tryz.func114 Tryz.call114 ?_
 intro S R hS hR
 have q:=sf hM hS
 unfold r26_placed at hf
 cbv
 refine d_B ?_ ?_
 ·intro hf; cbv
  refine d_p hS hf (fun _=>c177 hM) ?_
  exact d_Ry
 intro hf; cbv
 refine d_o hS ?_; cbv
 refine d_c hS hf (fun _=>c178 hM) ?_
 intro y2 hf; cbv
 refine d_c hS hf (fun _=>c173 hM) ?_
 exact d_Ry
theorem c245 {mask:Int} {r:ByteArray} (hf:r10_TypesText mask=some r):Pv.Fn Tryz.prog glF 245 [sI mask] (fun u=>u=.str r):=by
 refine fn_D tabOK Tryz.func245 Tryz.call245 ?_
 intro S R hS hR
 have q:=sf hM hS
 unfold r10_TypesText at hf
 cbv
 refine d_B ?_ ?_
 ·exact d_R
 intro hf; cbv
 refine d_B ?_ ?_
 ·exact d_R
 intro hf; cbv
 refine d_p hS hf (fun _=>c230 hM) ?_
 intro y1 hf; cbv
 refine d_p hS hf (fun _=>c308 hM) ?_
 exact d_Ry
theorem c172 {s:GState} {id:Int} {r:GObject × Bool} (hf:r26_object s id=some r):Pv.Fn Tryz.prog glF 172 [.agg (eGState M s),sI id] (fun u=>u=.tup [.agg (eGObject M r.1),.sb r.2]):=by
 refine fn_D tabOK Tryz.func172 Tryz.call172 ?_
 intro S R hS hR
 have q:=sf hM hS
 unfold r26_object at hf
 cbv
 refine d_p hS hf (fun _=>c241 hM) ?_
 exact d_Ry
end
end Go.Proofs.YthfepelpmalckaaGreatDoor
