import Derived.Test.YthfepelpmalckaaGreatDoorD08
set_option linter.all false
namespace Go.Proofs.YthfepelpmalckaaGreatDoor
open Go Go.Pv
set_option maxRecDepth 100000
set_option maxHeartbeats 2000000
section
variable {M:EncM} (hM:M=mapE)
include hM
theorem c111 {p:Arr6 Int} {r:Bool} (hf:r08_Whole p=some r):Pv.Fn Tryz.prog glF 111 [.agg [sI p.a0,sI p.a1,sI p.a2,sI p.a3,sI p.a4,sI p.a5]] (fun u=>u=.sb r):=by
 refine fn_D (tabcOK [4,8]) Tryz.func111 Tryz.call111 ?_
 intro S R hS hR
 have q:=sf hM hS
 unfold r08_Whole at hf
 cbv
 refine d_lp hS (tabcOK [4,8]) wf [] [1,3] (fun s1=>f3 18 [(1,.lv 0 0),(3,sI s1)] [vR [sI p.a0,sI p.a1,sI p.a2,sI p.a3,sI p.a4,sI p.a5]]) hf ?_
 intro Ik2 k2 s1 hk2 hf e he; subst he
 unfold r08_Whole_l1 at hf
 cbv
 refine l_seq hS ?_; cbv
 refine d_B ?_ ?_
 ·intro hf; cbv
  refine d_cut hS [] [1,3,17] (fun s4=>f3 18 [(1,.lv 0 0),(3,sI s1),(17,.sb s4)] [vR [sI p.a0,sI p.a1,sI p.a2,sI p.a3,sI p.a4,sI p.a5]]) hf ?_ ?_
  ·intro Ik5 k5 hk5 hf; cbv
   obtain ⟨j7,hj7,ej7,hf⟩:=d_cases hf
   refine d_ixa hS rfl ⟨j7,hj7,ej7,?_⟩
   rcases lt6 hj7 with rfl | rfl | rfl | rfl | rfl | rfl
   ·cbv
    refine d_B ?_ ?_
    ·exact d_X
    intro hf; cbv
    obtain ⟨j8,hj8,ej8,hf⟩:=d_cases hf
    refine d_ixa hS rfl ⟨j8,hj8,ej8,?_⟩
    rcases lt6 hj8 with rfl | rfl | rfl | rfl | rfl | rfl
    ·cbv
     exact d_Xz
    ·cbv
     exact d_Xz
    ·cbv
     exact d_Xz
    ·cbv
     exact d_Xz
    ·cbv
     exact d_Xz
    cbv
    exact d_Xz
   ·cbv
    refine d_B ?_ ?_
    ·exact d_X
    intro hf; cbv
    obtain ⟨j9,hj9,ej9,hf⟩:=d_cases hf
    refine d_ixa hS rfl ⟨j9,hj9,ej9,?_⟩
    rcases lt6 hj9 with rfl | rfl | rfl | rfl | rfl | rfl
    ·cbv
     exact d_Xz
    ·cbv
     exact d_Xz
    ·cbv
     exact d_Xz
    ·cbv
     exact d_Xz
    ·cbv
     exact d_Xz
    cbv
    exact d_Xz
   ·cbv
    refine d_B ?_ ?_
    ·exact d_X
    intro hf; cbv
    obtain ⟨j10,hj10,ej10,hf⟩:=d_cases hf
    refine d_ixa hS rfl ⟨j10,hj10,ej10,?_⟩
    rcases lt6 hj10 with rfl | rfl | rfl | rfl | rfl | rfl
    ·cbv
     exact d_Xz
    ·cbv
     exact d_Xz
    ·cbv
     exact d_Xz
    ·cbv
     exact d_Xz
    ·cbv
     exact d_Xz
    cbv
    exact d_Xz
   ·cbv
    refine d_B ?_ ?_
    ·exact d_X
    intro hf; cbv
    obtain ⟨j11,hj11,ej11,hf⟩:=d_cases hf
    refine d_ixa hS rfl ⟨j11,hj11,ej11,?_⟩
    rcases lt6 hj11 with rfl | rfl | rfl | rfl | rfl | rfl
    ·cbv
     exact d_Xz
    ·cbv
     exact d_Xz
    ·cbv
     exact d_Xz
    ·cbv
     exact d_Xz
    ·cbv
     exact d_Xz
    cbv
    exact d_Xz
   ·cbv
    refine d_B ?_ ?_
    ·exact d_X
    intro hf; cbv
    obtain ⟨j12,hj12,ej12,hf⟩:=d_cases hf
    refine d_ixa hS rfl ⟨j12,hj12,ej12,?_⟩
    rcases lt6 hj12 with rfl | rfl | rfl | rfl | rfl | rfl
    ·cbv
     exact d_Xz
    ·cbv
     exact d_Xz
    ·cbv
     exact d_Xz
    ·cbv
     exact d_Xz
    ·cbv
     exact d_Xz
    cbv
    exact d_Xz
   cbv
   refine d_B ?_ ?_
   ·exact d_X
   intro hf; cbv
   obtain ⟨j13,hj13,ej13,hf⟩:=d_cases hf
   refine d_ixa hS rfl ⟨j13,hj13,ej13,?_⟩
   rcases lt6 hj13 with rfl | rfl | rfl | rfl | rfl | rfl
   ·cbv
    exact d_Xz
   ·cbv
    exact d_Xz
   ·cbv
    exact d_Xz
   ·cbv
    exact d_Xz
   ·cbv
    exact d_Xz
   cbv
   exact d_Xz
  intro s4 hf; cbv
  refine d_br hS hf rfl ?_ ?_
  ·exact d_R
  exact d_X
 exact d_R
theorem c104 {c:GCost} {r:Bool} (hf:r08_Is c=some r):Pv.Fn Tryz.prog glF 104 [.agg (eGCost M c)] (fun u=>u=.sb r):=by
 refine fn_D (tabcOK [2,8,12]) Tryz.func104 Tryz.call104 ?_
 intro S R hS hR
 have q:=sf hM hS
 unfold r08_Is at hf
 cbv
 refine d_cut hS [] [1,21] (fun s1=>f3 38 [(1,.lv 0 0),(21,.sb s1)] [vR (eGCost M c)]) hf ?_ ?_
 ·intro Ik2 k2 hk2 hf; cbv
  refine d_B ?_ ?_
  ·exact d_X
  intro hf; cbv
  refine d_B ?_ ?_
  ·exact d_X
  intro hf; cbv
  refine d_B ?_ ?_ <;> exact d_X
 intro s1 hf; cbv
 refine d_br hS hf rfl ?_ ?_
 ·exact d_R
 intro hf; cbv
 refine d_lp hS (tabcOK [2,8,12]) wf [] [1,3] (fun s4=>f3 38 [(1,.lv 0 0),(3,sI s4)] [vR (eGCost M c)]) hf ?_
 intro Ik5 k5 s4 hk5 hf e he; subst he
 unfold r08_Is_l1 at hf
 cbv
 refine l_seq hS ?_; cbv
 refine d_B ?_ ?_
 ·intro hf; cbv
  refine d_cut hS [] [1,3,37] (fun s7=>f3 38 [(1,.lv 0 0),(3,sI s4),(37,.sb s7)] [vR (eGCost M c)]) hf ?_ ?_
  ·intro Ik8 k8 hk8 hf; cbv
   obtain ⟨j10,hj10,ej10,hf⟩:=d_cases hf
   refine d_ixa hS rfl ⟨j10,hj10,ej10,?_⟩
   rcases lt5 hj10 with rfl | rfl | rfl | rfl | rfl
   ·cbv
    refine d_B ?_ ?_
    ·exact d_X
    intro hf; cbv
    obtain ⟨j11,hj11,ej11,hf⟩:=d_cases hf
    refine d_ixa hS rfl ⟨j11,hj11,ej11,?_⟩
    rcases lt5 hj11 with rfl | rfl | rfl | rfl | rfl
    ·cbv
     exact d_Xz
    ·cbv
     exact d_Xz
    ·cbv
     exact d_Xz
    ·cbv
     exact d_Xz
    cbv
    exact d_Xz
   ·cbv
    refine d_B ?_ ?_
    ·exact d_X
    intro hf; cbv
    obtain ⟨j12,hj12,ej12,hf⟩:=d_cases hf
    refine d_ixa hS rfl ⟨j12,hj12,ej12,?_⟩
    rcases lt5 hj12 with rfl | rfl | rfl | rfl | rfl
    ·cbv
     exact d_Xz
    ·cbv
     exact d_Xz
    ·cbv
     exact d_Xz
    ·cbv
     exact d_Xz
    cbv
    exact d_Xz
   ·cbv
    refine d_B ?_ ?_
    ·exact d_X
    intro hf; cbv
    obtain ⟨j13,hj13,ej13,hf⟩:=d_cases hf
    refine d_ixa hS rfl ⟨j13,hj13,ej13,?_⟩
    rcases lt5 hj13 with rfl | rfl | rfl | rfl | rfl
    ·cbv
     exact d_Xz
    ·cbv
     exact d_Xz
    ·cbv
     exact d_Xz
    ·cbv
     exact d_Xz
    cbv
    exact d_Xz
   ·cbv
    refine d_B ?_ ?_
    ·exact d_X
    intro hf; cbv
    obtain ⟨j14,hj14,ej14,hf⟩:=d_cases hf
    refine d_ixa hS rfl ⟨j14,hj14,ej14,?_⟩
    rcases lt5 hj14 with rfl | rfl | rfl | rfl | rfl
    ·cbv
     exact d_Xz
    ·cbv
     exact d_Xz
    ·cbv
     exact d_Xz
    ·cbv
     exact d_Xz
    cbv
    exact d_Xz
   cbv
   refine d_B ?_ ?_
   ·exact d_X
   intro hf; cbv
   obtain ⟨j15,hj15,ej15,hf⟩:=d_cases hf
   refine d_ixa hS rfl ⟨j15,hj15,ej15,?_⟩
   rcases lt5 hj15 with rfl | rfl | rfl | rfl | rfl
   ·cbv
    exact d_Xz
   ·cbv
    exact d_Xz
   ·cbv
    exact d_Xz
   ·cbv
    exact d_Xz
   cbv
   exact d_Xz
  intro s7 hf; cbv
  refine d_br hS hf rfl ?_ ?_
  ·exact d_R
  exact d_X
 exact d_R
theorem c174 {c:Arr3 Int} {r:Bool} (hf:r12_Is c=some r):Pv.Fn Tryz.prog glF 174 [.agg [sI c.a0,sI c.a1,sI c.a2]] (fun u=>u=.sb r):=by
 refine fn_D (tabcOK [4,8]) Tryz.func174 Tryz.call174 ?_
 intro S R hS hR
 have q:=sf hM hS
 unfold r12_Is at hf
 cbv
 refine d_lp hS (tabcOK [4,8]) wf [] [1,3] (fun s1=>f3 18 [(1,.lv 0 0),(3,sI s1)] [vR [sI c.a0,sI c.a1,sI c.a2]]) hf ?_
 intro Ik2 k2 s1 hk2 hf e he; subst he
 unfold r12_Is_l1 at hf
 cbv
 refine l_seq hS ?_; cbv
 refine d_B ?_ ?_
 ·intro hf; cbv
  refine d_cut hS [] [1,3,17] (fun s4=>f3 18 [(1,.lv 0 0),(3,sI s1),(17,.sb s4)] [vR [sI c.a0,sI c.a1,sI c.a2]]) hf ?_ ?_
  ·intro Ik5 k5 hk5 hf; cbv
   obtain ⟨j7,hj7,ej7,hf⟩:=d_cases hf
   refine d_ixa hS rfl ⟨j7,hj7,ej7,?_⟩
   rcases lt3 hj7 with rfl | rfl | rfl
   ·cbv
    refine d_B ?_ ?_
    ·exact d_X
    intro hf; cbv
    obtain ⟨j8,hj8,ej8,hf⟩:=d_cases hf
    refine d_ixa hS rfl ⟨j8,hj8,ej8,?_⟩
    rcases lt3 hj8 with rfl | rfl | rfl
    ·cbv
     exact d_Xz
    ·cbv
     exact d_Xz
    cbv
    exact d_Xz
   ·cbv
    refine d_B ?_ ?_
    ·exact d_X
    intro hf; cbv
    obtain ⟨j9,hj9,ej9,hf⟩:=d_cases hf
    refine d_ixa hS rfl ⟨j9,hj9,ej9,?_⟩
    rcases lt3 hj9 with rfl | rfl | rfl
    ·cbv
     exact d_Xz
    ·cbv
     exact d_Xz
    cbv
    exact d_Xz
   cbv
   refine d_B ?_ ?_
   ·exact d_X
   intro hf; cbv
   obtain ⟨j10,hj10,ej10,hf⟩:=d_cases hf
   refine d_ixa hS rfl ⟨j10,hj10,ej10,?_⟩
   rcases lt3 hj10 with rfl | rfl | rfl
   ·cbv
    exact d_Xz
   ·cbv
    exact d_Xz
   cbv
   exact d_Xz
  intro s4 hf; cbv
  refine d_br hS hf rfl ?_ ?_
  ·exact d_R
  exact d_X
 exact d_R
theorem c356 {op:Int} {r:ByteArray} (hf:r17_Uses op=some r):Pv.Fn Tryz.prog glF 356 [sI op] (fun u=>u=.str r):=by
 refine fn_D tabOK Tryz.func356 Tryz.call356 ?_
 intro S R hS hR
 have q:=sf hM hS
 unfold r17_Uses at hf
 cbv
 refine d_B ?_ ?_
 ·exact d_R
 intro hf; cbv
 refine d_B ?_ ?_
 ·exact d_R
 intro hf; cbv
 refine d_B ?_ ?_
 ·exact d_R
 intro hf; cbv
 refine d_B ?_ ?_
 ·exact d_R
 intro hf; cbv
 refine d_B ?_ ?_
 ·exact d_R
 intro hf; cbv
 refine d_B ?_ ?_
 ·exact d_R
 intro hf; cbv
 refine d_B ?_ ?_
 ·exact d_R
 intro hf; cbv
 refine d_B ?_ ?_
 ·exact d_R
 intro hf; cbv
 refine d_B ?_ ?_
 ·exact d_R
 intro hf; cbv
 refine d_B ?_ ?_
 ·exact d_R
 intro hf; cbv
 refine d_B ?_ ?_
 ·exact d_R
 intro hf; cbv
 refine d_B ?_ ?_
 ·exact d_R
 intro hf; cbv
 refine d_B ?_ ?_
 ·exact d_R
 intro hf; cbv
 refine d_B ?_ ?_
 ·exact d_R
 intro hf; cbv
 refine d_B ?_ ?_
 ·exact d_R
 intro hf; cbv
 refine d_B ?_ ?_
 ·exact d_R
 intro hf; cbv
 refine d_B ?_ ?_
 ·exact d_R
 intro hf; cbv
 refine d_B ?_ ?_ <;> exact d_R
theorem c231 {a:Int} {b:Int} {most:Int} {r:Bool} (hf:r13_apart a b most=some r):Pv.Fn Tryz.prog glF 231 [sI a,sI b,sI most] (fun u=>u=.sb r):=by
 refine fn_D (tabcOK [2,8,12]) Tryz.func231 Tryz.call231 ?_
 intro S R hS hR
 have q:=sf hM hS
 unfold r13_apart at hf
 cbv
 refine d_cut hS [] [0,1,23] (fun s1=>f3 40 [(0,sI a),(1,sI b),(23,.sb s1)] []) hf ?_ ?_
 ·intro Ik2 k2 hk2 hf; cbv
  refine d_B ?_ ?_
  ·exact d_X
  intro hf; cbv
  refine d_B ?_ ?_
  ·exact d_X
  intro hf; cbv
  refine d_B ?_ ?_ <;> exact d_X
 intro s1 hf; cbv
 refine d_br hS hf rfl ?_ ?_
 ·exact d_R
 intro hf; cbv
 refine d_lp hS (tabcOK [2,8,12]) wf [] [0,1,7] (fun s4=>f3 40 [(0,sI s4.1),(1,sI s4.2.1),(7,sI s4.2.2)] []) hf ?_
 intro Ik5 k5 s4 hk5 hf e he; subst he
 unfold r13_apart_l1 at hf
 cbv
 refine l_seq hS ?_; cbv
 refine d_B ?_ ?_
 ·intro hf; cbv
  refine d_cut hS [] [0,1,7,35] (fun s7=>f3 40 [(0,sI s4.1),(1,sI s4.2.1),(7,sI s4.2.2),(35,.sb s7)] []) hf ?_ ?_
  ·intro Ik8 k8 hk8 hf; cbv
   refine d_div hS hf rfl rfl ?_
   intro x10 hf; cbv
   refine d_B ?_ ?_
   ·intro hf; cbv
    refine d_div hS hf rfl rfl ?_
    exact d_Xy
   exact d_X
  intro s7 hf; cbv
  refine d_br hS hf rfl ?_ ?_
  ·exact d_R
  intro hf; cbv
  refine d_div hS hf rfl rfl ?_
  intro x12 hf; cbv
  refine d_div hS hf rfl rfl ?_
  exact d_Xy
 exact d_R
theorem c233 {when:Int} {r:ByteArray} (hf:r18_word when=some r):Pv.Fn Tryz.prog glF 233 [sI when] (fun u=>u=.str r):=by
 refine fn_D tabOK Tryz.func233 Tryz.call233 ?_
 intro S R hS hR
 have q:=sf hM hS
 unfold r18_word at hf
 cbv
 refine d_B ?_ ?_
 ·exact d_R
 intro hf; cbv
 refine d_B ?_ ?_
 ·exact d_R
 intro hf; cbv
 refine d_B ?_ ?_
 ·exact d_R
 intro hf; cbv
 refine d_B ?_ ?_
 ·exact d_R
 intro hf; cbv
 refine d_B ?_ ?_
 ·exact d_R
 intro hf; cbv
 refine d_B ?_ ?_
 ·exact d_R
 intro hf; cbv
 refine d_B ?_ ?_
 ·exact d_R
 intro hf; cbv
 refine d_B ?_ ?_
 ·exact d_R
 intro hf; cbv
 refine d_B ?_ ?_
 ·exact d_R
 intro hf; cbv
 refine d_B ?_ ?_
 ·exact d_R
 intro hf; cbv
 refine d_B ?_ ?_
 ·exact d_R
 intro hf; cbv
 refine d_B ?_ ?_
 ·exact d_R
 intro hf; cbv
 refine d_B ?_ ?_
 ·exact d_R
 intro hf; cbv
 refine d_B ?_ ?_ <;> exact d_R
theorem c177 {s:GState} {id:Int} {r:Int} (hf:r26_spells s id=some r):Pv.Fn Tryz.prog glF 177 [.agg (eGState M s),sI id] (fun u=>u=sI r):=by
 refine fn_D (tabcOK [9,10]) Tryz.func177 Tryz.call177 ?_
 intro S R hS hR
 have q:=sf hM hS
 unfold r26_spells at hf
 cbv
 refine d_lp hS (tabcOK [9,10]) wf [] [1,2,5,6] (fun s1=>f3 34 [(1,sI id),(2,.lv 0 0),(5,sI s1.1),(6,sI s1.2)] [vR (eGState M s)]) hf ?_
 intro Ik2 k2 s1 hk2 hf e he; subst he
 unfold r26_spells_l1 at hf
 cbv
 refine d_B ?_ ?_
 ·intro hf; cbv
  refine d_cut hS [] [1,2,5,6] (fun s4=>f3 34 [(1,sI id),(2,.lv 0 0),(5,sI s4),(6,sI s1.2)] [vR (eGState M s)]) hf ?_ ?_
  ·intro Ik5 k5 hk5 hf; cbv
   refine d_cut hS [] [1,2,5,6,30] (fun s7=>f3 34 [(1,sI id),(2,.lv 0 0),(5,sI s1.1),(6,sI s1.2),(30,.sb s7)] [vR (eGState M s)]) hf ?_ ?_
   ·intro Ik8 k8 hk8 hf; cbv
    refine d_I ?_
    intro x10 hf; cbv
    refine d_B ?_ ?_
    ·intro hf; cbv
     refine d_I ?_
     exact d_Xy
    exact d_X
   intro s7 hf; cbv
   refine d_br hS hf rfl ?_ ?_ <;> exact d_X
  intro s4 hf; cbv
  exact d_Xz
 exact d_R
theorem c320 {l:List ByteArray} {pby:ByteArray} {r:ByteArray} (hf:r02_Join l pby=some r):Pv.Fn Tryz.prog glF 320 [.sl 1 (M.m ByteArray eS l) false,.str pby] (fun u=>u=.str r):=by
 refine fn_D (tabcOK [9,15]) Tryz.func320 Tryz.call320 ?_
 intro S R hS hR
 have q:=sf hM hS
 unfold r02_Join at hf
 cbv
 refine d_lp hS (tabcOK [9,15]) wf [] [0,1,5,6] (fun s1=>f3 25 [(0,.sl 1 (M.m ByteArray eS l) false),(1,.str pby),(5,.str s1.1),(6,sI s1.2)] []) hf ?_
 intro Ik2 k2 s1 hk2 hf e he; subst he
 unfold r02_Join_l1 at hf
 cbv
 refine d_B ?_ ?_
 ·intro hf; cbv
  refine d_cut hS [] [0,1,5,6] (fun s4=>f3 25 [(0,.sl 1 (M.m ByteArray eS l) false),(1,.str pby),(5,.str s4),(6,sI s1.2)] []) hf ?_ ?_
  ·intro Ik5 k5 hk5 hf; cbv
   refine d_cut hS [] [0,1,5,6] (fun s7=>f3 25 [(0,.sl 1 (M.m ByteArray eS l) false),(1,.str pby),(5,.str s7),(6,sI s1.2)] []) hf ?_ ?_
   ·intro Ik8 k8 hk8 hf; cbv
    refine d_B ?_ ?_
    ·intro hf; cbv
     refine d_cat hS hf rfl rfl ?_
     exact d_Xy
    exact d_X
   intro s7 hf; cbv
   refine d_I ?_
   intro x11 hf; cbv
   refine d_cat hS hf rfl rfl ?_
   exact d_Xy
  intro s4 hf; cbv
  exact d_Xz
 exact d_R
theorem c243 {m:GMod} {r:GMod} (hf:r15_used m=some r):Pv.Fn Tryz.prog glF 243 [.agg (eGMod M m)] (fun u=>u=.agg (eGMod M r)):=by
 refine fn_D tabOK Tryz.func243 Tryz.call243 ?_
 intro S R hS hR
 have q:=sf hM hS
 unfold r15_used at hf
 cbv
 refine d_B ?_ ?_
 ·exact d_R
 intro hf; cbv
 refine d_B ?_ ?_
 ·exact d_R
 intro hf; cbv
 refine d_B ?_ ?_
 ·exact d_R
 intro hf; cbv
 refine d_B ?_ ?_
 ·exact d_R
 intro hf; cbv
 refine d_B ?_ ?_
 ·exact d_R
 intro hf; cbv
 refine d_B ?_ ?_
 ·exact d_R
 intro hf; cbv
 refine d_B ?_ ?_
 ·exact d_R
 intro hf; cbv
 refine d_B ?_ ?_
 ·exact d_R
 intro hf; cbv
 refine d_B ?_ ?_
 ·exact d_R
 intro hf; cbv
 refine d_B ?_ ?_
 ·exact d_R
 intro hf; cbv
 refine d_B ?_ ?_ <;> exact d_R
theorem c110 {l:List GCard} {name:ByteArray} {r:Bool} (hf:r22_token l name=some r):Pv.Fn Tryz.prog glF 110 [.sl 17 (M.m GCard (eGCard M) l) false,.str name] (fun u=>u=.sb r):=by
 refine fn_D (tabcOK [8]) Tryz.func110 Tryz.call110 ?_
 intro S R hS hR
 have q:=sf hM hS
 unfold r22_token at hf
 cbv
 refine d_lp hS (tabcOK [8]) wf [] [0,1,5] (fun s1=>f3 26 [(0,.sl 17 (M.m GCard (eGCard M) l) false),(1,.str name),(5,sI s1)] []) hf ?_
 intro Ik2 k2 s1 hk2 hf e he; subst he
 unfold r22_token_l1 at hf
 cbv
 refine d_B ?_ ?_
 ·intro hf; cbv
  refine d_cut hS [] [0,1,5,25] (fun s4=>f3 26 [(0,.sl 17 (M.m GCard (eGCard M) l) false),(1,.str name),(5,sI s1),(25,.sb s4)] []) hf ?_ ?_
  ·intro Ik5 k5 hk5 hf; cbv
   refine d_I ?_
   intro x7 hf; cbv
   refine d_B ?_ ?_
   ·intro hf; cbv
    refine d_I ?_
    exact d_Xy
   exact d_X
  intro s4 hf; cbv
  refine d_br hS hf rfl ?_ ?_
  ·exact d_R
  exact d_X
 exact d_R
theorem c237 {pr:GReplace} {r:Bool} (hf:r19_plain pr=some r):Pv.Fn Tryz.prog glF 237 [.agg (eGReplace M pr)] (fun u=>u=.sb r):=by
 refine fn_D (tabcOK [2,6]) Tryz.func237 Tryz.call237 ?_
 intro S R hS hR
 have q:=sf hM hS
 unfold r19_plain at hf
 cbv
 refine d_cut hS [] [1,10] (fun s1=>f3 30 [(1,.lv 0 0),(10,.sb s1)] [vR (eGReplace M pr)]) hf ?_ ?_
 ·intro Ik2 k2 hk2 hf; cbv
  refine d_B ?_ ?_ <;> exact d_X
 intro s1 hf; cbv
 refine d_br hS hf rfl ?_ ?_
 ·exact d_R
 intro hf; cbv
 refine d_cut hS [] [1,18] (fun s4=>f3 30 [(1,.lv 0 0),(18,.sb s4)] [vR (eGReplace M pr)]) hf ?_ ?_
 ·intro Ik5 k5 hk5 hf; cbv
  refine d_B ?_ ?_ <;> exact d_X
 intro s4 hf; cbv
 refine d_br hS hf rfl ?_ ?_
 ·intro hf; cbv
  refine d_B ?_ ?_ <;> exact d_R
 exact d_R
theorem c173 {l:List Int} {n:Int} {r:Int} (hf:r26_times l n=some r):Pv.Fn Tryz.prog glF 173 [.sl 1 (mI M l) false,sI n] (fun u=>u=sI r):=by
 refine fn_D (tabcOK [9]) Tryz.func173 Tryz.call173 ?_
 intro S R hS hR
 have q:=sf hM hS
 unfold r26_times at hf
 cbv
 refine d_lp hS (tabcOK [9]) wf [] [0,1,5,6] (fun s1=>f3 22 [(0,.sl 1 (mI M l) false),(1,sI n),(5,sI s1.1),(6,sI s1.2)] []) hf ?_
 intro Ik2 k2 s1 hk2 hf e he; subst he
 unfold r26_times_l1 at hf
 cbv
 refine d_B ?_ ?_
 ·intro hf; cbv
  refine d_cut hS [] [0,1,5,6] (fun s4=>f3 22 [(0,.sl 1 (mI M l) false),(1,sI n),(5,sI s4),(6,sI s1.2)] []) hf ?_ ?_
  ·intro Ik5 k5 hk5 hf; cbv
   refine d_I ?_
   intro x7 hf; cbv
   refine d_B ?_ ?_ <;> exact d_X
  intro s4 hf; cbv
  exact d_Xz
 exact d_R
theorem c226 {a:List GMod} {b:List GMod} {r:Bool} (hf:r17_SameMods a b=some r):Pv.Fn Tryz.prog glF 226 [.sl 20 (M.m GMod (eGMod M) a) false,.sl 20 (M.m GMod (eGMod M) b) false] (fun u=>u=.sb r):=by
 refine fn_D tabOK Tryz.func226 Tryz.call226 ?_
 intro S R hS hR
 have q:=sf hM hS
 unfold r17_SameMods at hf
 cbv
 refine d_B ?_ ?_
 ·exact d_R
 intro hf; cbv
 refine d_lp hS tabOK wf [] [0,1,5] (fun s1=>f3 26 [(0,.sl 20 (M.m GMod (eGMod M) a) false),(1,.sl 20 (M.m GMod (eGMod M) b) false),(5,sI s1)] []) hf ?_
 intro Ik2 k2 s1 hk2 hf e he; subst he
 unfold r17_SameMods_l1 at hf
 cbv
 refine d_B ?_ ?_
 ·intro hf; cbv
  refine d_o hS ?_; cbv
  refine d_I ?_
  intro x4 hf; cbv
  refine d_I ?_
  intro x5 hf; cbv
  replace hf:=d_lt hf
  refine d_B ?_ ?_
  ·exact d_R
  exact d_X
 exact d_R
theorem c162 {a:List GMod} {b:List GMod} {r:Bool} (hf:r26_SameMods a b=some r):Pv.Fn Tryz.prog glF 162 [.sl 20 (M.m GMod (eGMod M) a) false,.sl 20 (M.m GMod (eGMod M) b) false] (fun u=>u=.sb r):=by
 refine fn_D tabOK Tryz.func162 Tryz.call162 ?_
 intro S R hS hR
 have q:=sf hM hS
 unfold r26_SameMods at hf
 cbv
 refine d_B ?_ ?_
 ·exact d_R
 intro hf; cbv
 refine d_lp hS tabOK wf [] [0,1,5] (fun s1=>f3 26 [(0,.sl 20 (M.m GMod (eGMod M) a) false),(1,.sl 20 (M.m GMod (eGMod M) b) false),(5,sI s1)] []) hf ?_
 intro Ik2 k2 s1 hk2 hf e he; subst he
 unfold r26_SameMods_l1 at hf
 cbv
 refine d_B ?_ ?_
 ·intro hf; cbv
  refine d_o hS ?_; cbv
  refine d_I ?_
  intro x4 hf; cbv
  refine d_I ?_
  intro x5 hf; cbv
  replace hf:=d_lt hf
  refine d_B ?_ ?_
  ·exact d_R
  exact d_X
 exact d_R
theorem c28 {a:List Int} {b:List Int} {r:Bool} (hf:r03_Same a b=some r):Pv.Fn Tryz.prog glF 28 [.sl 1 (mI M a) false,.sl 1 (mI M b) false] (fun u=>u=.sb r):=by
 refine fn_D tabOK Tryz.func28 Tryz.call28 ?_
 intro S R hS hR
 have q:=sf hM hS
 unfold r03_Same at hf
 cbv
 refine d_B ?_ ?_
 ·exact d_R
 intro hf; cbv
 refine d_lp hS tabOK wf [] [0,1,5] (fun s1=>f3 26 [(0,.sl 1 (mI M a) false),(1,.sl 1 (mI M b) false),(5,sI s1)] []) hf ?_
 intro Ik2 k2 s1 hk2 hf e he; subst he
 unfold r03_Same_l1 at hf
 cbv
 refine d_B ?_ ?_
 ·intro hf; cbv
  refine d_o hS ?_; cbv
  refine d_I ?_
  intro x4 hf; cbv
  refine d_I ?_
  intro x5 hf; cbv
  refine d_B ?_ ?_
  ·exact d_R
  exact d_X
 exact d_R
theorem c321 {u:Int} {r:ByteArray} (hf:r01_digits u=some r):Pv.Fn Tryz.prog glF 321 [.si .u64 u] (fun u=>u=.str r):=by
 refine fn_D tabOK Tryz.func321 Tryz.call321 ?_
 intro S R hS hR
 have q:=sf hM hS
 unfold r01_digits at hf
 cbv
 refine d_div hS hf rfl rfl ?_
 intro x1 hf; cbv
 refine d_toS hS hM hf ⟨5,by kernel_rfl,by kernel_rfl⟩ d_e ?_
 intro x2 hf; cbv
 refine d_div hS hf rfl rfl ?_
 intro x3 hf; cbv
 refine d_lp hS tabOK wf [] [0,3] (fun s4=>f3 25 [(0,.si .u64 s4.1),(3,.str s4.2)] []) hf ?_
 intro Ik5 k5 s4 hk5 hf e he; subst he
 unfold r01_digits_l1 at hf
 cbv
 refine d_B ?_ ?_
 ·intro hf; cbv
  refine d_div hS hf rfl rfl ?_
  intro x7 hf; cbv
  refine d_toS hS hM hf ⟨5,by kernel_rfl,by kernel_rfl⟩ d_e ?_
  intro x8 hf; cbv
  refine d_cat hS hf rfl rfl ?_
  intro x9 hf; cbv
  refine d_div hS hf rfl rfl ?_
  exact d_Xy
 exact d_R
end
end Go.Proofs.YthfepelpmalckaaGreatDoor
