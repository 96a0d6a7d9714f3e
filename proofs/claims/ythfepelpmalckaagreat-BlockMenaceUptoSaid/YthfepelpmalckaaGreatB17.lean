import Derived.Test.YthfepelpmalckaaGreatB16
set_option linter.all false
namespace Go.Proofs.YthfepelpmalckaaGreat
open Go Go.Pv
set_option maxRecDepth 100000
set_option maxHeartbeats 2000000
section
variable {M:EncM} (hM:M=mapE)
include hM
theorem c66 {w:GR30World} {i:Int} {stage:Int} {r:List Int} (hf:r30_numbers w i stage=some r):Pv.Fn Tryz.prog glF 66 [.agg (eGR30World M w),sI i,sI stage] (fun u=>u=.sl 1 (mI M r) false):=by
 refine fn_D (tabcOK [11,21]) Tryz.func66 Tryz.call66 ?_
 intro S R hS hR
 have q:=sf hM hS
 unfold r30_numbers at hf
 cbv
 refine d_I ?_
 intro x1 hf; cbv
 refine d_lp hS (tabcOK [11,21]) wf [] [1,2,3,7,8,9] (fun s2=>f3 62 [(1,sI i),(2,sI stage),(3,.lv 0 0),(7,.os 1 0 (S.lenN (mI M s2.2))),(8,.lv 2 0),(9,sI s2.1)] [vR (eGR30World M w),aR 1 (mI M s2.2),vR (eGR30Force M x1)]) hf ?_
 intro Ik3 k3 s2 hk3 hf e he; subst he
 unfold r30_numbers_l1 at hf
 cbv
 refine d_B ?_ ?_
 ·intro hf; cbv
  refine d_cut hS [] [1,2,3,7,8,9] (fun s5=>f3 62 [(1,sI i),(2,sI stage),(3,.lv 0 0),(7,.os 1 0 (S.lenN (mI M s5))),(8,.lv 2 0),(9,sI s2.1)] [vR (eGR30World M w),aR 1 (mI M s5),vR (eGR30Force M x1)]) hf ?_ ?_
  ·intro Ik6 k6 hk6 hf; cbv
   refine d_I ?_
   intro x8 hf; cbv
   refine d_p hS hf (fun _=>c61 hM) ?_
   intro y9 hf; cbv
   refine d_B ?_ ?_
   ·exact d_X
   intro hf; cbv
   refine d_cut hS [] [1,2,3,7,8,9,10] (fun s10=>f3 62 [(1,sI i),(2,sI stage),(3,.lv 0 0),(7,.os 1 0 (S.lenN (mI M s2.2))),(8,.lv 2 0),(9,sI s2.1),(10,sI s10)] [vR (eGR30World M w),aR 1 (mI M s2.2),vR (eGR30Force M x1)]) hf ?_ ?_
   ·intro Ik11 k11 hk11 hf; cbv
    refine d_I ?_
    intro x13 hf; cbv
    refine d_B ?_ ?_
    ·intro hf; cbv
     refine d_o hS ?_; cbv
     refine d_c hS hf (fun _=>c67 hM) ?_
     intro y14 hf; cbv
     refine d_I ?_
     intro x15 hf; cbv
     refine d_c hS hf (fun _=>c110 hM) ?_
     exact d_Xy
    exact d_X
   intro s10 hf; cbv
   refine d_room hS hf d_e ?_
   exact d_X
  intro s5 hf; cbv
  exact d_Xz
 exact d_R
theorem c69 {t:GTraits} {f:GR30Force} {stage:Int} {player:Int} {nums:List Int} {r:GTraits} (hf:r30_modified t f stage player nums=some r):Pv.Fn Tryz.prog glF 69 [.agg (eGTraits M t),.agg (eGR30Force M f),sI stage,sI player,.sl 1 (mI M nums) false] (fun u=>u=.agg (eGTraits M r)):=by
 refine fn_D (tabcOK [9]) Tryz.func69 Tryz.call69 ?_
 intro S R hS hR
 have q:=sf hM hS
 unfold r30_modified at hf
 cbv
 refine d_lp hS (tabcOK [9]) wf [] [2,3,4,5,6,10,11,12] (fun s1=>f3 44 [(2,sI stage),(3,sI player),(4,.sl 1 (mI M nums) false),(5,.lv 0 0),(6,.lv 1 0),(10,.lv 2 0),(11,sI s1.2.1),(12,sI s1.2.2)] [vR (eGTraits M s1.1),vR (eGR30Force M f),vR [.str (bs []),sI 0,sI 0,sI 0,sI 0,sI 0,sI 0,sI 0,sI 0,sI 0,sI 0,.sl 0 [] true,sI 0,sI 0,sI 0,.sl 0 [] true,sI 0]]) hf ?_
 intro Ik2 k2 s1 hk2 hf e he; subst he
 unfold r30_modified_l1 at hf
 cbv
 refine d_B ?_ ?_
 ·intro hf; cbv
  refine d_cut hS [] [2,3,4,5,6,10,11,12] (fun s4=>f3 44 [(2,sI stage),(3,sI player),(4,.sl 1 (mI M nums) false),(5,.lv 0 0),(6,.lv 1 0),(10,.lv 2 0),(11,sI s4.2),(12,sI s1.2.2)] [vR (eGTraits M s4.1),vR (eGR30Force M f),vR [.str (bs []),sI 0,sI 0,sI 0,sI 0,sI 0,sI 0,sI 0,sI 0,sI 0,sI 0,.sl 0 [] true,sI 0,sI 0,sI 0,.sl 0 [] true,sI 0]]) hf ?_ ?_
  ·intro Ik5 k5 hk5 hf; cbv
   refine d_I ?_
   intro x7 hf; cbv
   refine d_p hS hf (fun _=>c61 hM) ?_
   intro y8 hf; cbv
   refine d_B ?_ ?_
   ·intro hf; cbv
    refine d_o hS ?_; cbv
    refine d_I ?_
    intro x9 hf; cbv
    refine d_I ?_
    intro x10 hf; cbv
    refine d_c hS hf (fun _=>c112 hM) ?_
    exact d_Xy
   exact d_X
  intro s4 hf; cbv
  exact d_Xz
 exact d_R
end
end Go.Proofs.YthfepelpmalckaaGreat
namespace Go.Proofs.YthfepelpmalckaaGreat
open Go Go.Pv
set_option maxRecDepth 100000
set_option maxHeartbeats 2000000
section
variable {M:EncM} (hM:M=mapE)
include hM
theorem c32 {w:GR30World} {i:Int} {stage:Int} {r:GR30World} (hf:r30_applied w i stage=some r):Pv.Fn Tryz.prog glF 32 [.agg (eGR30World M w),sI i,sI stage] (fun u=>u=.agg (eGR30World M r)):=by
 refine fn_D (tabcOK [31]) Tryz.func32 Tryz.call32 ?_
 intro S R hS hR
 have q:=sf hM hS
 unfold r30_applied at hf
 cbv
 refine d_p hS hf (fun _=>c64 hM) ?_
 intro y1 hf; cbv
 refine d_B ?_ ?_
 ·exact d_R
 intro hf; cbv
 refine d_p hS hf (fun _=>c65 hM) ?_
 intro y2 hf; cbv
 refine d_p hS hf (fun _=>c66 hM) ?_
 intro y3 hf; cbv
 refine d_p hS hf (fun _=>c67 hM) ?_
 intro y4 hf; cbv
 refine d_room hS hf d_e ?_
 intro hf; cbv
 refine d_room hS hf d_e ?_
 intro hf; cbv
 refine d_room hS hf d_e ?_
 intro hf; cbv
 refine d_room hS hf d_e ?_
 intro hf; cbv
 refine d_ix hS hf d_e rfl ?_
 intro j5 _ hf; cbv
 refine d_wk hS (e:=eB) hf (by (try simp only [q]); repeat' constructor) ?_
 intro x6 hf; cbv
 refine d_row hS hM hf rfl d_e ?_
 intro x7 hf; cbv
 refine d_ix hS hf d_e rfl ?_
 intro j8 _ hf; cbv
 refine d_row hS hM hf rfl d_e ?_
 intro x9 hf; cbv
 refine d_lp hS (tabcOK [31]) wf [] [1,2,3,6,7,8,9,10,11] (fun s10=>f3 113 [(1,sI i),(2,sI stage),(3,.lv 0 0),(6,.lv 1 0),(7,.sl 1 (mI M y2) false),(8,.sl 1 (mI M y3) false),(9,sI y4),(10,.lv 2 0),(11,sI s10.1)] [vR (eGR30World M w),vR [.sl 0 [] true,.sl 0 [] true,.sl 0 [] true,.sl 0 [] true,.sl 0 [] true,.sl 0 [] true,.sl 0 [] true,sI 0,sI 0,sI 0,.sb false,sI 0,sI 0,sI 0,sI 0,.si .u64 0,.sl 0 [] true,sI 0,sI 0,.sl 0 [] true,.sl 0 [] true,.sl 0 [] true,.sl 0 [] true,.sl 0 [] true],vR [.sl 14 (M.m GPlayer (eGPlayer M) w.s.players) false,.sl 19 (M.m GObject (eGObject M) w.s.objects) false,.sl 1 (mI M w.s.battlefield) false,.sl 1 (mI M w.s.exile) false,.sl 94 (M.m GItem (eGItem M) w.s.stack) false,.sl 89 (M.m GWaiting (eGWaiting M) w.s.waiting) false,.sl 6 (M.m GCont (eGCont M) w.s.conts) false,sI w.s.turn,sI w.s.active,sI w.s.step,.sb w.s.begun,sI w.s.priority,sI w.s.passes,sI w.s.nextId,sI w.s.nextStamp,.si .u64 w.s.seed,.sl 1 (mI M w.s.extra) false,sI w.s.over,sI w.s.winner,.os 3 0 (S.lenN (M.m GTraits (eGTraits M) s10.2.1)),.sl 23 (M.m GR30Force (eGR30Force M) w.l) false,.os 4 0 (S.lenN (S.rset (M.m Bool eB w.begun) (S.nadd 0 j5) [.sb x6])),.os 5 0 (S.lenN (S.rset (M.m (List Int) (eL M 1 (eI .i64)) w.sets) (S.nadd 0 j8) [.sl 1 (mI M y2) false])),.os 6 0 (S.lenN (M.m Bool eB s10.2.2))],aR 17 (M.m GTraits (eGTraits M) s10.2.1),aR 1 (S.rset (M.m Bool eB w.begun) (S.nadd 0 j5) [.sb x6]),aR 1 (S.rset (M.m (List Int) (eL M 1 (eI .i64)) w.sets) (S.nadd 0 j8) [.sl 1 (mI M y2) false]),aR 1 (M.m Bool eB s10.2.2)]) hf ?_
 intro Ik11 k11 s10 hk11 hf e he; subst he
 unfold r30_applied_l1 at hf
 cbv
 refine d_B ?_ ?_
 ·intro hf; cbv
  refine d_cut hS [] [1,2,3,6,7,8,9,10,11] (fun s13=>f3 113 [(1,sI i),(2,sI stage),(3,.lv 0 0),(6,.lv 1 0),(7,.sl 1 (mI M y2) false),(8,.sl 1 (mI M y3) false),(9,sI y4),(10,.lv 2 0),(11,sI s10.1)] [vR (eGR30World M w),vR [.sl 0 [] true,.sl 0 [] true,.sl 0 [] true,.sl 0 [] true,.sl 0 [] true,.sl 0 [] true,.sl 0 [] true,sI 0,sI 0,sI 0,.sb false,sI 0,sI 0,sI 0,sI 0,.si .u64 0,.sl 0 [] true,sI 0,sI 0,.sl 0 [] true,.sl 0 [] true,.sl 0 [] true,.sl 0 [] true,.sl 0 [] true],vR [.sl 14 (M.m GPlayer (eGPlayer M) w.s.players) false,.sl 19 (M.m GObject (eGObject M) w.s.objects) false,.sl 1 (mI M w.s.battlefield) false,.sl 1 (mI M w.s.exile) false,.sl 94 (M.m GItem (eGItem M) w.s.stack) false,.sl 89 (M.m GWaiting (eGWaiting M) w.s.waiting) false,.sl 6 (M.m GCont (eGCont M) w.s.conts) false,sI w.s.turn,sI w.s.active,sI w.s.step,.sb w.s.begun,sI w.s.priority,sI w.s.passes,sI w.s.nextId,sI w.s.nextStamp,.si .u64 w.s.seed,.sl 1 (mI M w.s.extra) false,sI w.s.over,sI w.s.winner,.os 3 0 (S.lenN (M.m GTraits (eGTraits M) s13.1)),.sl 23 (M.m GR30Force (eGR30Force M) w.l) false,.os 4 0 (S.lenN (S.rset (M.m Bool eB w.begun) (S.nadd 0 j5) [.sb x6])),.os 5 0 (S.lenN (S.rset (M.m (List Int) (eL M 1 (eI .i64)) w.sets) (S.nadd 0 j8) [.sl 1 (mI M y2) false])),.os 6 0 (S.lenN (M.m Bool eB s13.2))],aR 17 (M.m GTraits (eGTraits M) s13.1),aR 1 (S.rset (M.m Bool eB w.begun) (S.nadd 0 j5) [.sb x6]),aR 1 (S.rset (M.m (List Int) (eL M 1 (eI .i64)) w.sets) (S.nadd 0 j8) [.sl 1 (mI M y2) false]),aR 1 (M.m Bool eB s13.2)]) hf ?_ ?_
  ·intro Ik14 k14 hk14 hf; cbv
   refine d_I ?_
   intro x16 hf; cbv
   refine d_p hS hf (fun _=>c68 hM) ?_
   intro y17 hf; cbv
   refine d_B ?_ ?_
   ·exact d_X
   intro hf; cbv
   refine d_o hS ?_; cbv
   refine d_I ?_
   intro x18 hf; cbv
   refine d_I ?_
   intro x19 hf; cbv
   refine d_c hS hf (fun _=>c69 hM) ?_
   intro y20 hf; cbv
   refine d_ix hS hf d_e rfl ?_
   intro j21 _ hf; cbv
   refine d_row hS hM hf rfl d_e ?_
   intro x22 hf; cbv
   refine d_I ?_
   intro x23 hf; cbv
   refine d_p hS hf (fun _=>c70 hM) ?_
   intro y24 hf; cbv
   refine d_br hS hf rfl ?_ ?_
   ·intro hf; cbv
    refine d_ix hS hf d_e rfl ?_
    intro j25 _ hf; cbv
    refine d_wk hS (e:=eB) hf (by (try simp only [q]); repeat' constructor) ?_
    intro x26 hf; cbv
    refine d_row hS hM hf rfl d_e ?_
    exact d_Xy
   exact d_X
  intro s13 hf; cbv
  exact d_Xz
 intro hf; cbv
 cases hf; exact hR _ (d_l (by (try simp only [eGR30World,eGTraits,eL,eS,q]); try first | rfl | simp [stdCmp,eI,eB,eL,eS,q]))
end
end Go.Proofs.YthfepelpmalckaaGreat
namespace Go.Proofs.YthfepelpmalckaaGreat
open Go Go.Pv
set_option maxRecDepth 100000
set_option maxHeartbeats 2000000
section
variable {M:EncM} (hM:M=mapE)
include hM
theorem c62 {w:GR30World} {i:Int} {j:Int} {stage:Int} {r:Bool} (hf:r30_needs w i j stage=some r):Pv.Fn Tryz.prog glF 62 [.agg (eGR30World M w),sI i,sI j,sI stage] (fun u=>u=.sb r):=by
 refine fn_D tabOK Tryz.func62 Tryz.call62 ?_
 intro S R hS hR
 have q:=sf hM hS
 unfold r30_needs at hf
 cbv
 refine d_B ?_ ?_
 ·exact d_R
 intro hf; cbv
 refine d_p hS hf (fun _=>c32 hM) ?_
 intro y1 hf; cbv
 refine d_o hS ?_; cbv
 refine d_c hS hf (fun _=>c64 hM) ?_
 intro y2 hf; cbv
 refine d_c hS hf (fun _=>c64 hM) ?_
 intro y3 hf; cbv
 refine d_B ?_ ?_
 ·exact d_R
 intro hf; cbv
 refine d_c hS hf (fun _=>c65 hM) ?_
 intro y4 hf; cbv
 refine d_c hS hf (fun _=>c65 hM) ?_
 intro y5 hf; cbv
 refine d_c hS hf (fun _=>c105 hM) ?_
 intro y6 hf; cbv
 refine d_B ?_ ?_
 ·exact d_R
 intro hf; cbv
 refine d_c hS hf (fun _=>c66 hM) ?_
 intro y7 hf; cbv
 refine d_c hS hf (fun _=>c66 hM) ?_
 intro y8 hf; cbv
 refine d_c hS hf (fun _=>c105 hM) ?_
 exact d_Ry
end
end Go.Proofs.YthfepelpmalckaaGreat
namespace Go.Proofs.YthfepelpmalckaaGreat
open Go Go.Pv
set_option maxRecDepth 100000
set_option maxHeartbeats 2000000
section
variable {M:EncM} (hM:M=mapE)
include hM
theorem c31 {w:GR30World} {left:List Int} {stage:Int} {r:Int} (hf:r30_next w left stage=some r):Pv.Fn Tryz.prog glF 31 [.agg (eGR30World M w),.sl 1 (mI M left) false,sI stage] (fun u=>u=sI r):=by
 refine fn_D (tabnOK [] 3) Tryz.func31 Tryz.call31 ?_
 intro S R hS hR
 have q:=sf hM hS; have q1:=sfh1 hM hS; have q2:=sfh2 hM hS
 unfold r30_next at hf
 cbv
 refine d_loopG hS (tabnOK [] 3) wf [] [1,2,3,7,8,9] (fun s1 (g3:(Nat→Hdr))=>f3 76 [(1,.sl 1 (mI M left) false),(2,sI stage),(3,.lv 0 0),(7,.os 1 0 (S.lenN (mI M s1.2.1))),(8,.os 2 0 (S.lenN (M.h g3 (List Bool) (eO M 1 eB) s1.2.2))),(9,sI s1.1)] [vR (eGR30World M w),aR 1 (mI M s1.2.1),some (.nar 1 (M.h g3 (List Bool) (eO M 1 eB) s1.2.2))]) ((fun _=>hd0)) hf (by (conv=>lhs; cbv) <;> (try simp only [q1]) <;> (try simp only [q2,eO,q]) <;> (try rfl)) ?_
 intro Ik2 k2 s1 g3 hk2 hf e he; subst he
 unfold r30_next_l3 at hf
 cbv
 refine d_br hS hf (by (try simp only [q1]); (try simp only [q2,eO,q]); try first | rfl | simp [stdCmp,eI,eB,eL,eS,q]) ?_ ?_
 ·intro hf; cbv
  refine d_I ?_
  intro x4 hf; cbv
  refine d_room hS hf (by (try simp only [q1]); (try simp only [q2,eO,q]); try first | rfl | simp [stdCmp,eI,eB,eL,eS,q]) ?_
  intro hf; cbv
  refine d_mks hS hf (by (try simp only [q1]); (try simp only [q2,eO,q]); try first | rfl | simp [stdCmp,eI,eB,eL,eS,q]) (by (try simp only [q1]); (try simp only [q2,eO,q]); try first | rfl | simp [stdCmp,eI,eB,eL,eS,q]) ?_
  intro j5 hf; cbv
  refine d_wk hS (e:=eB) hf (by (try simp only [q1]) <;> (try simp only [q2,eO,q]); repeat' constructor) ?_
  intro x6 hf; cbv
  refine l_nu hS ?_; intro h7; cbv
  refine d_room hS hf (by (try simp only [q1]); (try simp only [q2,eO,q]); try first | rfl | simp [stdCmp,eI,eB,eL,eS,q]) ?_
  intro hf; cbv
  exact ⟨_,((M.up g3 s1.2.2.length h7)),hf,by rw [hk2] <;> (conv=>lhs; cbv) <;> (try simp only [q1]) <;> (try simp only [q2,eO,q]) <;> (try rfl) <;> (try simp only [eL,q]) <;> (try rfl)⟩
 intro hf; cbv
 refine d_loop hS (tabnOK [] 3) wf [] [1,2,3,7,8,10] (fun s8=>f3 76 [(1,.sl 1 (mI M left) false),(2,sI stage),(3,.lv 0 0),(7,.os 1 0 (S.lenN (mI M s1.2.1))),(8,.os 2 0 (S.lenN (M.h g3 (List Bool) (eO M 1 eB) s8.2))),(10,sI s8.1)] [vR (eGR30World M w),aR 1 (mI M s1.2.1),some (.nar 1 (M.h g3 (List Bool) (eO M 1 eB) s8.2))]) hf (by (conv=>lhs; cbv) <;> (try simp only [q1]) <;> (try simp only [q2,eO,q]) <;> (try rfl)) ?_
 intro Ik9 k9 s8 hk9 hf e he; subst he
 unfold r30_next_l2 at hf
 cbv
 refine d_br hS hf (by (try simp only [q1]); (try simp only [q2,eO,q]); try first | rfl | simp [stdCmp,eI,eB,eL,eS,q]) ?_ ?_
 ·intro hf; cbv
  refine d_loop hS (tabnOK [] 3) wf [] [1,2,3,7,8,10,11] (fun s11=>f3 76 [(1,.sl 1 (mI M left) false),(2,sI stage),(3,.lv 0 0),(7,.os 1 0 (S.lenN (mI M s1.2.1))),(8,.os 2 0 (S.lenN (M.h g3 (List Bool) (eO M 1 eB) s11.2))),(10,sI s8.1),(11,sI s11.1)] [vR (eGR30World M w),aR 1 (mI M s1.2.1),some (.nar 1 (M.h g3 (List Bool) (eO M 1 eB) s11.2))]) hf (by (conv=>lhs; cbv) <;> (try simp only [q1]) <;> (try simp only [q2,eO,q]) <;> (try rfl)) ?_
  intro Ik12 k12 s11 hk12 hf e he; subst he
  unfold r30_next_l1 at hf
  cbv
  refine d_br hS hf (by (try simp only [q1]); (try simp only [q2,eO,q]); try first | rfl | simp [stdCmp,eI,eB,eL,eS,q]) ?_ ?_
  ·intro hf; cbv
   refine d_o hS ?_; cbv
   refine d_I ?_
   intro x14 hf; cbv
   refine d_ix hS hf (by (try simp only [q1]); (try simp only [q2,eO,q]); try first | rfl | simp [stdCmp,eI,eB,eL,eS,q]) rfl ?_
   intro j15 _ hf; cbv
   refine d_rowH hS hM hf rfl (by (try simp only [q1]); (try simp only [q2,eO,q]); try first | rfl | simp [stdCmp,eI,eB,eL,eS,q]) ?_
   intro x16 hf; cbv
   refine d_I ?_
   intro x17 hf; cbv
   refine d_I ?_
   intro x18 hf; cbv
   refine d_I ?_
   intro x19 hf; cbv
   refine d_c hS hf (fun _=>c62 hM) ?_
   intro y20 hf; cbv
   refine d_ix hS hf (by (try simp only [q1]); (try simp only [q2,eO,q]); try first | rfl | simp [stdCmp,eI,eB,eL,eS,q]) rfl ?_
   intro j21 _ hf; cbv
   refine l_last hS (by kernel_rfl) ?_; cbv
   refine d_rowH hS hM hf rfl (by (try simp only [q1]); (try simp only [q2,eO,q]); try first | rfl | simp [stdCmp,eI,eB,eL,eS,q]) ?_
   intro x22 hf; cbv
   refine l_same hS rfl ?_; cbv
   refine d_row hS hM hf rfl rfl ?_
   intro x23 hf; cbv
   exact ⟨_,hf,by rw [hk12] <;> (conv=>lhs; cbv) <;> (try simp only [q1]) <;> (try simp only [q2,eO,q]) <;> (try rfl) <;> (try simp only [eL,q]) <;> (try rfl)⟩
  intro hf; cbv
  exact ⟨_,hf,by rw [hk9] <;> (conv=>lhs; cbv) <;> (try simp only [q1]) <;> (try simp only [q2,eO,q]) <;> (try rfl) <;> (try simp only [eL,q]) <;> (try rfl)⟩
 intro hf; cbv
 refine d_callL hS hf (fun _=>c63 hM) (le_eq (by (try simp only [q1]); (try simp only [q2,eO,q]); try first | rfl | simp [stdCmp,eI,eB,eL,eS,q])) (fun _=>rfl) ?_
 exact d_Ry
end
end Go.Proofs.YthfepelpmalckaaGreat
