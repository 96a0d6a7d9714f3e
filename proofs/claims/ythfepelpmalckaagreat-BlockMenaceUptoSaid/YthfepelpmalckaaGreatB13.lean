import Derived.Test.YthfepelpmalckaaGreatB08
import Derived.Test.YthfepelpmalckaaGreatB12
set_option linter.all false
namespace Go.Proofs.YthfepelpmalckaaGreat
open Go Go.Pv
set_option maxRecDepth 100000
set_option maxHeartbeats 2000000
section
variable {M:EncM} (hM:M=mapE)
include hM
theorem c107 {stamps:List Int} {i:Int} {r:Int} (hf:r07_stamp stamps i=some r):Pv.Fn Tryz.prog glF 107 [.sl 1 (mI M stamps) false,sI i] (fun u=>u=sI r):=by
 refine fn_D tabOK Tryz.func107 Tryz.call107 ?_
 intro S R hS hR
 have q:=sf hM hS
 unfold r07_stamp at hf
 cbv
 refine d_B ?_ ?_
 ·intro hf; cbv
  refine d_I ?_
  exact d_Ry
 exact d_R
theorem c165 {tapped:Bool} {w:Int} {r:Bool} (hf:r29_tap tapped w=some r):Pv.Fn Tryz.prog glF 165 [.sb tapped,sI w] (fun u=>u=.sb r):=by
 refine fn_D tabOK Tryz.func165 Tryz.call165 ?_
 intro S R hS hR
 have q:=sf hM hS
 unfold r29_tap at hf
 cbv
 refine d_B ?_ ?_
 ·exact d_R
 intro hf; cbv
 refine d_B ?_ ?_ <;> exact d_R
theorem c226 {mask:Int} {r:Bool} (hf:r15_types mask=some r):Pv.Fn Tryz.prog glF 226 [sI mask] (fun u=>u=.sb r):=by
 refine fn_D tabOK Tryz.func226 Tryz.call226 ?_
 intro S R hS hR
 have q:=sf hM hS
 unfold r15_types at hf
 cbv
 refine d_B ?_ ?_
 ·intro hf; cbv
  refine d_B ?_ ?_ <;> exact d_R
 exact d_R
theorem c104 {n:Int} {r:Int} (hf:r01_Clamp n=some r):Pv.Fn Tryz.prog glF 104 [sI n] (fun u=>u=sI r):=by
 refine fn_D tabOK Tryz.func104 Tryz.call104 ?_
 intro S R hS hR
 have q:=sf hM hS
 unfold r01_Clamp at hf
 cbv
 refine d_B ?_ ?_
 ·exact d_R
 intro hf; cbv
 refine d_B ?_ ?_ <;> exact d_R
theorem c293 {c:Int} {r:Bool} (hf:r02_low c=some r):Pv.Fn Tryz.prog glF 293 [.si .u8 c] (fun u=>u=.sb r):=by
 refine fn_D tabOK Tryz.func293 Tryz.call293 ?_
 intro S R hS hR
 have q:=sf hM hS
 unfold r02_low at hf
 cbv
 refine d_B ?_ ?_ <;> exact d_R
theorem c17 {x:GOption} {c1:GOption} {r:Bool} (hf:block_Check_1 x c1=some r):Pv.Fn Tryz.prog glF 17 [.agg (eGOption M x),.pp (eGOption M c1)] (fun u=>u=.sb r):=by
 refine fn_D tabOK Tryz.func17 Tryz.call17 ?_
 intro S R hS hR
 have q:=sf hM hS
 unfold block_Check_1 at hf
 cbv
 exact d_Rz
theorem c19 {mask:Int} {key:Int} {r:Bool} (hf:keyword_Has mask key=some r):Pv.Fn Tryz.prog glF 19 [sI mask,sI key] (fun u=>u=.sb r):=by
 refine fn_D tabOK Tryz.func19 Tryz.call19 ?_
 intro S R hS hR
 have q:=sf hM hS
 unfold keyword_Has at hf
 cbv
 exact d_Rz
theorem c168 {mask:Int} {key:Int} {r:Bool} (hf:r11_Has mask key=some r):Pv.Fn Tryz.prog glF 168 [sI mask,sI key] (fun u=>u=.sb r):=by
 refine fn_D tabOK Tryz.func168 Tryz.call168 ?_
 intro S R hS hR
 have q:=sf hM hS
 unfold r11_Has at hf
 cbv
 exact d_Rz
theorem c166 {a:Int} {b:Int} {r:Bool} (hf:r29_sharing a b=some r):Pv.Fn Tryz.prog glF 166 [sI a,sI b] (fun u=>u=.sb r):=by
 refine fn_D tabOK Tryz.func166 Tryz.call166 ?_
 intro S R hS hR
 have q:=sf hM hS
 unfold r29_sharing at hf
 cbv
 exact d_Rz
theorem c263  {r:List ByteArray} (hf:r10_superWords =some r):Pv.Fn Tryz.prog glF 263 [] (fun u=>u=.sl 1 (M.m ByteArray eS r) false):=by
 refine fn_D tabOK Tryz.func263 Tryz.call263 ?_
 intro S R hS hR
 have q:=sf hM hS
 unfold r10_superWords at hf
 cbv
 exact d_Rz
theorem c264  {r:List ByteArray} (hf:r10_typeWords =some r):Pv.Fn Tryz.prog glF 264 [] (fun u=>u=.sl 1 (M.m ByteArray eS r) false):=by
 refine fn_D tabOK Tryz.func264 Tryz.call264 ?_
 intro S R hS hR
 have q:=sf hM hS
 unfold r10_typeWords at hf
 cbv
 exact d_Rz
theorem c4  {r:Bool} (hf:law46_alive=some r):Pv.Fn Tryz.prog glF 4 [] (fun u=>u=.sb r):=by
 cases hf
 exact alive46
end
end Go.Proofs.YthfepelpmalckaaGreat
namespace Go.Proofs.YthfepelpmalckaaGreat
open Go Go.Pv
set_option maxRecDepth 100000
set_option maxHeartbeats 2000000
section
variable {M:EncM} (hM:M=mapE)
include hM
theorem c5 {keys:Int} {n:Int} {r:(List GCard) × GState} (hf:law46_fight keys n=some r):Pv.Fn Tryz.prog glF 5 [sI keys,sI n] (fun u=>u=.tup [.sl 17 (M.m GCard (eGCard M) r.1) false,.agg (eGState M r.2)]):=by
 refine fn_D (tabcOK [11,25]) Tryz.func5 Tryz.call5 ?_
 intro S R hS hR
 have q:=sf hM hS
 unfold law46_fight at hf
 cbv
 refine d_wkx hS [.str (bs [97]),.sb false,sI 0,sI 0,sI 0,sI 0,sI 0,sI 0,sI 0,sI 0,sI 0,sI 1,.sl 1 (M.m ByteArray eS ([])) false,sI 1,sI 1,sI keys,.sl 72 (M.m GAbility (eGAbility M) ([])) false,.str (bs [98]),.sb false,sI 0,sI 0,sI 0,sI 0,sI 0,sI 0,sI 0,sI 0,sI 0,sI 1,.sl 1 (M.m ByteArray eS ([])) false,sI 1,sI 1,sI 0,.sl 72 (M.m GAbility (eGAbility M) ([])) false] d_st ?_; cbv
 refine d_callo hS hf (fun _=>o11 hM) (le_eq rfl) ?_
 intro y1 hf; cbv
 refine d_lp hS (tabcOK [11,25]) wf [] [1,5,6,7,8] (fun s2=>f3 54 [(1,sI n),(5,.lv 0 0),(6,.os 1 0 (S.lenN (M.m GCard (eGCard M) s2.2.1))),(7,.lv 2 0),(8,sI s2.1)] [vR [.sl 0 [] true,.sl 0 [] true,.sl 0 [] true,.sl 0 [] true,.sl 0 [] true,.sl 0 [] true,.sl 0 [] true,sI 0,sI 0,sI 0,.sb false,sI 0,sI 0,sI 0,sI 0,.si .u64 0,.sl 0 [] true,sI 0,sI 0],aR 17 (M.m GCard (eGCard M) s2.2.1),vR [.os 3 0 (S.lenN (M.m GPlayer (eGPlayer M) y1.players)),.os 4 0 (S.lenN (M.m GObject (eGObject M) s2.2.2.1)),.os 5 0 (S.lenN (mI M s2.2.2.2)),.os 6 0 (S.lenN (mI M y1.exile)),.os 7 0 (S.lenN (M.m GItem (eGItem M) y1.stack)),.os 8 0 (S.lenN (M.m GWaiting (eGWaiting M) y1.waiting)),.os 9 0 (S.lenN (M.m GCont (eGCont M) y1.conts)),sI y1.turn,sI y1.active,sI y1.step,.sb y1.begun,sI y1.priority,sI y1.passes,sI y1.nextId,sI y1.nextStamp,.si .u64 y1.seed,.os 10 0 (S.lenN (mI M y1.extra)),sI y1.over,sI y1.winner],aR 14 (M.m GPlayer (eGPlayer M) y1.players),aR 19 (M.m GObject (eGObject M) s2.2.2.1),aR 1 (mI M s2.2.2.2),aR 1 (mI M y1.exile),aR 94 (M.m GItem (eGItem M) y1.stack),aR 89 (M.m GWaiting (eGWaiting M) y1.waiting),aR 6 (M.m GCont (eGCont M) y1.conts),aR 1 (mI M y1.extra)]) hf ?_ (by (conv=>lhs; cbv) <;> simp only [q] <;> simp only [q,eGCard,zGCost,zArr5I,eGLine] <;> rfl)
 intro Ik3 k3 s2 hk3 hf e he; subst he
 unfold law46_fight_l1 at hf
 cbv
 refine d_B ?_ ?_
 ·intro hf; cbv
  refine d_cut hS [] [1,5,6,7,8] (fun s5=>f3 54 [(1,sI n),(5,.lv 0 0),(6,.os 1 0 (S.lenN (M.m GCard (eGCard M) s5.1))),(7,.lv 2 0),(8,sI s2.1)] [vR [.sl 0 [] true,.sl 0 [] true,.sl 0 [] true,.sl 0 [] true,.sl 0 [] true,.sl 0 [] true,.sl 0 [] true,sI 0,sI 0,sI 0,.sb false,sI 0,sI 0,sI 0,sI 0,.si .u64 0,.sl 0 [] true,sI 0,sI 0],aR 17 (M.m GCard (eGCard M) s5.1),vR [.os 3 0 (S.lenN (M.m GPlayer (eGPlayer M) y1.players)),.os 4 0 (S.lenN (M.m GObject (eGObject M) s5.2)),.os 5 0 (S.lenN (S.app (S.sub (mI M s2.2.2.2) 0 (S.lenN (mI M s2.2.2.2))) (S.sub ([[sI (S.bin .add .i64 s2.1 1)]]) 0 1))),.os 6 0 (S.lenN (mI M y1.exile)),.os 7 0 (S.lenN (M.m GItem (eGItem M) y1.stack)),.os 8 0 (S.lenN (M.m GWaiting (eGWaiting M) y1.waiting)),.os 9 0 (S.lenN (M.m GCont (eGCont M) y1.conts)),sI y1.turn,sI y1.active,sI y1.step,.sb y1.begun,sI y1.priority,sI y1.passes,sI y1.nextId,sI y1.nextStamp,.si .u64 y1.seed,.os 10 0 (S.lenN (mI M y1.extra)),sI y1.over,sI y1.winner],aR 14 (M.m GPlayer (eGPlayer M) y1.players),aR 19 (M.m GObject (eGObject M) s5.2),aR 1 (S.app (S.sub (mI M s2.2.2.2) 0 (S.lenN (mI M s2.2.2.2))) (S.sub ([[sI (S.bin .add .i64 s2.1 1)]]) 0 1)),aR 1 (mI M y1.exile),aR 94 (M.m GItem (eGItem M) y1.stack),aR 89 (M.m GWaiting (eGWaiting M) y1.waiting),aR 6 (M.m GCont (eGCont M) y1.conts),aR 1 (mI M y1.extra)]) hf ?_ ?_
  ·intro Ik6 k6 hk6 hf; cbv
   refine d_cut hS [] [1,5,6,7,8,9] (fun s8=>f3 54 [(1,sI n),(5,.lv 0 0),(6,.os 1 0 (S.lenN (M.m GCard (eGCard M) s8.2))),(7,.lv 2 0),(8,sI s2.1),(9,.lv 11 0)] [vR [.sl 0 [] true,.sl 0 [] true,.sl 0 [] true,.sl 0 [] true,.sl 0 [] true,.sl 0 [] true,.sl 0 [] true,sI 0,sI 0,sI 0,.sb false,sI 0,sI 0,sI 0,sI 0,.si .u64 0,.sl 0 [] true,sI 0,sI 0],aR 17 (M.m GCard (eGCard M) s8.2),vR [.os 3 0 (S.lenN (M.m GPlayer (eGPlayer M) y1.players)),.os 4 0 (S.lenN (M.m GObject (eGObject M) s2.2.2.1)),.os 5 0 (S.lenN (mI M s2.2.2.2)),.os 6 0 (S.lenN (mI M y1.exile)),.os 7 0 (S.lenN (M.m GItem (eGItem M) y1.stack)),.os 8 0 (S.lenN (M.m GWaiting (eGWaiting M) y1.waiting)),.os 9 0 (S.lenN (M.m GCont (eGCont M) y1.conts)),sI y1.turn,sI y1.active,sI y1.step,.sb y1.begun,sI y1.priority,sI y1.passes,sI y1.nextId,sI y1.nextStamp,.si .u64 y1.seed,.os 10 0 (S.lenN (mI M y1.extra)),sI y1.over,sI y1.winner],aR 14 (M.m GPlayer (eGPlayer M) y1.players),aR 19 (M.m GObject (eGObject M) s2.2.2.1),aR 1 (mI M s2.2.2.2),aR 1 (mI M y1.exile),aR 94 (M.m GItem (eGItem M) y1.stack),aR 89 (M.m GWaiting (eGWaiting M) y1.waiting),aR 6 (M.m GCont (eGCont M) y1.conts),aR 1 (mI M y1.extra),vR (eGObject M s8.1)]) hf ?_ ?_
   ·intro Ik9 k9 hk9 hf; cbv
    refine d_B ?_ ?_ <;> exact d_X
   intro s8 hf; cbv
   refine d_room hS hf d_e ?_
   intro hf; cbv
   refine d_room hS hf d_e ?_
   exact d_X
  intro s5 hf; cbv
  exact d_Xz
 intro hf; cbv
 refine d_o hS ?_; cbv
 exact d_Rz
theorem c161 {l:List Int} {needs:List (List Bool)} {i:Int} {r:List Int} (hf:r07_reached l needs i=some r):Pv.Fn Tryz.prog glF 161 [.sl 1 (mI M l) false,.sl 1 (M.m (List Bool) (eL M 1 eB) needs) false,sI i] (fun u=>u=.sl 1 (mI M r) false):=by
 refine fn_D (tabcOK [9,25,26]) Tryz.func161 Tryz.call161 ?_
 intro S R hS hR
 have q:=sf hM hS
 unfold r07_reached at hf
 cbv
 refine d_lp hS (tabcOK [9,25,26]) wf [.tO 7 1] [0,1,2,7,8] (fun s1=>f3 70 [(0,.sl 1 (mI M l) false),(1,.sl 1 (M.m (List Bool) (eL M 1 eB) needs) false),(2,sI i),(7,.os 0 0 (S.lenN (mI M s1.2))),(8,sI s1.1)] [aR 1 (mI M s1.2)]) hf ?_
 intro Ik2 k2 s1 hk2 hf e he; subst he
 unfold r07_reached_l3 at hf
 cbv
 refine d_B ?_ ?_
 ·intro hf; cbv
  refine d_cut hS [.tO 7 1] [0,1,2,7,8] (fun s4=>f3 70 [(0,.sl 1 (mI M l) false),(1,.sl 1 (M.m (List Bool) (eL M 1 eB) needs) false),(2,sI i),(7,.os 0 0 (S.lenN (mI M s4))),(8,sI s1.1)] [aR 1 (mI M s4)]) hf ?_ ?_
  ·intro Ik5 k5 hk5 hf; cbv
   refine d_I ?_
   intro x7 hf; cbv
   refine d_p hS hf (fun _=>c159 hM) ?_
   intro y8 hf; cbv
   refine d_br hS hf rfl ?_ ?_
   ·intro hf; cbv
    refine d_I ?_
    intro x9 hf; cbv
    refine d_room hS hf d_e ?_
    exact d_X
   exact d_X
  intro s4 hf; cbv
  exact d_Xz
 intro hf; cbv
 refine d_lp hS (tabcOK [9,25,26]) wf [] [0,1,7,9] (fun s10=>f3 70 [(0,.sl 1 (mI M l) false),(1,.sl 1 (M.m (List Bool) (eL M 1 eB) needs) false),(7,.os 0 0 (S.lenN (mI M s10.2))),(9,sI s10.1)] [aR 1 (mI M s10.2)]) hf ?_
 intro Ik11 k11 s10 hk11 hf e he; subst he
 unfold r07_reached_l2 at hf
 cbv
 refine d_B ?_ ?_
 ·intro hf; cbv
  refine d_lp hS (tabcOK [9,25,26]) wf [] [0,1,7,9,10] (fun s13=>f3 70 [(0,.sl 1 (mI M l) false),(1,.sl 1 (M.m (List Bool) (eL M 1 eB) needs) false),(7,.os 0 0 (S.lenN (mI M s13.2))),(9,sI s10.1),(10,sI s13.1)] [aR 1 (mI M s13.2)]) hf ?_
  intro Ik14 k14 s13 hk14 hf e he; subst he
  unfold r07_reached_l1 at hf
  cbv
  refine d_B ?_ ?_
  ·intro hf; cbv
   refine d_cut hS [] [0,1,7,9,10] (fun s16=>f3 70 [(0,.sl 1 (mI M l) false),(1,.sl 1 (M.m (List Bool) (eL M 1 eB) needs) false),(7,.os 0 0 (S.lenN (mI M s16))),(9,sI s10.1),(10,sI s13.1)] [aR 1 (mI M s16)]) hf ?_ ?_
   ·intro Ik17 k17 hk17 hf; cbv
    refine d_cut hS [] [0,1,7,9,10,61] (fun s19=>f3 70 [(0,.sl 1 (mI M l) false),(1,.sl 1 (M.m (List Bool) (eL M 1 eB) needs) false),(7,.os 0 0 (S.lenN (mI M s13.2))),(9,sI s10.1),(10,sI s13.1),(61,.sb s19)] [aR 1 (mI M s13.2)]) hf ?_ ?_
    ·intro Ik20 k20 hk20 hf; cbv
     refine d_o hS ?_; cbv
     refine d_ix hS hf d_e rfl ?_
     intro j22 _ hf; cbv
     refine d_row hS hM hf rfl d_e ?_
     intro x23 hf; cbv
     refine d_I ?_
     intro x24 hf; cbv
     refine d_c hS hf (fun _=>c159 hM) ?_
     intro y25 hf; cbv
     refine d_br hS hf rfl ?_ ?_
     ·intro hf; cbv
      refine d_I ?_
      intro x26 hf; cbv
      refine d_callf hS hf (fun _=>c160 hM) d_le (fun _=>rfl) ?_
      exact d_Xy
     exact d_X
    intro s19 hf; cbv
    refine d_br hS hf rfl ?_ ?_
    ·intro hf; cbv
     refine d_I ?_
     intro x28 hf; cbv
     refine d_room hS hf d_e ?_
     exact d_X
    exact d_X
   intro s16 hf; cbv
   exact d_Xz
  exact d_X
 exact d_R
theorem c262 {s:ByteArray} {r:Bool} (hf:r02_Is s=some r):Pv.Fn Tryz.prog glF 262 [.str s] (fun u=>u=.sb r):=by
 refine fn_D (tabcOK [2,12,16]) Tryz.func262 Tryz.call262 ?_
 intro S R hS hR
 have q:=sf hM hS
 unfold r02_Is at hf
 cbv
 refine d_cut hS [] [0,25] (fun s1=>f3 70 [(0,.str s),(25,.sb s1)] []) hf ?_ ?_
 ·intro Ik2 k2 hk2 hf; cbv
  refine d_B ?_ ?_
  ·exact d_X
  intro hf; cbv
  refine d_B ?_ ?_
  ·exact d_X
  intro hf; cbv
  refine d_six hS hf rfl rfl ?_
  intro x4 hf; cbv
  refine d_p hS hf (fun _=>c293 hM) ?_
  intro y5 hf; cbv
  refine d_B ?_ ?_
  ·exact d_X
  intro hf; cbv
  refine d_six hS hf rfl d_e ?_
  exact d_Xy
 intro s1 hf; cbv
 refine d_br hS hf rfl ?_ ?_
 ·exact d_R
 intro hf; cbv
 refine d_lp hS (tabcOK [2,12,16]) wf [] [0,3] (fun s7=>f3 70 [(0,.str s),(3,sI s7)] []) hf ?_
 intro Ik8 k8 s7 hk8 hf e he; subst he
 unfold r02_Is_l1 at hf
 cbv
 refine d_B ?_ ?_
 ·intro hf; cbv
  refine d_cut hS [] [0,3,54] (fun s10=>f3 70 [(0,.str s),(3,sI s7),(54,.sb s10)] []) hf ?_ ?_
  ·intro Ik11 k11 hk11 hf; cbv
   refine d_six hS hf rfl rfl ?_
   intro x13 hf; cbv
   refine d_p hS hf (fun _=>c293 hM) ?_
   intro y14 hf; cbv
   refine d_B ?_ ?_
   ·intro hf; cbv
    refine d_six hS hf rfl rfl ?_
    intro x15 hf; cbv
    refine d_B ?_ ?_
    ·intro hf; cbv
     refine d_six hS hf rfl rfl ?_
     exact d_Xy
    intro hf; cbv
    refine d_six hS hf rfl rfl ?_
    intro x17 hf; cbv
    refine d_B ?_ ?_
    ·intro hf; cbv
     refine d_six hS hf rfl rfl ?_
     exact d_Xy
    exact d_X
   exact d_X
  intro s10 hf; cbv
  refine d_br hS hf rfl ?_ ?_
  ·exact d_R
  intro hf; cbv
  refine d_cut hS [] [0,3,69] (fun s19=>f3 70 [(0,.str s),(3,sI s7),(69,.sb s19)] []) hf ?_ ?_
  ·intro Ik20 k20 hk20 hf; cbv
   refine d_B ?_ ?_
   ·intro hf; cbv
    refine d_six hS hf rfl rfl ?_
    intro x22 hf; cbv
    refine d_B ?_ ?_
    ·intro hf; cbv
     refine d_six hS hf rfl d_e ?_
     exact d_Xy
    exact d_X
   exact d_X
  intro s19 hf; cbv
  refine d_br hS hf rfl ?_ ?_
  ·exact d_R
  exact d_X
 exact d_R
theorem c101 {c:GCost} {r:Int} (hf:r08_Colors c=some r):Pv.Fn Tryz.prog glF 101 [.agg (eGCost M c)] (fun u=>u=sI r):=by
 refine fn_D (tabcOK [12,15,16,21]) Tryz.func101 Tryz.call101 ?_
 intro S R hS hR
 have q:=sf hM hS
 unfold r08_Colors at hf
 cbv
 refine d_p hS hf (fun _=>c157 hM) ?_
 intro y1 hf; cbv
 refine d_B ?_ ?_
 ·exact d_R
 intro hf; cbv
 refine d_lp hS (tabcOK [12,15,16,21]) wf [] [1,3,4,5] (fun s2=>f3 24 [(1,.lv 0 0),(3,sI s2.1),(4,sI s2.2.1),(5,sI s2.2.2)] [vR (eGCost M c)]) hf ?_
 intro Ik3 k3 s2 hk3 hf e he; subst he
 unfold r08_Colors_l1 at hf
 cbv
 refine l_seq hS ?_; cbv
 refine d_B ?_ ?_
 ·intro hf; cbv
  refine d_cut hS [] [1,3,4,5] (fun s5=>f3 24 [(1,.lv 0 0),(3,sI s5),(4,sI (S.bin .mul .i64 2 s2.2.1)),(5,sI s2.2.2)] [vR (eGCost M c)]) hf ?_ ?_
  ·intro Ik6 k6 hk6 hf; cbv
   refine d_cut hS [] [1,3,4,5] (fun s8=>f3 24 [(1,.lv 0 0),(3,sI s8),(4,sI s2.2.1),(5,sI s2.2.2)] [vR (eGCost M c)]) hf ?_ ?_
   ·intro Ik9 k9 hk9 hf; cbv
    refine d_cut hS [] [1,3,4,5,17] (fun s11=>f3 24 [(1,.lv 0 0),(3,sI s2.1),(4,sI s2.2.1),(5,sI s2.2.2),(17,.sb s11)] [vR (eGCost M c)]) hf ?_ ?_
    ·intro Ik12 k12 hk12 hf; cbv
     obtain ⟨j14,hj14,ej14,hf⟩:=d_cases hf
     refine d_ixa hS rfl ⟨j14,hj14,ej14,?_⟩
     rcases lt5 hj14 with rfl | rfl | rfl | rfl | rfl
     ·cbv
      exact d_Xz
     ·cbv
      exact d_Xz
     ·cbv
      exact d_Xz
     ·cbv
      exact d_Xz
     cbv
     exact d_Xz
    intro s11 hf; cbv
    refine d_br hS hf rfl ?_ ?_ <;> exact d_X
   intro s8 hf; cbv
   exact d_Xz
  intro s5 hf; cbv
  exact d_Xz
 exact d_R
theorem c158 {left:List Int} {r:List Int} (hf:r07_elements left=some r):Pv.Fn Tryz.prog glF 158 [.sl 1 (mI M left) false] (fun u=>u=.sl 1 (mI M r) false):=by
 refine fn_D (tabcOK [9,10]) Tryz.func158 Tryz.call158 ?_
 intro S R hS hR
 have q:=sf hM hS
 unfold r07_elements at hf
 cbv
 refine d_lp hS (tabcOK [9,10]) wf [.tO 3 1] [0,3,4] (fun s1=>f3 33 [(0,.sl 1 (mI M left) false),(3,.os 0 0 (S.lenN (mI M s1.2))),(4,sI s1.1)] [aR 1 (mI M s1.2)]) hf ?_
 intro Ik2 k2 s1 hk2 hf e he; subst he
 unfold r07_elements_l1 at hf
 cbv
 refine d_B ?_ ?_
 ·intro hf; cbv
  refine d_cut hS [.tO 3 1] [0,3,4] (fun s4=>f3 33 [(0,.sl 1 (mI M left) false),(3,.os 0 0 (S.lenN (mI M s4))),(4,sI s1.1)] [aR 1 (mI M s4)]) hf ?_ ?_
  ·intro Ik5 k5 hk5 hf; cbv
   refine d_cut hS [] [0,3,4,24] (fun s7=>f3 33 [(0,.sl 1 (mI M left) false),(3,.os 0 0 (S.lenN (mI M s1.2))),(4,sI s1.1),(24,.sb s7)] [aR 1 (mI M s1.2)]) hf ?_ ?_
   ·intro Ik8 k8 hk8 hf; cbv
    refine d_I ?_
    intro x10 hf; cbv
    refine d_B ?_ ?_
    ·intro hf; cbv
     refine d_I ?_
     intro x11 hf; cbv
     refine d_callL hS hf (fun _=>c160 hM) d_le (fun _=>rfl) ?_
     exact d_Xy
    exact d_X
   intro s7 hf; cbv
   refine d_br hS hf rfl ?_ ?_
   ·intro hf; cbv
    refine d_I ?_
    intro x13 hf; cbv
    refine d_room hS hf d_e ?_
    exact d_X
   exact d_X
  intro s4 hf; cbv
  exact d_Xz
 exact d_R
theorem c70 {f:GR30Force} {stage:Int} {r:Bool} (hf:r30_drops f stage=some r):Pv.Fn Tryz.prog glF 70 [.agg (eGR30Force M f),sI stage] (fun u=>u=.sb r):=by
 refine fn_D (tabcOK [8]) Tryz.func70 Tryz.call70 ?_
 intro S R hS hR
 have q:=sf hM hS
 unfold r30_drops at hf
 cbv
 refine d_lp hS (tabcOK [8]) wf [] [1,2,5] (fun s1=>f3 31 [(1,sI stage),(2,.lv 0 0),(5,sI s1)] [vR (eGR30Force M f)]) hf ?_
 intro Ik2 k2 s1 hk2 hf e he; subst he
 unfold r30_drops_l1 at hf
 cbv
 refine d_B ?_ ?_
 ·intro hf; cbv
  refine d_cut hS [] [1,2,5,30] (fun s4=>f3 31 [(1,sI stage),(2,.lv 0 0),(5,sI s1),(30,.sb s4)] [vR (eGR30Force M f)]) hf ?_ ?_
  ·intro Ik5 k5 hk5 hf; cbv
   refine d_I ?_
   intro x7 hf; cbv
   refine d_B ?_ ?_
   ·intro hf; cbv
    refine d_I ?_
    intro x8 hf; cbv
    refine d_p hS hf (fun _=>c61 hM) ?_
    exact d_Xy
   exact d_X
  intro s4 hf; cbv
  refine d_br hS hf rfl ?_ ?_
  ·exact d_R
  exact d_X
 exact d_R
theorem c64 {w:GR30World} {i:Int} {r:Bool} (hf:r30_active w i=some r):Pv.Fn Tryz.prog glF 64 [.agg (eGR30World M w),sI i] (fun u=>u=.sb r):=by
 refine fn_D (tabcOK [2]) Tryz.func64 Tryz.call64 ?_
 intro S R hS hR
 have q:=sf hM hS
 unfold r30_active at hf
 cbv
 refine d_cut hS [] [1,2,18] (fun s1=>f3 38 [(1,sI i),(2,.lv 0 0),(18,.sb s1)] [vR (eGR30World M w)]) hf ?_ ?_
 ·intro Ik2 k2 hk2 hf; cbv
  refine d_I ?_
  intro x4 hf; cbv
  refine d_br hS hf rfl ?_ ?_
  ·exact d_X
  intro hf; cbv
  refine d_I ?_
  exact d_Xy
 intro s1 hf; cbv
 refine d_br hS hf rfl ?_ ?_
 ·exact d_R
 intro hf; cbv
 refine d_o hS ?_; cbv
 refine d_I ?_
 intro x6 hf; cbv
 refine d_c hS hf (fun _=>c108 hM) ?_
 intro y7 hf; cbv
 refine d_B ?_ ?_
 ·exact d_R
 intro hf; cbv
 refine d_I ?_
 exact d_Ry
theorem c67 {w:GR30World} {i:Int} {r:Int} (hf:r30_you w i=some r):Pv.Fn Tryz.prog glF 67 [.agg (eGR30World M w),sI i] (fun u=>u=sI r):=by
 refine fn_D (tabcOK [4]) Tryz.func67 Tryz.call67 ?_
 intro S R hS hR
 have q:=sf hM hS
 unfold r30_you at hf
 cbv
 refine d_o hS ?_; cbv
 refine d_I ?_
 intro x1 hf; cbv
 refine d_c hS hf (fun _=>c108 hM) ?_
 intro y2 hf; cbv
 refine d_cut hS [] [1,2,5,24] (fun s3=>f3 37 [(1,sI i),(2,.lv 0 0),(5,sI y2),(24,.sb s3)] [vR (eGR30World M w)]) hf ?_ ?_
 ·intro Ik4 k4 hk4 hf; cbv
  refine d_I ?_
  intro x6 hf; cbv
  refine d_br hS hf rfl ?_ ?_ <;> exact d_X
 intro s3 hf; cbv
 refine d_br hS hf rfl ?_ ?_
 ·intro hf; cbv
  refine d_I ?_
  exact d_Ry
 intro hf; cbv
 refine d_I ?_
 exact d_Ry
theorem c35_0 {s:List GOption} {w1:GOption} {r:Int} (hf:slices_IndexFunc_option s (fun a0=>block_Check_1 a0 w1)=some r):Pv.Fn Tryz.prog glF 35 [.sl 3 (M.m GOption (eGOption M) s) false,.fn 17 [.pp (eGOption M w1)]] (fun u=>u=sI r):=by
 refine fn_D tabOK Tryz.func35 Tryz.call35 ?_
 intro S R hS hR
 have q:=sf hM hS
 unfold slices_IndexFunc_option at hf
 cbv
 refine d_lp hS tabOK wf [] [0,1,7,8] (fun s1=>f3 19 [(0,.sl 3 (M.m GOption (eGOption M) s) false),(1,.fn 17 [.pp (eGOption M w1)]),(7,sI (S.len (M.m GOption (eGOption M) s))),(8,sI s1)] []) hf ?_
 intro Ik2 k2 s1 hk2 hf e he; subst he
 unfold slices_IndexFunc_option_l1 at hf
 cbv
 refine d_B ?_ ?_
 ·intro hf; cbv
  refine d_I ?_
  intro x4 hf; cbv
  refine d_p hS hf (fun _=>c17 hM) ?_
  intro y5 hf; cbv
  refine d_br hS hf rfl ?_ ?_
  ·exact d_R
  exact d_X
 exact d_R
theorem c30 {f:GR30Force} {stage:Int} {r:Bool} (hf:r30_belongs f stage=some r):Pv.Fn Tryz.prog glF 30 [.agg (eGR30Force M f),sI stage] (fun u=>u=.sb r):=by
 refine fn_D tabOK Tryz.func30 Tryz.call30 ?_
 intro S R hS hR
 have q:=sf hM hS
 unfold r30_belongs at hf
 cbv
 refine d_lp hS tabOK wf [] [1,2,5] (fun s1=>f3 22 [(1,sI stage),(2,.lv 0 0),(5,sI s1)] [vR (eGR30Force M f)]) hf ?_
 intro Ik2 k2 s1 hk2 hf e he; subst he
 unfold r30_belongs_l1 at hf
 cbv
 refine d_B ?_ ?_
 ·intro hf; cbv
  refine d_I ?_
  intro x4 hf; cbv
  refine d_p hS hf (fun _=>c61 hM) ?_
  intro y5 hf; cbv
  refine d_B ?_ ?_
  ·exact d_R
  exact d_X
 exact d_R
theorem c103 {a:Int} {b:Int} {r:Int} (hf:r01_Sub a b=some r):Pv.Fn Tryz.prog glF 103 [sI a,sI b] (fun u=>u=sI r):=by
 refine fn_D tabOK Tryz.func103 Tryz.call103 ?_
 intro S R hS hR
 have q:=sf hM hS
 unfold r01_Sub at hf
 cbv
 refine d_p hS hf (fun _=>c104 hM) ?_
 intro y1 hf; cbv
 refine d_p hS hf (fun _=>c104 hM) ?_
 intro y2 hf; cbv
 refine d_callp hS hf (fun _=>c104 hM) d_le ?_
 exact d_Ry
theorem c265 {a:Int} {b:Int} {r:Int} (hf:r01_Mul a b=some r):Pv.Fn Tryz.prog glF 265 [sI a,sI b] (fun u=>u=sI r):=by
 refine fn_D tabOK Tryz.func265 Tryz.call265 ?_
 intro S R hS hR
 have q:=sf hM hS
 unfold r01_Mul at hf
 cbv
 refine d_p hS hf (fun _=>c104 hM) ?_
 intro y1 hf; cbv
 refine d_p hS hf (fun _=>c104 hM) ?_
 intro y2 hf; cbv
 refine d_callp hS hf (fun _=>c104 hM) d_le ?_
 exact d_Ry
theorem c60 {a:Int} {b:Int} {r:Int} (hf:r01_Add a b=some r):Pv.Fn Tryz.prog glF 60 [sI a,sI b] (fun u=>u=sI r):=by
 refine fn_D tabOK Tryz.func60 Tryz.call60 ?_
 intro S R hS hR
 have q:=sf hM hS
 unfold r01_Add at hf
 cbv
 refine d_p hS hf (fun _=>c104 hM) ?_
 intro y1 hf; cbv
 refine d_p hS hf (fun _=>c104 hM) ?_
 intro y2 hf; cbv
 refine d_callp hS hf (fun _=>c104 hM) d_le ?_
 exact d_Ry
theorem c18 {s:List GOption} {v:GOption} {r:Bool} (hf:slices_Contains_option s v=some r):Pv.Fn Tryz.prog glF 18 [.sl 3 (M.m GOption (eGOption M) s) false,.agg (eGOption M v)] (fun u=>u=.sb r):=by
 refine fn_D tabOK Tryz.func18 Tryz.call18 ?_
 intro S R hS hR
 have q:=sf hM hS
 unfold slices_Contains_option at hf
 cbv
 refine d_p hS hf (fun _=>c36 hM) ?_
 exact d_Ry
theorem c34 {t:GTraits} {key:Int} {r:Bool} (hf:block_Can_1 t key=some r):Pv.Fn Tryz.prog glF 34 [.agg (eGTraits M t),sI key] (fun u=>u=.sb r):=by
 refine fn_D tabOK Tryz.func34 Tryz.call34 ?_
 intro S R hS hR
 have q:=sf hM hS
 unfold block_Can_1 at hf
 cbv
 refine d_p hS hf (fun _=>c19 hM) ?_
 exact d_Ry
theorem c68 {l:List Int} {n:Int} {r:Bool} (hf:r03_Has l n=some r):Pv.Fn Tryz.prog glF 68 [.sl 1 (mI M l) false,sI n] (fun u=>u=.sb r):=by
 refine fn_D tabOK Tryz.func68 Tryz.call68 ?_
 intro S R hS hR
 have q:=sf hM hS
 unfold r03_Has at hf
 cbv
 refine d_p hS hf (fun _=>c111 hM) ?_
 exact d_Ry
theorem c167 {l:GLine} {sub:ByteArray} {r:Bool} (hf:r10_HasSub l sub=some r):Pv.Fn Tryz.prog glF 167 [.agg (eGLine M l),.str sub] (fun u=>u=.sb r):=by
 refine fn_D tabOK Tryz.func167 Tryz.call167 ?_
 intro S R hS hR
 have q:=sf hM hS
 unfold r10_HasSub at hf
 cbv
 refine d_p hS hf (fun _=>c222 hM) ?_
 exact d_Ry
end
end Go.Proofs.YthfepelpmalckaaGreat
