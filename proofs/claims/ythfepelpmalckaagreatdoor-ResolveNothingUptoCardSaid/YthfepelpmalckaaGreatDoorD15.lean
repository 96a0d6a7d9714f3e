import Derived.Test.YthfepelpmalckaaGreatDoorD09
import Derived.Test.YthfepelpmalckaaGreatDoorD14
set_option linter.all false
namespace Go.Proofs.YthfepelpmalckaaGreatDoor
open Go Go.Pv
set_option maxRecDepth 100000
set_option maxHeartbeats 2000000
section
variable {M:EncM} (hM:M=mapE)
include hM
theorem c42 {a:GAbility} {r:GAbility} (hf:zone_copyAbility a=some r):Pv.Fn Tryz.prog glF 42 [.agg (eGAbility M a)] (fun u=>u=.agg (eGAbility M r)):=by
 refine fn_D tabOK Tryz.func42 Tryz.call42 ?_
 intro S R hS hR
 have q:=sf hM hS
 unfold zone_copyAbility at hf
 cbv
 refine d_callo hS hf (fun _=>o46 hM) (le_eq rfl) ?_
 intro y1 hf; cbv
 refine d_callo hS hf (fun _=>o118 hM) (le_eq rfl) ?_
 intro y2 hf; cbv
 refine d_callo hS hf (fun _=>o119 hM) (le_eq rfl) ?_
 intro y3 hf; cbv
 refine d_lp hS tabOK wf [] [1,2,18,19] (fun s4=>f3 36 [(1,.lv 0 0),(2,.lv 4 0),(18,sI (S.nint (M.n GEffect y3))),(19,sI s4.1)] [vR [sI a.kind,sI a.filter.zone,sI a.filter.who,sI a.filter.self,sI a.filter.types,sI a.filter.notTypes,sI a.filter.colors,sI a.filter.notColors,.str a.filter.sub,sI a.filter.keys,sI a.filter.tap,sI a.filter.power.kind,sI a.filter.power.n,sI a.filter.tough.kind,sI a.filter.tough.n,sI a.filter.value.kind,sI a.filter.value.n,.os 1 0 (S.lenN (M.m GMod (eGMod M) y1)),sI a.price.mana.generic,sI a.price.mana.x,sI a.price.mana.color.a0,sI a.price.mana.color.a1,sI a.price.mana.color.a2,sI a.price.mana.color.a3,sI a.price.mana.color.a4,.sb a.price.tap,.sb a.price.sacrifice,sI a.price.life,.sb a.slow,sI a.trigger.when,sI a.trigger.who,sI a.trigger.filter.zone,sI a.trigger.filter.who,sI a.trigger.filter.self,sI a.trigger.filter.types,sI a.trigger.filter.notTypes,sI a.trigger.filter.colors,sI a.trigger.filter.notColors,.str a.trigger.filter.sub,sI a.trigger.filter.keys,sI a.trigger.filter.tap,sI a.trigger.filter.power.kind,sI a.trigger.filter.power.n,sI a.trigger.filter.tough.kind,sI a.trigger.filter.tough.n,sI a.trigger.filter.value.kind,sI a.trigger.filter.value.n,.sb a.may,.os 2 0 (S.lenN (M.m GSpec (eGSpec M) y2)),.os 3 0 (S.lenN (M.m GEffect (eGEffect M) s4.2)),sI a.replace.on,sI a.replace.who,sI a.replace.filter.zone,sI a.replace.filter.who,sI a.replace.filter.self,sI a.replace.filter.types,sI a.replace.filter.notTypes,sI a.replace.filter.colors,sI a.replace.filter.notColors,.str a.replace.filter.sub,sI a.replace.filter.keys,sI a.replace.filter.tap,sI a.replace.filter.power.kind,sI a.replace.filter.power.n,sI a.replace.filter.tough.kind,sI a.replace.filter.tough.n,sI a.replace.filter.value.kind,sI a.replace.filter.value.n,sI a.replace.doF,sI a.replace.n,sI a.replace.zone,sI a.replace.counter],aR 20 (M.m GMod (eGMod M) y1),aR 18 (M.m GSpec (eGSpec M) y2),aR 64 (M.m GEffect (eGEffect M) s4.2),vR [sI 0,sI 0,sI 0,sI 0,sI 0,sI 0,sI 0,sI 0,.str (bs []),sI 0,sI 0,sI 0,sI 0,sI 0,sI 0,sI 0,sI 0,.sl 0 [] true,sI 0,sI 0,sI 0,sI 0,sI 0,sI 0,sI 0,.sb false,.sb false,sI 0,.sb false,sI 0,sI 0,sI 0,sI 0,sI 0,sI 0,sI 0,sI 0,sI 0,.str (bs []),sI 0,sI 0,sI 0,sI 0,sI 0,sI 0,sI 0,sI 0,.sb false,.sl 0 [] true,.sl 0 [] true,sI 0,sI 0,sI 0,sI 0,sI 0,sI 0,sI 0,sI 0,sI 0,.str (bs []),sI 0,sI 0,sI 0,sI 0,sI 0,sI 0,sI 0,sI 0,sI 0,sI 0,sI 0,sI 0]]) hf ?_
 intro Ik5 k5 s4 hk5 hf e he; subst he
 unfold zone_copyAbility_l1 at hf
 cbv
 refine d_B ?_ ?_
 ·intro hf; cbv
  refine d_o hS ?_; cbv
  refine d_ix hS hf d_e rfl ?_
  intro j7 _ hf; cbv
  refine d_row hS hM hf rfl d_e ?_
  intro x8 hf; cbv
  refine d_c hS hf (fun _=>c46 hM) ?_
  intro y9 hf; cbv
  refine d_ix hS hf d_e rfl ?_
  intro j10 _ hf; cbv
  refine d_row hS hM hf rfl d_e ?_
  exact d_Xy
 exact d_R
theorem c113 {o:GObject} {cards:Int} {players:Int} {r:Bool} (hf:r24_Is o cards players=some r):Pv.Fn Tryz.prog glF 113 [.agg (eGObject M o),sI cards,sI players] (fun u=>u=.sb r):=by
 refine fn_D (tabcOK [2,6,10]) Tryz.func113 Tryz.call113 ?_
 intro S R hS hR
 have q:=sf hM hS
 unfold r24_Is at hf
 cbv
 refine d_cut hS [] [1,2,3,52] (fun s1=>f3 148 [(1,sI cards),(2,sI players),(3,.lv 0 0),(52,.sb s1)] [vR (eGObject M o)]) hf ?_ ?_
 ·intro Ik2 k2 hk2 hf; cbv
  refine d_B ?_ ?_
  ·exact d_X
  intro hf; cbv
  refine d_B ?_ ?_
  ·exact d_X
  intro hf; cbv
  refine d_B ?_ ?_
  ·exact d_X
  intro hf; cbv
  refine d_B ?_ ?_
  ·exact d_X
  intro hf; cbv
  refine d_B ?_ ?_
  ·exact d_X
  intro hf; cbv
  refine d_B ?_ ?_
  ·exact d_X
  intro hf; cbv
  refine d_B ?_ ?_
  ·exact d_X
  intro hf; cbv
  refine d_B ?_ ?_ <;> exact d_X
 intro s1 hf; cbv
 refine d_br hS hf rfl ?_ ?_
 ·exact d_R
 intro hf; cbv
 refine d_cut hS [] [1,2,3,90] (fun s4=>f3 148 [(1,sI cards),(2,sI players),(3,.lv 0 0),(90,.sb s4)] [vR (eGObject M o)]) hf ?_ ?_
 ·intro Ik5 k5 hk5 hf; cbv
  refine d_B ?_ ?_
  ·exact d_X
  intro hf; cbv
  refine d_B ?_ ?_
  ·exact d_X
  intro hf; cbv
  refine d_B ?_ ?_
  ·exact d_X
  intro hf; cbv
  refine d_B ?_ ?_
  ·exact d_X
  intro hf; cbv
  refine d_B ?_ ?_
  ·exact d_X
  intro hf; cbv
  refine d_B ?_ ?_
  ·exact d_X
  intro hf; cbv
  refine d_B ?_ ?_ <;> exact d_X
 intro s4 hf; cbv
 refine d_br hS hf rfl ?_ ?_
 ·exact d_R
 intro hf; cbv
 refine d_cut hS [] [3,116] (fun s7=>f3 148 [(3,.lv 0 0),(116,.sb s7)] [vR (eGObject M o)]) hf ?_ ?_
 ·intro Ik8 k8 hk8 hf; cbv
  refine d_p hS hf (fun _=>c174 hM) ?_
  intro y10 hf; cbv
  refine d_B ?_ ?_
  ·exact d_X
  intro hf; cbv
  refine d_B ?_ ?_
  ·exact d_X
  intro hf; cbv
  refine d_B ?_ ?_
  ·exact d_X
  intro hf; cbv
  refine d_B ?_ ?_ <;> exact d_X
 intro s7 hf; cbv
 refine d_br hS hf rfl ?_ ?_
 ·exact d_R
 intro hf; cbv
 refine d_o hS ?_; cbv
 refine d_B ?_ ?_
 ·exact d_R
 intro hf; cbv
 refine d_c hS hf (fun _=>c175 hM) ?_
 intro y11 hf; cbv
 replace hf:=d_lt hf
 refine d_B ?_ ?_
 ·intro hf; cbv
  refine d_c hS hf (fun _=>c176 hM) ?_
  intro y13 hf; cbv
  replace hf:=d_lt hf
  refine d_B ?_ ?_
  ·intro hf; cbv
   refine d_B ?_ ?_
   ·intro hf; cbv
    refine d_B ?_ ?_
    ·intro hf; cbv
     replace hf:=d_lt hf
     exact d_Rz
    exact d_R
   exact d_R
  exact d_R
 exact d_R
theorem c103 {s:ByteArray} {r:Bool} (hf:r02_Is s=some r):Pv.Fn Tryz.prog glF 103 [.str s] (fun u=>u=.sb r):=by
 refine fn_D (tabcOK [2,12,16]) Tryz.func103 Tryz.call103 ?_
 intro S R hS hR
 have q:=sf hM hS
 unfold r02_Is at hf
 cbv
 refine d_cut hS [] [0,25] (fun s1=>f3 70 [(0,.str s),(25,.sb s1)] []) hf ?_ ?_
 ·intro Ik2 k2 hk2 hf; cbv
  refine d_B ?_ ?_
  ·exact d_X
  intro hf; cbv
  refine d_B ?_ ?_
  ·exact d_X
  intro hf; cbv
  refine d_six hS hf rfl rfl ?_
  intro x4 hf; cbv
  refine d_p hS hf (fun _=>c163 hM) ?_
  intro y5 hf; cbv
  refine d_B ?_ ?_
  ·exact d_X
  intro hf; cbv
  refine d_six hS hf rfl d_e ?_
  exact d_Xy
 intro s1 hf; cbv
 refine d_br hS hf rfl ?_ ?_
 ·exact d_R
 intro hf; cbv
 refine d_lp hS (tabcOK [2,12,16]) wf [] [0,3] (fun s7=>f3 70 [(0,.str s),(3,sI s7)] []) hf ?_
 intro Ik8 k8 s7 hk8 hf e he; subst he
 unfold r02_Is_l1 at hf
 cbv
 refine d_B ?_ ?_
 ·intro hf; cbv
  refine d_cut hS [] [0,3,54] (fun s10=>f3 70 [(0,.str s),(3,sI s7),(54,.sb s10)] []) hf ?_ ?_
  ·intro Ik11 k11 hk11 hf; cbv
   refine d_six hS hf rfl rfl ?_
   intro x13 hf; cbv
   refine d_p hS hf (fun _=>c163 hM) ?_
   intro y14 hf; cbv
   refine d_B ?_ ?_
   ·intro hf; cbv
    refine d_six hS hf rfl rfl ?_
    intro x15 hf; cbv
    refine d_B ?_ ?_
    ·intro hf; cbv
     refine d_six hS hf rfl rfl ?_
     exact d_Xy
    intro hf; cbv
    refine d_six hS hf rfl rfl ?_
    intro x17 hf; cbv
    refine d_B ?_ ?_
    ·intro hf; cbv
     refine d_six hS hf rfl rfl ?_
     exact d_Xy
    exact d_X
   exact d_X
  intro s10 hf; cbv
  refine d_br hS hf rfl ?_ ?_
  ·exact d_R
  intro hf; cbv
  refine d_cut hS [] [0,3,69] (fun s19=>f3 70 [(0,.str s),(3,sI s7),(69,.sb s19)] []) hf ?_ ?_
  ·intro Ik20 k20 hk20 hf; cbv
   refine d_B ?_ ?_
   ·intro hf; cbv
    refine d_six hS hf rfl rfl ?_
    intro x22 hf; cbv
    refine d_B ?_ ?_
    ·intro hf; cbv
     refine d_six hS hf rfl d_e ?_
     exact d_Xy
    exact d_X
   exact d_X
  intro s19 hf; cbv
  refine d_br hS hf rfl ?_ ?_
  ·exact d_R
  exact d_X
 exact d_R
theorem c246 {mask:Int} {r:ByteArray} (hf:r09_Text mask=some r):Pv.Fn Tryz.prog glF 246 [sI mask] (fun u=>u=.str r):=by
 refine fn_D (tabcOK [14,17,25]) Tryz.func246 Tryz.call246 ?_
 intro S R hS hR
 have q:=sf hM hS
 unfold r09_Text at hf
 cbv
 refine d_p hS hf (fun _=>c309 hM) ?_
 intro y1 hf; cbv
 refine d_B ?_ ?_
 ·exact d_R
 intro hf; cbv
 refine d_B ?_ ?_
 ·exact d_R
 intro hf; cbv
 refine d_lp hS (tabcOK [14,17,25]) wf [] [0,3,4] (fun s2=>f3 29 [(0,sI mask),(3,.str s2.1),(4,sI s2.2)] []) hf ?_
 intro Ik3 k3 s2 hk3 hf e he; subst he
 unfold r09_Text_l1 at hf
 cbv
 refine l_seq hS ?_; cbv
 refine d_B ?_ ?_
 ·intro hf; cbv
  refine d_cut hS [] [0,3,4] (fun s5=>f3 29 [(0,sI mask),(3,.str s5),(4,sI s2.2)] []) hf ?_ ?_
  ·intro Ik6 k6 hk6 hf; cbv
   refine d_shf hS hf rfl rfl ?_
   intro x8 hf; cbv
   refine d_div hS hf rfl rfl ?_
   intro x9 hf; cbv
   refine d_div hS hf rfl rfl ?_
   intro x10 hf; cbv
   refine d_B ?_ ?_
   ·intro hf; cbv
    refine d_cut hS [] [0,3,4] (fun s11=>f3 29 [(0,sI mask),(3,.str s11),(4,sI s2.2)] []) hf ?_ ?_
    ·intro Ik12 k12 hk12 hf; cbv
     refine d_B ?_ ?_
     ·intro hf; cbv
      refine d_cat hS hf rfl rfl ?_
      exact d_Xy
     exact d_X
    intro s11 hf; cbv
    refine d_p hS hf (fun _=>c310 hM) ?_
    intro y15 hf; cbv
    refine d_cat hS hf rfl rfl ?_
    exact d_Xy
   exact d_X
  intro s5 hf; cbv
  exact d_Xz
 exact d_R
theorem c31 {l:List GCard} {c:GCard} {r:Bool} (hf:r22_creates l c=some r):Pv.Fn Tryz.prog glF 31 [.sl 17 (M.m GCard (eGCard M) l) false,.agg (eGCard M c)] (fun u=>u=.sb r):=by
 refine fn_D (tabcOK [16]) Tryz.func31 Tryz.call31 ?_
 intro S R hS hR
 have q:=sf hM hS
 unfold r22_creates at hf
 cbv
 refine d_lp hS (tabcOK [16]) wf [] [0,3,5] (fun s1=>f3 45 [(0,.sl 17 (M.m GCard (eGCard M) l) false),(3,.lv 0 0),(5,sI s1)] [vR (eGCard M c)]) hf ?_
 intro Ik2 k2 s1 hk2 hf e he; subst he
 unfold r22_creates_l2 at hf
 cbv
 refine d_B ?_ ?_
 ·intro hf; cbv
  refine d_lp hS (tabcOK [16]) wf [] [0,3,5,6] (fun s4=>f3 45 [(0,.sl 17 (M.m GCard (eGCard M) l) false),(3,.lv 0 0),(5,sI s1),(6,sI s4)] [vR (eGCard M c)]) hf ?_
  intro Ik5 k5 s4 hk5 hf e he; subst he
  unfold r22_creates_l1 at hf
  cbv
  refine d_I ?_
  intro x7 hf; cbv
  refine d_B ?_ ?_
  ·intro hf; cbv
   refine d_I ?_
   intro x8 hf; cbv
   refine d_I ?_
   intro x9 hf; cbv
   refine d_cut hS [] [0,3,5,6,44] (fun s10=>f3 45 [(0,.sl 17 (M.m GCard (eGCard M) l) false),(3,.lv 0 0),(5,sI s1),(6,sI s4),(44,.sb s10)] [vR (eGCard M c)]) hf ?_ ?_
   ·intro Ik11 k11 hk11 hf; cbv
    refine d_B ?_ ?_
    ·intro hf; cbv
     refine d_p hS hf (fun _=>c110 hM) ?_
     exact d_Xy
    exact d_X
   intro s10 hf; cbv
   refine d_br hS hf rfl ?_ ?_
   ·exact d_R
   exact d_X
  exact d_X
 exact d_R
theorem c178 {s:GState} {zone:Int} {player:Int} {r:List Int} (hf:r25_List s zone player=some r):Pv.Fn Tryz.prog glF 178 [.agg (eGState M s),sI zone,sI player] (fun u=>u=.sl 1 (mI M r) false):=by
 refine fn_D (tabcOK [12]) Tryz.func178 Tryz.call178 ?_
 intro S R hS hR
 have q:=sf hM hS
 unfold r25_List at hf
 cbv
 refine d_B ?_ ?_
 ·intro hf; cbv
  refine d_p hS hf (fun _=>c242 hM) ?_
  exact d_Ry
 intro hf; cbv
 refine d_B ?_ ?_
 ·intro hf; cbv
  refine d_p hS hf (fun _=>c242 hM) ?_
  exact d_Ry
 intro hf; cbv
 refine d_cut hS [] [1,2,3,26] (fun s3=>f3 55 [(1,sI zone),(2,sI player),(3,.lv 0 0),(26,.sb s3)] [vR (eGState M s)]) hf ?_ ?_
 ·intro Ik4 k4 hk4 hf; cbv
  refine d_B ?_ ?_ <;> exact d_X
 intro s3 hf; cbv
 refine d_br hS hf rfl ?_ ?_
 ·intro hf; cbv
  cases hf; exact hR _ (by (try simp only [q]); repeat' constructor)
 intro hf; cbv
 refine d_B ?_ ?_
 ·intro hf; cbv
  refine d_I ?_
  intro x6 hf; cbv
  refine d_p hS hf (fun _=>c242 hM) ?_
  exact d_Ry
 intro hf; cbv
 refine d_B ?_ ?_
 ·intro hf; cbv
  refine d_I ?_
  intro x8 hf; cbv
  refine d_p hS hf (fun _=>c242 hM) ?_
  exact d_Ry
 intro hf; cbv
 refine d_B ?_ ?_
 ·intro hf; cbv
  refine d_I ?_
  intro x10 hf; cbv
  refine d_p hS hf (fun _=>c242 hM) ?_
  exact d_Ry
 intro hf; cbv
 cases hf; exact hR _ (by (try simp only [q]); repeat' constructor)
theorem c308 {l:List ByteArray} {mask:Int} {pby:ByteArray} {r:ByteArray} (hf:r10_joined l mask pby=some r):Pv.Fn Tryz.prog glF 308 [.sl 1 (M.m ByteArray eS l) false,sI mask,.str pby] (fun u=>u=.str r):=by
 refine fn_D (tabcOK [9,17]) Tryz.func308 Tryz.call308 ?_
 intro S R hS hR
 have q:=sf hM hS
 unfold r10_joined at hf
 cbv
 refine d_lp hS (tabcOK [9,17]) wf [] [0,1,2,7,8] (fun s1=>f3 30 [(0,.sl 1 (M.m ByteArray eS l) false),(1,sI mask),(2,.str pby),(7,.str s1.1),(8,sI s1.2)] []) hf ?_
 intro Ik2 k2 s1 hk2 hf e he; subst he
 unfold r10_joined_l1 at hf
 cbv
 refine d_B ?_ ?_
 ·intro hf; cbv
  refine d_cut hS [] [0,1,2,7,8] (fun s4=>f3 30 [(0,.sl 1 (M.m ByteArray eS l) false),(1,sI mask),(2,.str pby),(7,.str s4),(8,sI s1.2)] []) hf ?_ ?_
  ·intro Ik5 k5 hk5 hf; cbv
   refine d_p hS hf (fun _=>c165 hM) ?_
   intro y7 hf; cbv
   refine d_br hS hf rfl ?_ ?_
   ·intro hf; cbv
    refine d_cut hS [] [0,1,2,7,8] (fun s8=>f3 30 [(0,.sl 1 (M.m ByteArray eS l) false),(1,sI mask),(2,.str pby),(7,.str s8),(8,sI s1.2)] []) hf ?_ ?_
    ·intro Ik9 k9 hk9 hf; cbv
     refine d_B ?_ ?_
     ·intro hf; cbv
      refine d_cat hS hf rfl rfl ?_
      exact d_Xy
     exact d_X
    intro s8 hf; cbv
    refine d_I ?_
    intro x12 hf; cbv
    refine d_cat hS hf rfl rfl ?_
    exact d_Xy
   exact d_X
  intro s4 hf; cbv
  exact d_Xz
 exact d_R
theorem o6 {answers:List (List Int)} {r:GAskAsker} (hf:ask_New answers=some r):Pv.FnS Tryz.prog glF 6 [.sl 1 (M.m (List Int) (eL M 1 (eI .i64)) answers) false] [] 0 (fun u s n=>u=.lv 0 0∧s=[(0,(vR [.os 1 0 (M.n (List Int) r.answers),sI r.used,sI r.pending.kind,sI r.pending.player,sI r.pending.source,sI r.pending.least,sI r.pending.most,sI r.pending.n,.sl 3 (M.m GOption (eGOption M) r.pending.options) false,.sb r.waits,.sb r.bad])),(1,(aR 1 (M.m (List Int) (eL M 1 (eI .i64)) r.answers)))]∧n=2):=by
 refine fnS_dec (T:=(tabx 0 [] [])) (tabxOK 0 [] []) wf Tryz.func6 rfl Tryz.call6 rfl ?_
 intro S R hS hR
 have q:=sf hM hS
 unfold ask_New at hf
 cbv
 refine d_lp hS (tabxOK 0 [] []) wf [.cO 0 0 1] [3,8,9,10] (fun s1=>f3 27 [(3,.lv 0 0),(8,.sl 1 (M.m (List Int) (eL M 1 (eI .i64)) answers) false),(9,sI (S.len (M.m (List Int) (eL M 1 (eI .i64)) answers))),(10,sI s1.1)] [vR [.os 1 0 (S.lenN (M.m (List Int) (eL M 1 (eI .i64)) s1.2)),sI 0,sI 0,sI 0,sI 0,sI 0,sI 0,sI 0,.sl 0 [] true,.sb false,.sb false],aR 1 (M.m (List Int) (eL M 1 (eI .i64)) s1.2)]) hf ?_
 intro Ik2 k2 s1 hk2 hf e he; subst he
 unfold ask_New_l1 at hf
 cbv
 refine d_B ?_ ?_
 ·intro hf; cbv
  refine d_I ?_
  intro x4 hf; cbv
  refine d_o hS ?_; cbv
  refine d_c hS hf (fun _=>c14 hM) ?_
  intro y5 hf; cbv
  refine d_room hS hf d_e ?_
  exact d_X
 intro hf; cbv
 cases hf; exact hR _ _ _ d_st d_st rfl
theorem c99 {a:GPlayer} {b:GPlayer} {r:Bool} (hf:r26_SamePlayer a b=some r):Pv.Fn Tryz.prog glF 99 [.agg (eGPlayer M a),.agg (eGPlayer M b)] (fun u=>u=.sb r):=by
 refine fn_D (tabcOK [2]) Tryz.func99 Tryz.call99 ?_
 intro S R hS hR
 have q:=sf hM hS
 unfold r26_SamePlayer at hf
 cbv
 refine d_cut hS [] [2,3,44] (fun s1=>f3 64 [(2,.lv 0 0),(3,.lv 1 0),(44,.sb s1)] [vR (eGPlayer M a),vR (eGPlayer M b)]) hf ?_ ?_
 ·intro Ik2 k2 hk2 hf; cbv
  refine d_B ?_ ?_
  ·exact d_X
  intro hf; cbv
  refine d_B ?_ ?_
  ·exact d_X
  intro hf; cbv
  refine d_B ?_ ?_
  ·exact d_X
  intro hf; cbv
  replace hf:=d_lt hf
  refine d_B ?_ ?_
  ·exact d_X
  intro hf; cbv
  refine d_B ?_ ?_ <;> exact d_X
 intro s1 hf; cbv
 refine d_br hS hf rfl ?_ ?_
 ·exact d_R
 intro hf; cbv
 refine d_p hS hf (fun _=>c28 hM) ?_
 intro y5 hf; cbv
 refine d_br hS hf rfl ?_ ?_
 ·intro hf; cbv
  refine d_p hS hf (fun _=>c28 hM) ?_
  intro y6 hf; cbv
  refine d_br hS hf rfl ?_ ?_
  ·intro hf; cbv
   refine d_p hS hf (fun _=>c28 hM) ?_
   exact d_Ry
  exact d_R
 exact d_R
theorem c298 {a:GEffect} {b:GEffect} {r:Bool} (hf:r17_Same a b=some r):Pv.Fn Tryz.prog glF 298 [.agg (eGEffect M a),.agg (eGEffect M b)] (fun u=>u=.sb r):=by
 refine fn_D tabOK Tryz.func298 Tryz.call298 ?_
 intro S R hS hR
 have q:=sf hM hS
 unfold r17_Same at hf
 cbv
 refine d_B ?_ ?_
 ·intro hf; cbv
  replace hf:=d_lt hf
  refine d_B ?_ ?_
  ·intro hf; cbv
   replace hf:=d_lt hf
   refine d_B ?_ ?_
   ·intro hf; cbv
    refine d_B ?_ ?_
    ·intro hf; cbv
     refine d_B ?_ ?_
     ·intro hf; cbv
      refine d_B ?_ ?_
      ·intro hf; cbv
       replace hf:=d_lt hf
       refine d_B ?_ ?_
       ·intro hf; cbv
        replace hf:=d_lt hf
        refine d_B ?_ ?_
        ·intro hf; cbv
         refine d_p hS hf (fun _=>c226 hM) ?_
         exact d_Ry
        exact d_R
       exact d_R
      exact d_R
     exact d_R
    exact d_R
   exact d_R
  exact d_R
 exact d_R
theorem c102 {a:GCont} {b:GCont} {r:Bool} (hf:r26_SameCont a b=some r):Pv.Fn Tryz.prog glF 102 [.agg (eGCont M a),.agg (eGCont M b)] (fun u=>u=.sb r):=by
 refine fn_D tabOK Tryz.func102 Tryz.call102 ?_
 intro S R hS hR
 have q:=sf hM hS
 unfold r26_SameCont at hf
 cbv
 refine d_B ?_ ?_
 ·intro hf; cbv
  refine d_B ?_ ?_
  ·intro hf; cbv
   refine d_B ?_ ?_
   ·intro hf; cbv
    refine d_B ?_ ?_
    ·intro hf; cbv
     refine d_p hS hf (fun _=>c28 hM) ?_
     intro y1 hf; cbv
     refine d_br hS hf rfl ?_ ?_
     ·intro hf; cbv
      refine d_p hS hf (fun _=>c162 hM) ?_
      exact d_Ry
     exact d_R
    exact d_R
   exact d_R
  exact d_R
 exact d_R
theorem c300 {op:Int} {field:Int} {r:Bool} (hf:r17_uses op field=some r):Pv.Fn Tryz.prog glF 300 [sI op,.si .u8 field] (fun u=>u=.sb r):=by
 refine fn_D tabOK Tryz.func300 Tryz.call300 ?_
 intro S R hS hR
 have q:=sf hM hS
 unfold r17_uses at hf
 cbv
 refine d_p hS hf (fun _=>c356 hM) ?_
 intro y1 hf; cbv
 refine d_lp hS tabOK wf [] [1,5,6] (fun s2=>f3 20 [(1,.si .u8 field),(5,.str y1),(6,sI s2)] []) hf ?_
 intro Ik3 k3 s2 hk3 hf e he; subst he
 unfold r17_uses_l1 at hf
 cbv
 refine d_B ?_ ?_
 ·intro hf; cbv
  refine d_six hS hf rfl rfl ?_
  intro x5 hf; cbv
  refine d_B ?_ ?_
  ·exact d_R
  exact d_X
 exact d_R
theorem c167 {p:GPrice} {r:Bool} (hf:r20_price p=some r):Pv.Fn Tryz.prog glF 167 [.agg (eGPrice M p)] (fun u=>u=.sb r):=by
 refine fn_D tabOK Tryz.func167 Tryz.call167 ?_
 intro S R hS hR
 have q:=sf hM hS
 unfold r20_price at hf
 cbv
 refine d_p hS hf (fun _=>c104 hM) ?_
 intro y1 hf; cbv
 refine d_br hS hf rfl ?_ ?_
 ·intro hf; cbv
  refine d_B ?_ ?_
  ·intro hf; cbv
   refine d_B ?_ ?_ <;> exact d_R
  exact d_R
 exact d_R
theorem c235 {when:Int} {r:Bool} (hf:r18_hasFilter when=some r):Pv.Fn Tryz.prog glF 235 [sI when] (fun u=>u=.sb r):=by
 refine fn_D tabOK Tryz.func235 Tryz.call235 ?_
 intro S R hS hR
 have q:=sf hM hS
 unfold r18_hasFilter at hf
 cbv
 refine d_p hS hf (fun _=>c233 hM) ?_
 intro y1 hf; cbv
 refine d_B ?_ ?_
 ·intro hf; cbv
  refine d_p hS hf (fun _=>c234 hM) ?_
  intro y2 hf; cbv
  refine d_B ?_ ?_ <;> exact d_R
 exact d_R
theorem c311 {i:Int} {r:ByteArray} (hf:r11_Name i=some r):Pv.Fn Tryz.prog glF 311 [sI i] (fun u=>u=.str r):=by
 refine fn_D tabOK Tryz.func311 Tryz.call311 ?_
 intro S R hS hR
 have q:=sf hM hS
 unfold r11_Name at hf
 cbv
 refine d_B ?_ ?_
 ·exact d_R
 intro hf; cbv
 refine d_B ?_ ?_
 ·exact d_R
 intro hf; cbv
 refine d_p hS hf (fun _=>c360 hM) ?_
 intro y1 hf; cbv
 refine d_I ?_
 exact d_Ry
theorem c249 {n:Int} {r:ByteArray} (hf:r01_Text n=some r):Pv.Fn Tryz.prog glF 249 [sI n] (fun u=>u=.str r):=by
 refine fn_D tabOK Tryz.func249 Tryz.call249 ?_
 intro S R hS hR
 have q:=sf hM hS
 unfold r01_Text at hf
 cbv
 refine d_B ?_ ?_
 ·intro hf; cbv
  refine d_callp hS hf (fun _=>c321 hM) d_le ?_
  intro y1 hf; cbv
  refine d_cat hS hf rfl rfl ?_
  exact d_Ry
 intro hf; cbv
 refine d_callp hS hf (fun _=>c321 hM) d_le ?_
 exact d_Ry
theorem c241 {s:GState} {id:Int} {r:GObject × Bool} (hf:r25_Find s id=some r):Pv.Fn Tryz.prog glF 241 [.agg (eGState M s),sI id] (fun u=>u=.tup [.agg (eGObject M r.1),.sb r.2]):=by
 refine fn_D tabOK Tryz.func241 Tryz.call241 ?_
 intro S R hS hR
 have q:=sf hM hS
 unfold r25_Find at hf
 cbv
 refine d_p hS hf (fun _=>c307 hM) ?_
 intro y1 hf; cbv
 refine d_B ?_ ?_
 ·exact d_R
 intro hf; cbv
 refine d_I ?_
 exact d_Ry
theorem c38 {p:GPlayer} {r:GPlayer} (hf:zone_copyPlayer p=some r):Pv.Fn Tryz.prog glF 38 [.agg (eGPlayer M p)] (fun u=>u=.agg (eGPlayer M r)):=by
 refine fn_D tabOK Tryz.func38 Tryz.call38 ?_
 intro S R hS hR
 have q:=sf hM hS
 unfold zone_copyPlayer at hf
 cbv
 refine d_p hS hf (fun _=>c40 hM) ?_
 intro y1 hf; cbv
 refine d_p hS hf (fun _=>c40 hM) ?_
 intro y2 hf; cbv
 refine d_p hS hf (fun _=>c40 hM) ?_
 exact d_Ry
end
end Go.Proofs.YthfepelpmalckaaGreatDoor
namespace Go.Proofs.YthfepelpmalckaaGreatDoor
open Go Go.Pv
set_option maxRecDepth 100000
set_option maxHeartbeats 2000000
section
variable {M:EncM} (hM:M=mapE)
include hM
theorem c9 {k:GAskAsker} {r:GChoice × Bool} (hf:ask_Asker_Pending k=some r):Pv.Fn Tryz.prog glF 9 [.pp (eGAskAsker M k)] (fun u=>u=.tup [.agg (eGChoice M r.1),.sb r.2]):=by
 refine fn_D tabOK Tryz.func9 Tryz.call9 ?_
 intro S R hS hR
 have q:=sf hM hS
 unfold ask_Asker_Pending at hf
 cbv
 refine d_B ?_ ?_
 ·intro hf; cbv
  cases hf; exact hR _ d_st
 intro hf; cbv
 refine d_p hS hf (fun _=>c26 hM) ?_
 exact d_Ry
theorem c34 {s:GState} {p:Int} {r:Bool} (hf:r26_player s p=some r):Pv.Fn Tryz.prog glF 34 [.agg (eGState M s),sI p] (fun u=>u=.sb r):=by
 refine fn_D tabOK Tryz.func34 Tryz.call34 ?_
 intro S R hS hR
 have q:=sf hM hS
 unfold r26_player at hf
 cbv
 refine d_callp hS hf (fun _=>c32 hM) d_le ?_
 exact d_Ry
end
end Go.Proofs.YthfepelpmalckaaGreatDoor
