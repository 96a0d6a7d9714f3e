import Derived.Test.YtddcpnlflncahaaGreatC14
import Derived.Test.YtddcpnlflncahaaGreatC15
set_option linter.all false
namespace Go.Proofs.YtddcpnlflncahaaGreat
open Go Go.Pv
set_option maxRecDepth 100000
set_option maxHeartbeats 2000000
theorem c156 {M:EncM} (hM:M=mapE) {f:GFilter} {r:Bool} (hf:r13_Is f=some r):Pv.Fn Tryz.prog glF 156 [.agg (eGFilter M f)] (fun u=>u=.sb r):=by
 refine fn_dec (T:=(tabc [2,6,10])) (tabcOK [2,6,10]) rfl wf Tryz.func156 rfl Tryz.call156 rfl ?_
 intro S R hS hR
 have q:=sf hM hS
 unfold r13_Is at hf
 cbv
 refine d_cut hS [] [1,40] (fun s1=>⟨tpsL 0 87 [(1,.lv 0 0),(40,.sb s1)],[(0,some (.var false (eGFilter M f)))],1⟩) hf ?_ ?_
 ·intro Ik2 k2 hk2 hf; cbv
  refine d_b hS hf ?_ ?_
  ·intro hf; cbv
   exact d_x hk2 hf
  intro hf; cbv
  refine d_b hS hf ?_ ?_
  ·intro hf; cbv
   exact d_x hk2 hf
  intro hf; cbv
  refine d_b hS hf ?_ ?_
  ·intro hf; cbv
   exact d_x hk2 hf
  intro hf; cbv
  refine d_b hS hf ?_ ?_
  ·intro hf; cbv
   exact d_x hk2 hf
  intro hf; cbv
  refine d_b hS hf ?_ ?_
  ·intro hf; cbv
   exact d_x hk2 hf
  intro hf; cbv
  refine d_b hS hf ?_ ?_
  ·intro hf; cbv
   exact d_x hk2 hf
  intro hf; cbv
  refine d_b hS hf ?_ ?_
  ·intro hf; cbv
   exact d_x hk2 hf
  intro hf; cbv
  exact d_x hk2 hf
 intro s1 hf; cbv
 refine d_br hS hf rfl ?_ ?_
 ·intro hf; cbv
  cases hf; exact hR _ (lp_eq rfl)
 intro hf; cbv
 refine d_cut hS [] [1,54] (fun s4=>⟨tpsL 0 87 [(1,.lv 0 0),(54,.sb s4)],[(0,some (.var false (eGFilter M f)))],1⟩) hf ?_ ?_
 ·intro Ik5 k5 hk5 hf; cbv
  refine d_p hS hf (fun _=>c190 hM) ?_
  intro y7 hf; cbv
  refine d_b hS hf ?_ ?_
  ·intro hf; cbv
   exact d_x hk5 hf
  intro hf; cbv
  refine d_p hS hf (fun _=>c190 hM) ?_
  intro y8 hf; cbv
  exact d_x hk5 hf
 intro s4 hf; cbv
 refine d_br hS hf rfl ?_ ?_
 ·intro hf; cbv
  cases hf; exact hR _ (lp_eq rfl)
 intro hf; cbv
 refine d_cut hS [] [1,73] (fun s9=>⟨tpsL 0 87 [(1,.lv 0 0),(73,.sb s9)],[(0,some (.var false (eGFilter M f)))],1⟩) hf ?_ ?_
 ·intro Ik10 k10 hk10 hf; cbv
  refine d_b hS hf ?_ ?_
  ·intro hf; cbv
   refine d_p hS hf (fun _=>c154 hM) ?_
   intro y12 hf; cbv
   refine d_b hS hf ?_ ?_
   ·intro hf; cbv
    exact d_x hk10 hf
   intro hf; cbv
   refine d_b hS hf ?_ ?_
   ·intro hf; cbv
    exact d_x hk10 hf
   intro hf; cbv
   exact d_x hk10 hf
  intro hf; cbv
  refine d_b hS hf ?_ ?_
  ·intro hf; cbv
   exact d_x hk10 hf
  intro hf; cbv
  exact d_x hk10 hf
 intro s9 hf; cbv
 refine d_br hS hf rfl ?_ ?_
 ·intro hf; cbv
  cases hf; exact hR _ (lp_eq rfl)
 intro hf; cbv
 refine d_p hS hf (fun _=>c191 hM) ?_
 intro y13 hf; cbv
 refine d_br hS hf rfl ?_ ?_
 ·intro hf; cbv
  refine d_p hS hf (fun _=>c191 hM) ?_
  intro y14 hf; cbv
  refine d_br hS hf rfl ?_ ?_
  ·intro hf; cbv
   refine d_p hS hf (fun _=>c191 hM) ?_
   intro y15 hf; cbv
   cases hf; exact hR _ (lp_eq rfl)
  intro hf; cbv
  cases hf; exact hR _ (lp_eq rfl)
 intro hf; cbv
 cases hf; exact hR _ (lp_eq rfl)
theorem c113 {M:EncM} (hM:M=mapE) {l:GLine} {r:Bool} (hf:r10_Is l=some r):Pv.Fn Tryz.prog glF 113 [.agg (eGLine M l)] (fun u=>u=.sb r):=by
 refine fn_dec (T:=(tabc [2,12])) (tabcOK [2,12]) rfl wf Tryz.func113 rfl Tryz.call113 rfl ?_
 intro S R hS hR
 have q:=sf hM hS
 unfold r10_Is at hf
 cbv
 refine d_cut hS [] [1,27] (fun s1=>⟨tpsL 0 80 [(1,.lv 0 0),(27,.sb s1)],[(0,some (.var false (eGLine M l)))],1⟩) hf ?_ ?_
 ·intro Ik2 k2 hk2 hf; cbv
  refine d_b hS hf ?_ ?_
  ·intro hf; cbv
   exact d_x hk2 hf
  intro hf; cbv
  refine d_b hS hf ?_ ?_
  ·intro hf; cbv
   exact d_x hk2 hf
  intro hf; cbv
  refine d_b hS hf ?_ ?_
  ·intro hf; cbv
   exact d_x hk2 hf
  intro hf; cbv
  refine d_b hS hf ?_ ?_
  ·intro hf; cbv
   exact d_x hk2 hf
  intro hf; cbv
  exact d_x hk2 hf
 intro s1 hf; cbv
 refine d_br hS hf rfl ?_ ?_
 ·intro hf; cbv
  cases hf; exact hR _ (lp_eq rfl)
 intro hf; cbv
 refine d_lp hS (tabcOK [2,12]) wf [] [1,3] (fun s4=>⟨tpsL 0 80 [(1,.lv 0 0),(3,.si .i64 s4)],[(0,some (.var false (eGLine M l)))],1⟩) hf ?_
 intro Ik5 k5 s4 hk5 hf e he; subst he
 unfold r10_Is_l1 at hf
 cbv
 refine d_b hS hf ?_ ?_
 ·intro hf; cbv
  refine d_cut hS [] [1,3,59] (fun s7=>⟨tpsL 0 80 [(1,.lv 0 0),(3,.si .i64 s4),(59,.sb s7)],[(0,some (.var false (eGLine M l)))],1⟩) hf ?_ ?_
  ·intro Ik8 k8 hk8 hf; cbv
   refine d_o hS ?_; cbv
   refine d_idx hS hM hf rfl rfl ?_
   intro x10 hf; cbv
   refine d_c hS hf (fun _=>c154 hM) ?_
   intro y11 hf; cbv
   refine d_b hS hf ?_ ?_
   ·intro hf; cbv
    exact d_x hk8 hf
   intro hf; cbv
   refine d_b hS hf ?_ ?_
   ·intro hf; cbv
    refine d_idx hS hM hf rfl d_e ?_
    intro x12 hf; cbv
    refine d_idx hS hM hf rfl rfl ?_
    intro x13 hf; cbv
    exact d_x hk8 hf
   intro hf; cbv
   exact d_x hk8 hf
  intro s7 hf; cbv
  refine d_br hS hf rfl ?_ ?_
  ·intro hf; cbv
   cases hf; exact hR _ (lp_eq rfl)
  intro hf; cbv
  exact d_x hk5 hf
 intro hf; cbv
 refine d_b hS hf ?_ ?_
 ·intro hf; cbv
  cases hf; exact hR _ (lp_eq rfl)
 intro hf; cbv
 refine d_b hS hf ?_ ?_
 ·intro hf; cbv
  cases hf; exact hR _ (lp_eq rfl)
 intro hf; cbv
 refine d_p hS hf (fun _=>c155 hM) ?_
 intro y14 hf; cbv
 refine d_b hS hf ?_ ?_
 ·intro hf; cbv
  refine d_p hS hf (fun _=>c155 hM) ?_
  intro y15 hf; cbv
  cases hf; exact hR _ d_l
 intro hf; cbv
 cases hf; exact hR _ (lp_eq rfl)
theorem c125 {M:EncM} (hM:M=mapE) {a:GAbility} {b:GAbility} {r:Bool} (hf:r20_Same a b=some r):Pv.Fn Tryz.prog glF 125 [.agg (eGAbility M a),.agg (eGAbility M b)] (fun u=>u=.sb r):=by
 refine fn_dec (T:=tab) tabOK rfl wf Tryz.func125 rfl Tryz.call125 rfl ?_
 intro S R hS hR
 have q:=sf hM hS
 unfold r20_Same at hf
 cbv
 refine d_b hS hf ?_ ?_
 ·intro hf; cbv
  cases hf; exact hR _ (lp_eq rfl)
 intro hf; cbv
 refine d_lp hS tabOK wf [] [2,3,5] (fun s1=>⟨tpsL 0 92 [(2,.lv 0 0),(3,.lv 1 0),(5,.si .i64 s1)],[(0,some (.var false (eGAbility M a))),(1,some (.var false (eGAbility M b)))],2⟩) hf ?_
 intro Ik2 k2 s1 hk2 hf e he; subst he
 unfold r20_Same_l1 at hf
 cbv
 refine d_b hS hf ?_ ?_
 ·intro hf; cbv
  refine d_o hS ?_; cbv
  refine d_idx hS hM hf rfl rfl ?_
  intro x4 hf; cbv
  refine d_idx hS hM hf rfl rfl ?_
  intro x5 hf; cbv
  replace hf:=d_lt hf
  refine d_b hS hf ?_ ?_
  ·intro hf; cbv
   cases hf; exact hR _ (lp_eq rfl)
  intro hf; cbv
  exact d_x hk2 hf
 intro hf; cbv
 refine d_b hS hf ?_ ?_
 ·intro hf; cbv
  replace hf:=d_lt hf
  refine d_b hS hf ?_ ?_
  ·intro hf; cbv
   refine d_p hS hf (fun _=>c171 hM) ?_
   intro y8 hf; cbv
   refine d_br hS hf rfl ?_ ?_
   ·intro hf; cbv
    replace hf:=d_lt hf
    refine d_b hS hf ?_ ?_
    ·intro hf; cbv
     refine d_b hS hf ?_ ?_
     ·intro hf; cbv
      replace hf:=d_lt hf
      refine d_b hS hf ?_ ?_
      ·intro hf; cbv
       refine d_b hS hf ?_ ?_
       ·intro hf; cbv
        refine d_p hS hf (fun _=>c172 hM) ?_
        intro y11 hf; cbv
        refine d_br hS hf rfl ?_ ?_
        ·intro hf; cbv
         replace hf:=d_lt hf
         cases hf; exact hR _ d_l
        intro hf; cbv
        cases hf; exact hR _ (lp_eq rfl)
       intro hf; cbv
       cases hf; exact hR _ (lp_eq rfl)
      intro hf; cbv
      cases hf; exact hR _ (lp_eq rfl)
     intro hf; cbv
     cases hf; exact hR _ (lp_eq rfl)
    intro hf; cbv
    cases hf; exact hR _ (lp_eq rfl)
   intro hf; cbv
   cases hf; exact hR _ (lp_eq rfl)
  intro hf; cbv
  cases hf; exact hR _ (lp_eq rfl)
 intro hf; cbv
 cases hf; exact hR _ (lp_eq rfl)
theorem c119 {M:EncM} (hM:M=mapE) {s:GState} {l:List Int} {zone:Int} {owner:Int} {r:Bool} (hf:r26_list s l zone owner=some r):Pv.Fn Tryz.prog glF 119 [.agg (eGState M s),.sl 1 (M.m Int (eI .i64) l) false,.si .i64 zone,.si .i64 owner] (fun u=>u=.sb r):=by
 refine fn_dec (T:=(tabc [10])) (tabcOK [10]) rfl wf Tryz.func119 rfl Tryz.call119 rfl ?_
 intro S R hS hR
 have q:=sf hM hS
 unfold r26_list at hf
 cbv
 refine d_lp hS (tabcOK [10]) wf [] [1,2,3,4,9] (fun s1=>⟨tpsL 0 54 [(1,.sl 1 (M.m Int (eI .i64) l) false),(2,.si .i64 zone),(3,.si .i64 owner),(4,.lv 0 0),(9,.si .i64 s1)],[(0,some (.var false (eGState M s)))],1⟩) hf ?_
 intro Ik2 k2 s1 hk2 hf e he; subst he
 unfold r26_list_l1 at hf
 cbv
 refine d_b hS hf ?_ ?_
 ·intro hf; cbv
  refine d_o hS ?_; cbv
  refine d_idx hS hM hf rfl rfl ?_
  intro x4 hf; cbv
  refine d_c hS hf (fun _=>c162 hM) ?_
  intro y5 hf; cbv
  refine d_cut hS [] [1,2,3,4,9,53] (fun s6=>⟨tpsL 0 54 [(1,.sl 1 (M.m Int (eI .i64) l) false),(2,.si .i64 zone),(3,.si .i64 owner),(4,.lv 0 0),(9,.si .i64 s1),(53,.sb s6)],[(0,some (.var false (eGState M s)))],1⟩) hf ?_ ?_
  ·intro Ik7 k7 hk7 hf; cbv
   refine d_b hS hf ?_ ?_
   ·intro hf; cbv
    exact d_x hk7 hf
   intro hf; cbv
   refine d_b hS hf ?_ ?_
   ·intro hf; cbv
    exact d_x hk7 hf
   intro hf; cbv
   refine d_b hS hf ?_ ?_
   ·intro hf; cbv
    refine d_b hS hf ?_ ?_
    ·intro hf; cbv
     exact d_x hk7 hf
    intro hf; cbv
    refine d_idx hS hM hf rfl rfl ?_
    intro x9 hf; cbv
    refine d_p hS hf (fun _=>c163 hM) ?_
    intro y10 hf; cbv
    exact d_x hk7 hf
   intro hf; cbv
   refine d_idx hS hM hf rfl rfl ?_
   intro x11 hf; cbv
   refine d_p hS hf (fun _=>c163 hM) ?_
   intro y12 hf; cbv
   exact d_x hk7 hf
  intro s6 hf; cbv
  refine d_br hS hf rfl ?_ ?_
  ·intro hf; cbv
   cases hf; exact hR _ (lp_eq rfl)
  intro hf; cbv
  exact d_x hk2 hf
 intro hf; cbv
 cases hf; exact hR _ (lp_eq rfl)
theorem c67 {M:EncM} (hM:M=mapE) {cards:List GCard} {s:GState} {r:Bool} (hf:r26_objects cards s=some r):Pv.Fn Tryz.prog glF 67 [.sl 17 (M.m GCard (eGCard M) cards) false,.agg (eGState M s)] (fun u=>u=.sb r):=by
 refine fn_dec (T:=(tabc [14])) (tabcOK [14]) rfl wf Tryz.func67 rfl Tryz.call67 rfl ?_
 intro S R hS hR
 have q:=sf hM hS
 unfold r26_objects at hf
 cbv
 refine d_b hS hf ?_ ?_
 ·intro hf; cbv
  cases hf; exact hR _ (lp_eq rfl)
 intro hf; cbv
 refine d_lp hS (tabcOK [14]) wf [] [0,3,5] (fun s1=>⟨tpsL 0 65 [(0,.sl 17 (M.m GCard (eGCard M) cards) false),(3,.lv 0 0),(5,.si .i64 s1)],[(0,some (.var false (eGState M s)))],1⟩) hf ?_
 intro Ik2 k2 s1 hk2 hf e he; subst he
 unfold r26_objects_l1 at hf
 cbv
 refine d_b hS hf ?_ ?_
 ·intro hf; cbv
  refine d_idx hS hM hf rfl rfl ?_
  intro x4 hf; cbv
  refine d_cut hS [] [0,3,5,6,60] (fun s5=>⟨tpsL 0 65 [(0,.sl 17 (M.m GCard (eGCard M) cards) false),(3,.lv 0 0),(5,.si .i64 s1),(6,.lv 1 0),(60,.sb s5)],[(0,some (.var false (eGState M s))),(1,some (.var false (eGObject M x4)))],2⟩) hf ?_ ?_
  ·intro Ik6 k6 hk6 hf; cbv
   refine d_o hS ?_; cbv
   refine d_call hS hf (fun _=>c120 hM) d_le ?_
   intro y8 hf; cbv
   refine d_b hS hf ?_ ?_
   ·intro hf; cbv
    exact d_x hk6 hf
   intro hf; cbv
   refine d_b hS hf ?_ ?_
   ·intro hf; cbv
    exact d_x hk6 hf
   intro hf; cbv
   refine d_b hS hf ?_ ?_
   ·intro hf; cbv
    exact d_x hk6 hf
   intro hf; cbv
   refine d_b hS hf ?_ ?_
   ·intro hf; cbv
    refine d_idx hS hM hf rfl d_e ?_
    intro x9 hf; cbv
    exact d_x hk6 hf
   intro hf; cbv
   exact d_x hk6 hf
  intro s5 hf; cbv
  refine d_br hS hf rfl ?_ ?_
  ·intro hf; cbv
   cases hf; exact hR _ (lp_eq rfl)
  intro hf; cbv
  refine d_p hS hf (fun _=>c121 hM) ?_
  intro y10 hf; cbv
  refine d_b hS hf ?_ ?_
  ·intro hf; cbv
   cases hf; exact hR _ (lp_eq rfl)
  intro hf; cbv
  exact d_x hk2 hf
 intro hf; cbv
 cases hf; exact hR _ (lp_eq rfl)
theorem o30 {M:EncM} (hM:M=mapE) {s:GState} {r:GState} (hf:state_Draws_o s=some r):Pv.FnS Tryz.prog glF 30 [.agg (eGState M s)] [] 0 (fun u s n=>u=.agg [.os 0 0 (M.n GPlayer r.players),.os 1 0 (M.n GObject r.objects),.os 2 0 (M.n Int r.battlefield),.os 3 0 (M.n Int r.exile),.os 4 0 (M.n GItem r.stack),.os 5 0 (M.n GWaiting r.waiting),.os 6 0 (M.n GCont r.conts),.si .i64 r.turn,.si .i64 r.active,.si .i64 r.step,.sb r.begun,.si .i64 r.priority,.si .i64 r.passes,.si .i64 r.nextId,.si .i64 r.nextStamp,.si .u64 r.seed,.os 7 0 (M.n Int r.extra),.si .i64 r.over,.si .i64 r.winner]∧s=[(0,some (.arr false 14 (M.m GPlayer (eGPlayer M) r.players))),(1,some (.arr false 19 (M.m GObject (eGObject M) r.objects))),(2,some (.arr false 1 (M.m Int (eI .i64) r.battlefield))),(3,some (.arr false 1 (M.m Int (eI .i64) r.exile))),(4,some (.arr false 94 (M.m GItem (eGItem M) r.stack))),(5,some (.arr false 89 (M.m GWaiting (eGWaiting M) r.waiting))),(6,some (.arr false 6 (M.m GCont (eGCont M) r.conts))),(7,some (.arr false 1 (M.m Int (eI .i64) r.extra)))]∧n=8):=by
 refine fnS_dec (T:=(tabx 0 [] [[(14,true),(19,true),(1,true),(1,true),(94,true),(89,true),(6,true),(0,false),(0,false),(0,false),(0,false),(0,false),(0,false),(0,false),(0,false),(0,false),(1,true),(0,false),(0,false)]])) (tabxOK 0 [] [[(14,true),(19,true),(1,true),(1,true),(94,true),(89,true),(6,true),(0,false),(0,false),(0,false),(0,false),(0,false),(0,false),(0,false),(0,false),(0,false),(1,true),(0,false),(0,false)]]) wf Tryz.func30 rfl Tryz.call30 rfl ?_
 intro S R hS hR
 have q:=sf hM hS
 unfold state_Draws_o at hf
 cbv
 refine d_callo hS hf (fun _=>o29 hM) (le_eq rfl) ?_
 intro y1 hf; cbv
 refine d_b hS hf ?_ ?_
 ·intro hf; cbv
  cases hf; exact hR _ _ _ d_st d_st rfl
 intro hf; cbv
 cases hf; exact hR _ _ _ d_st d_st rfl
theorem c43 {M:EncM} (hM:M=mapE) {p:Arr6 Int} {c:GCost} {r:Int} (hf:r39_MostX p c=some r):Pv.Fn Tryz.prog glF 43 [.agg [.si .i64 p.a0,.si .i64 p.a1,.si .i64 p.a2,.si .i64 p.a3,.si .i64 p.a4,.si .i64 p.a5],.agg (eGCost M c)] (fun u=>u=.si .i64 r):=by
 refine fn_dec (T:=(tabc [14])) (tabcOK [14]) rfl wf Tryz.func43 rfl Tryz.call43 rfl ?_
 intro S R hS hR
 have q:=sf hM hS
 unfold r39_MostX at hf
 cbv
 refine d_p hS hf (fun _=>c60 hM) ?_
 intro y1 hf; cbv
 refine d_b hS hf ?_ ?_
 ·intro hf; cbv
  cases hf; exact hR _ (lp_eq rfl)
 intro hf; cbv
 refine d_b hS hf ?_ ?_
 ·intro hf; cbv
  cases hf; exact hR _ (lp_eq rfl)
 intro hf; cbv
 refine d_lp hS (tabcOK [14]) wf [] [2,3,5,6] (fun s2=>⟨tpsL 0 31 [(2,.lv 0 0),(3,.lv 1 0),(5,.si .i64 s2.1),(6,.si .i64 s2.2)],[(0,some (.var false [.si .i64 p.a0,.si .i64 p.a1,.si .i64 p.a2,.si .i64 p.a3,.si .i64 p.a4,.si .i64 p.a5])),(1,some (.var false (eGCost M c)))],2⟩) hf ?_
 intro Ik3 k3 s2 hk3 hf e he; subst he
 unfold r39_MostX_l1 at hf
 cbv
 refine l_seq hS ?_; cbv
 refine d_b hS hf ?_ ?_
 ·intro hf; cbv
  refine d_div hS hf d_e rfl ?_
  intro x5 hf; cbv
  refine d_p hS hf (fun _=>c60 hM) ?_
  intro y6 hf; cbv
  refine d_br hS hf rfl ?_ ?_
  ·intro hf; cbv
   exact d_x hk3 hf
  intro hf; cbv
  exact d_x hk3 hf
 intro hf; cbv
 cases hf; exact hR _ (lp_eq rfl)
theorem c134 {M:EncM} (hM:M=mapE) {c:GChoice} {a:List Int} {r:Bool} (hf:ask_distinct c a=some r):Pv.Fn Tryz.prog glF 134 [.agg (eGChoice M c),.sl 1 (M.m Int (eI .i64) a) false] (fun u=>u=.sb r):=by
 refine fn_dec (T:=tab) tabOK rfl wf Tryz.func134 rfl Tryz.call134 rfl ?_
 intro S R hS hR
 have q:=sf hM hS
 unfold ask_distinct at hf
 cbv
 refine d_lp hS tabOK wf [.tO 5 1] [2,5,8,9,10] (fun s1=>⟨tpsL 0 32 [(2,.lv 0 0),(5,.os 1 0 (S.lenN (M.m Int (eI .i64) s1.2))),(8,.sl 1 (M.m Int (eI .i64) a) false),(9,.si .i64 (S.len (M.m Int (eI .i64) a))),(10,.si .i64 s1.1)],[(0,some (.var false (eGChoice M c))),(1,some (.arr false 1 (M.m Int (eI .i64) s1.2)))],2⟩) hf ?_
 intro Ik2 k2 s1 hk2 hf e he; subst he
 unfold ask_distinct_l1 at hf
 cbv
 refine d_b hS hf ?_ ?_
 ·intro hf; cbv
  refine d_idx hS hM hf rfl rfl ?_
  intro x4 hf; cbv
  refine d_idx hS hM hf rfl rfl ?_
  intro x5 hf; cbv
  refine d_callL hS hf (fun _=>c175 hM) d_le (fun _=>rfl) ?_
  intro y6 hf; cbv
  refine d_br hS hf rfl ?_ ?_
  ·intro hf; cbv
   cases hf; exact hR _ (lp_eq rfl)
  intro hf; cbv
  refine d_idx hS hM hf rfl rfl ?_
  intro x7 hf; cbv
  refine d_room hS hf d_e ?_
  intro hf; cbv
  exact d_x hk2 hf
 intro hf; cbv
 cases hf; exact hR _ (lp_eq rfl)
theorem c85 {M:EncM} (hM:M=mapE) {s:GState} {p:Int} {r:Int} (hf:state_After s p=some r):Pv.Fn Tryz.prog glF 85 [.agg (eGState M s),.si .i64 p] (fun u=>u=.si .i64 r):=by
 refine fn_dec (T:=tab) tabOK rfl wf Tryz.func85 rfl Tryz.call85 rfl ?_
 intro S R hS hR
 have q:=sf hM hS
 unfold state_After at hf
 cbv
 refine d_p hS hf (fun _=>c130 hM) ?_
 intro y1 hf; cbv
 refine d_b hS hf ?_ ?_
 ·intro hf; cbv
  refine d_idx hS hM hf rfl rfl ?_
  intro x2 hf; cbv
  cases hf; exact hR _ (lp_eq rfl)
 intro hf; cbv
 refine d_b hS hf ?_ ?_
 ·intro hf; cbv
  refine d_b hS hf ?_ ?_
  ·intro hf; cbv
   refine d_idx hS hM hf rfl rfl ?_
   intro x3 hf; cbv
   refine d_b hS hf ?_ ?_
   ·intro hf; cbv
    cases hf; exact hR _ (lp_eq rfl)
   intro hf; cbv
   cases hf; exact hR _ (lp_eq rfl)
  intro hf; cbv
  cases hf; exact hR _ (lp_eq rfl)
 intro hf; cbv
 cases hf; exact hR _ (lp_eq rfl)
theorem c36 {M:EncM} (hM:M=mapE) {s:GState} {p:Int} {r:Int} (hf:r26_After s p=some r):Pv.Fn Tryz.prog glF 36 [.agg (eGState M s),.si .i64 p] (fun u=>u=.si .i64 r):=by
 refine fn_dec (T:=tab) tabOK rfl wf Tryz.func36 rfl Tryz.call36 rfl ?_
 intro S R hS hR
 have q:=sf hM hS
 unfold r26_After at hf
 cbv
 refine d_p hS hf (fun _=>c90 hM) ?_
 intro y1 hf; cbv
 refine d_b hS hf ?_ ?_
 ·intro hf; cbv
  refine d_idx hS hM hf rfl rfl ?_
  intro x2 hf; cbv
  cases hf; exact hR _ (lp_eq rfl)
 intro hf; cbv
 refine d_p hS hf (fun _=>c66 hM) ?_
 intro y3 hf; cbv
 refine d_br hS hf rfl ?_ ?_
 ·intro hf; cbv
  refine d_idx hS hM hf rfl rfl ?_
  intro x4 hf; cbv
  refine d_b hS hf ?_ ?_
  ·intro hf; cbv
   cases hf; exact hR _ (lp_eq rfl)
  intro hf; cbv
  cases hf; exact hR _ (lp_eq rfl)
 intro hf; cbv
 cases hf; exact hR _ (lp_eq rfl)
theorem c240 {M:EncM} (hM:M=mapE) {i:Int} {r:ByteArray} (hf:r13_typeWord i=some r):Pv.Fn Tryz.prog glF 240 [.si .i64 i] (fun u=>u=.str r):=by
 refine fn_dec (T:=tab) tabOK rfl wf Tryz.func240 rfl Tryz.call240 rfl ?_
 intro S R hS hR
 have q:=sf hM hS
 unfold r13_typeWord at hf
 cbv
 refine d_lp hS tabOK wf [] [0,3,4] (fun s1=>⟨tpsL 0 14 [(0,.si .i64 i),(3,.si .i64 s1.1),(4,.si .i64 s1.2)],[],0⟩) hf ?_
 intro Ik2 k2 s1 hk2 hf e he; subst he
 unfold r13_typeWord_l1 at hf
 cbv
 refine d_b hS hf ?_ ?_
 ·intro hf; cbv
  exact d_x hk2 hf
 intro hf; cbv
 refine d_p hS hf (fun _=>c202 hM) ?_
 intro y4 hf; cbv
 cases hf; exact hR _ (lp_eq rfl)
theorem c228 {M:EncM} (hM:M=mapE) {p:Arr6 Int} {r:ByteArray} (hf:r08_PoolText p=some r):Pv.Fn Tryz.prog glF 228 [.agg [.si .i64 p.a0,.si .i64 p.a1,.si .i64 p.a2,.si .i64 p.a3,.si .i64 p.a4,.si .i64 p.a5]] (fun u=>u=.str r):=by
 refine fn_dec (T:=tab) tabOK rfl wf Tryz.func228 rfl Tryz.call228 rfl ?_
 intro S R hS hR
 have q:=sf hM hS
 unfold r08_PoolText at hf
 cbv
 refine d_p hS hf (fun _=>c249 hM) ?_
 intro y1 hf; cbv
 refine d_p hS hf (fun _=>c248 hM) ?_
 intro y2 hf; cbv
 cases hf; exact hR _ (lp_eq rfl)
theorem c91 {M:EncM} (hM:M=mapE) {x:Int} {c1:Arr6 Int} {c2:GCost} {r:Bool} (hf:cost_MostX_1 x c1 c2=some r):Pv.Fn Tryz.prog glF 91 [.si .i64 x,.pp [.si .i64 c1.a0,.si .i64 c1.a1,.si .i64 c1.a2,.si .i64 c1.a3,.si .i64 c1.a4,.si .i64 c1.a5],.pp (eGCost M c2)] (fun u=>u=.sb r):=by
 refine fn_dec (T:=tab) tabOK rfl wf Tryz.func91 rfl Tryz.call91 rfl ?_
 intro S R hS hR
 have q:=sf hM hS
 unfold cost_MostX_1 at hf
 cbv
 refine d_p hS hf (fun _=>c56 hM) ?_
 intro y1 hf; cbv
 cases hf; exact hR _ (lp_eq rfl)
theorem c32 {M:EncM} (hM:M=mapE) {s:GState} {r:Bool} (hf:turn_fighting s=some r):Pv.Fn Tryz.prog glF 32 [.agg (eGState M s)] (fun u=>u=.sb r):=by
 refine fn_dec (T:=tab) tabOK rfl wf Tryz.func32 rfl Tryz.call32 rfl ?_
 intro S R hS hR
 have q:=sf hM hS
 unfold turn_fighting at hf
 cbv
 refine d_p hS hf (fun _=>c86_0 hM) ?_
 intro y1 hf; cbv
 cases hf; exact hR _ (lp_eq rfl)
end Go.Proofs.YtddcpnlflncahaaGreat
