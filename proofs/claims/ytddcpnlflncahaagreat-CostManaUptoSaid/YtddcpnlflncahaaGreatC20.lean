import Derived.Test.YtddcpnlflncahaaGreatC19
set_option linter.all false
namespace Go.Proofs.YtddcpnlflncahaaGreat
open Go Go.Pv
set_option maxRecDepth 100000
set_option maxHeartbeats 2000000
theorem c159 {M:EncM} (hM:M=mapE) {pr:GReplace} {r:Bool} (hf:r19_Is pr=some r):Pv.Fn Tryz.prog glF 159 [.agg (eGReplace M pr)] (fun u=>u=.sb r):=by
 refine fn_dec (T:=(tabc [12,18])) (tabcOK [12,18]) rfl wf Tryz.func159 rfl Tryz.call159 rfl ?_
 intro S R hS hR
 have q:=sf hM hS
 unfold r19_Is at hf
 cbv
 refine d_b hS hf ?_ ?_
 ·intro hf; cbv
  refine d_p hS hf (fun _=>c195 hM) ?_
  intro y1 hf; cbv
  cases hf; exact hR _ (lp_eq rfl)
 intro hf; cbv
 refine d_p hS hf (fun _=>c196 hM) ?_
 intro y2 hf; cbv
 refine d_b hS hf ?_ ?_
 ·intro hf; cbv
  cases hf; exact hR _ (lp_eq rfl)
 intro hf; cbv
 replace hf:=d_lt hf
 refine d_cut hS [] [1,3,4] (fun s4=>⟨tpsL 0 127 [(1,.lv 0 0),(3,.sb s4.1),(4,.sb s4.2)],[(0,some (.var false (eGReplace M pr)))],1⟩) hf ?_ ?_
 ·intro Ik5 k5 hk5 hf; cbv
  refine d_b hS hf ?_ ?_
  ·intro hf; cbv
   exact d_x hk5 hf
  intro hf; cbv
  refine d_b hS hf ?_ ?_
  ·intro hf; cbv
   exact d_x hk5 hf
  intro hf; cbv
  exact d_x hk5 hf
 intro s4 hf; cbv
 refine d_b hS hf ?_ ?_
 ·intro hf; cbv
  refine d_cut hS [] [1,3,51] (fun s7=>⟨tpsL 0 127 [(1,.lv 0 0),(3,.sb s4.1),(51,.sb s7)],[(0,some (.var false (eGReplace M pr)))],1⟩) hf ?_ ?_
  ·intro Ik8 k8 hk8 hf; cbv
   refine d_b hS hf ?_ ?_
   ·intro hf; cbv
    refine d_b hS hf ?_ ?_
    ·intro hf; cbv
     refine d_b hS hf ?_ ?_
     ·intro hf; cbv
      exact d_x hk8 hf
     intro hf; cbv
     exact d_x hk8 hf
    intro hf; cbv
    exact d_x hk8 hf
   intro hf; cbv
   exact d_x hk8 hf
  intro s7 hf; cbv
  refine d_br hS hf rfl ?_ ?_
  ·intro hf; cbv
   cases hf; exact hR _ (lp_eq rfl)
  intro hf; cbv
  refine d_b hS hf ?_ ?_
  ·intro hf; cbv
   refine d_p hS hf (fun _=>c197 hM) ?_
   intro y10 hf; cbv
   refine d_br hS hf rfl ?_ ?_
   ·intro hf; cbv
    cases hf; exact hR _ (lp_eq rfl)
   intro hf; cbv
   refine d_b hS hf ?_ ?_
   ·intro hf; cbv
    cases hf; exact hR _ (lp_eq rfl)
   intro hf; cbv
   refine d_b hS hf ?_ ?_
   ·intro hf; cbv
    cases hf; exact hR _ (lp_eq rfl)
   intro hf; cbv
   cases hf; exact hR _ (lp_eq rfl)
  intro hf; cbv
  refine d_b hS hf ?_ ?_
  ·intro hf; cbv
   cases hf; exact hR _ (lp_eq rfl)
  intro hf; cbv
  refine d_b hS hf ?_ ?_
  ·intro hf; cbv
   cases hf; exact hR _ (lp_eq rfl)
  intro hf; cbv
  cases hf; exact hR _ (lp_eq rfl)
 intro hf; cbv
 refine d_b hS hf ?_ ?_
 ·intro hf; cbv
  refine d_br hS hf rfl ?_ ?_
  ·intro hf; cbv
   refine d_b hS hf ?_ ?_
   ·intro hf; cbv
    refine d_p hS hf (fun _=>c197 hM) ?_
    intro y11 hf; cbv
    cases hf; exact hR _ (lp_eq rfl)
   intro hf; cbv
   cases hf; exact hR _ (lp_eq rfl)
  intro hf; cbv
  cases hf; exact hR _ (lp_eq rfl)
 intro hf; cbv
 refine d_b hS hf ?_ ?_
 ·intro hf; cbv
  refine d_b hS hf ?_ ?_
  ·intro hf; cbv
   refine d_b hS hf ?_ ?_
   ·intro hf; cbv
    refine d_b hS hf ?_ ?_
    ·intro hf; cbv
     cases hf; exact hR _ (lp_eq rfl)
    intro hf; cbv
    cases hf; exact hR _ (lp_eq rfl)
   intro hf; cbv
   cases hf; exact hR _ (lp_eq rfl)
  intro hf; cbv
  refine d_b hS hf ?_ ?_
  ·intro hf; cbv
   refine d_b hS hf ?_ ?_
   ·intro hf; cbv
    refine d_b hS hf ?_ ?_
    ·intro hf; cbv
     cases hf; exact hR _ (lp_eq rfl)
    intro hf; cbv
    cases hf; exact hR _ (lp_eq rfl)
   intro hf; cbv
   cases hf; exact hR _ (lp_eq rfl)
  intro hf; cbv
  cases hf; exact hR _ (lp_eq rfl)
 intro hf; cbv
 refine d_b hS hf ?_ ?_
 ·intro hf; cbv
  refine d_br hS hf rfl ?_ ?_
  ·intro hf; cbv
   refine d_b hS hf ?_ ?_
   ·intro hf; cbv
    refine d_b hS hf ?_ ?_
    ·intro hf; cbv
     cases hf; exact hR _ (lp_eq rfl)
    intro hf; cbv
    cases hf; exact hR _ (lp_eq rfl)
   intro hf; cbv
   cases hf; exact hR _ (lp_eq rfl)
  intro hf; cbv
  cases hf; exact hR _ (lp_eq rfl)
 intro hf; cbv
 refine d_b hS hf ?_ ?_
 ·intro hf; cbv
  refine d_br hS hf rfl ?_ ?_
  ·intro hf; cbv
   refine d_b hS hf ?_ ?_
   ·intro hf; cbv
    refine d_b hS hf ?_ ?_
    ·intro hf; cbv
     cases hf; exact hR _ (lp_eq rfl)
    intro hf; cbv
    cases hf; exact hR _ (lp_eq rfl)
   intro hf; cbv
   cases hf; exact hR _ (lp_eq rfl)
  intro hf; cbv
  cases hf; exact hR _ (lp_eq rfl)
 intro hf; cbv
 refine d_b hS hf ?_ ?_
 ·intro hf; cbv
  refine d_br hS hf rfl ?_ ?_
  ·intro hf; cbv
   refine d_b hS hf ?_ ?_
   ·intro hf; cbv
    refine d_b hS hf ?_ ?_
    ·intro hf; cbv
     cases hf; exact hR _ (lp_eq rfl)
    intro hf; cbv
    cases hf; exact hR _ (lp_eq rfl)
   intro hf; cbv
   cases hf; exact hR _ (lp_eq rfl)
  intro hf; cbv
  cases hf; exact hR _ (lp_eq rfl)
 intro hf; cbv
 cases hf; exact hR _ (lp_eq rfl)
theorem s17 {M:EncM} (hM:M=mapE) {k:GAskAsker} {s:GState} {p:Int} {source:Int} {c:GCost} {r:GState × Int × Bool × GAskAsker} (hf:cost_Mana k s p source c=some r):Pv.FnS Tryz.prog glF 17 [.lv 0 0,.agg (eGState M s),.si .i64 p,.si .i64 source,.agg (eGCost M c)] [(0,some (.var false (eGAskAsker M k)))] 1 (fun u s n=>u=.tup [.agg [.os 1 0 (M.n GPlayer r.1.players),.os 2 0 (M.n GObject r.1.objects),.os 3 0 (M.n Int r.1.battlefield),.os 4 0 (M.n Int r.1.exile),.os 5 0 (M.n GItem r.1.stack),.os 6 0 (M.n GWaiting r.1.waiting),.os 7 0 (M.n GCont r.1.conts),.si .i64 r.1.turn,.si .i64 r.1.active,.si .i64 r.1.step,.sb r.1.begun,.si .i64 r.1.priority,.si .i64 r.1.passes,.si .i64 r.1.nextId,.si .i64 r.1.nextStamp,.si .u64 r.1.seed,.os 8 0 (M.n Int r.1.extra),.si .i64 r.1.over,.si .i64 r.1.winner],.si .i64 r.2.1,.sb r.2.2.1]∧s=[(0,some (.var false (eGAskAsker M r.2.2.2))),(1,some (.arr false 14 (M.m GPlayer (eGPlayer M) r.1.players))),(2,some (.arr false 19 (M.m GObject (eGObject M) r.1.objects))),(3,some (.arr false 1 (M.m Int (eI .i64) r.1.battlefield))),(4,some (.arr false 1 (M.m Int (eI .i64) r.1.exile))),(5,some (.arr false 94 (M.m GItem (eGItem M) r.1.stack))),(6,some (.arr false 89 (M.m GWaiting (eGWaiting M) r.1.waiting))),(7,some (.arr false 6 (M.m GCont (eGCont M) r.1.conts))),(8,some (.arr false 1 (M.m Int (eI .i64) r.1.extra)))]∧n=9):=by
 refine fnS_dec (T:=(tabx 1 [2,19] [[(14,true),(19,true),(1,true),(1,true),(94,true),(89,true),(6,true),(0,false),(0,false),(0,false),(0,false),(0,false),(0,false),(0,false),(0,false),(0,false),(1,true),(0,false),(0,false)],[(0,false)],[(0,false)]])) (tabxOK 1 [2,19] [[(14,true),(19,true),(1,true),(1,true),(94,true),(89,true),(6,true),(0,false),(0,false),(0,false),(0,false),(0,false),(0,false),(0,false),(0,false),(0,false),(1,true),(0,false),(0,false)],[(0,false)],[(0,false)]]) wf Tryz.func17 rfl Tryz.call17 rfl ?_
 intro S R hS hR
 have q:=sf hM hS
 unfold cost_Mana at hf
 cbv
 refine d_cut hS [] [0,2,3,6,9,10,25] (fun s1=>⟨tpsL 0 73 [(0,.lv 0 0),(2,.si .i64 p),(3,.si .i64 source),(6,.lv 1 0),(9,.lv 2 0),(10,.lv 3 0),(25,.sb s1)],[(0,some (.var false (eGAskAsker M k))),(1,some (.var false (eGState M s))),(2,some (.var false (eGCost M c))),(3,some (.var false [.sl 0 [] true,.sl 0 [] true,.sl 0 [] true,.sl 0 [] true,.sl 0 [] true,.sl 0 [] true,.sl 0 [] true,.si .i64 0,.si .i64 0,.si .i64 0,.sb false,.si .i64 0,.si .i64 0,.si .i64 0,.si .i64 0,.si .u64 0,.sl 0 [] true,.si .i64 0,.si .i64 0]))],4⟩) hf ?_ ?_
 ·intro Ik2 k2 hk2 hf; cbv
  refine d_b hS hf ?_ ?_
  ·intro hf; cbv
   exact d_x hk2 hf
  intro hf; cbv
  exact d_x hk2 hf
 intro s1 hf; cbv
 refine d_br hS hf rfl ?_ ?_
 ·intro hf; cbv
  refine d_callo hS hf (fun _=>o29 hM) (le_eq rfl) ?_
  intro y4 hf; cbv
  cases hf; exact hR _ _ _ d_st d_st rfl
 intro hf; cbv
 refine d_o hS ?_; cbv
 refine d_idx hS hM hf rfl rfl ?_
 intro x5 hf; cbv
 refine d_c hS hf (fun _=>c38 hM) ?_
 intro y6 hf; cbv
 refine d_b hS hf ?_ ?_
 ·intro hf; cbv
  refine d_callo hS hf (fun _=>o29 hM) (le_eq rfl) ?_
  intro y7 hf; cbv
  cases hf; exact hR _ _ _ d_st d_st rfl
 intro hf; cbv
 refine d_cut hS [] [2,6,9,10,14] (fun s8=>⟨tpsL 0 73 [(2,.si .i64 p),(6,.lv 1 0),(9,.lv 2 0),(10,.lv 3 0),(14,.si .i64 s8.2)],[(0,some (.var false (eGAskAsker M s8.1))),(1,some (.var false (eGState M s))),(2,some (.var false (eGCost M c))),(3,some (.var false [.sl 0 [] true,.sl 0 [] true,.sl 0 [] true,.sl 0 [] true,.sl 0 [] true,.sl 0 [] true,.sl 0 [] true,.si .i64 0,.si .i64 0,.si .i64 0,.sb false,.si .i64 0,.si .i64 0,.si .i64 0,.si .i64 0,.si .u64 0,.sl 0 [] true,.si .i64 0,.si .i64 0]))],4⟩) hf ?_ ?_
 ·intro Ik9 k9 hk9 hf; cbv
  refine d_b hS hf ?_ ?_
  ·intro hf; cbv
   refine d_callS hS hf (fun _=>s41 hM) d_st d_st rfl rfl rfl rfl ?_
   intro y11 hf; cbv
   refine d_idx hS hM hf rfl rfl ?_
   intro x12 hf; cbv
   exact d_x hk9 hf
  intro hf; cbv
  exact d_x hk9 hf
 intro s8 hf; cbv
 refine d_o hS ?_; cbv
 refine d_idx hS hM hf rfl rfl ?_
 intro x13 hf; cbv
 refine d_c hS hf (fun _=>c42 hM) ?_
 intro y14 hf; cbv
 refine d_callo hS hf (fun _=>o29 hM) (le_eq rfl) ?_
 intro y15 hf; cbv
 refine d_ix hS hf d_e rfl ?_
 intro j16 _ hf; cbv
 refine d_row hS hM hf rfl d_e ?_
 intro x17 hf; cbv
 cases hf; exact hR _ _ _ d_st d_st rfl
theorem c9 {M:EncM} (hM:M=mapE)  {r:Bool} (hf:law48_alive =some r):Pv.Fn Tryz.prog glF 9 [] (fun u=>u=.sb r):=by
 refine fn_dec (T:=tab) tabOK rfl wf Tryz.func9 rfl Tryz.call9 rfl ?_
 intro S R hS hR
 have q:=sf hM hS
 unfold law48_alive at hf
 cbv
 refine d_wkx hS [.si .i64 20,.si .i64 0,.si .i64 0,.si .i64 3,.si .i64 0,.si .i64 0,.si .i64 0,.si .i64 0,.si .i64 0,.sb false,.sb false,.sl 1 (M.m Int (eI .i64) ([])) false,.sl 1 (M.m Int (eI .i64) ([])) false,.sl 1 (M.m Int (eI .i64) ([])) false,.si .i64 20,.si .i64 0,.si .i64 0,.si .i64 0,.si .i64 0,.si .i64 0,.si .i64 0,.si .i64 0,.si .i64 0,.sb false,.sb false,.sl 1 (M.m Int (eI .i64) ([])) false,.sl 1 (M.m Int (eI .i64) ([])) false,.sl 1 (M.m Int (eI .i64) ([])) false] d_st ?_; cbv
 refine d_callF hS hf (fun _=>c11 hM) d_st ?_
 intro y1 hf; cbv
 refine d_wkx hS [.si .i64 1,.si .i64 0] (by (try simp only [q]); repeat' constructor) ?_; cbv
 refine d_callF hS hf (fun _=>c11 hM) d_st ?_
 intro y2 hf; cbv
 refine d_p hS hf (fun _=>c11 hM) ?_
 intro y3 hf; cbv
 refine d_b hS hf ?_ ?_
 ·intro hf; cbv
  refine d_b hS hf ?_ ?_
  ·intro hf; cbv
   refine d_b hS hf ?_ ?_
   ·intro hf; cbv
    refine d_b hS hf ?_ ?_
    ·intro hf; cbv
     refine d_b hS hf ?_ ?_
     ·intro hf; cbv
      refine d_idx hS hM hf rfl rfl ?_
      intro x4 hf; cbv
      replace hf:=d_lt hf
      refine d_b hS hf ?_ ?_
      ·intro hf; cbv
       refine d_b hS hf ?_ ?_
       ·intro hf; cbv
        refine d_b hS hf ?_ ?_
        ·intro hf; cbv
         refine d_b hS hf ?_ ?_
         ·intro hf; cbv
          refine d_wk hS (e:=(eI .i64)) hf (by (try simp only [q]); repeat' constructor) ?_
          intro x6 hf; cbv
          refine d_callL hS hf (fun _=>c25 hM) d_le (fun _=>rfl) ?_
          intro y7 hf; cbv
          refine d_br hS hf rfl ?_ ?_
          ·intro hf; cbv
           refine d_b hS hf ?_ ?_
           ·intro hf; cbv
            refine d_p hS hf (fun _=>c26 hM) ?_
            intro y8 hf; cbv
            refine d_b hS hf ?_ ?_
            ·intro hf; cbv
             refine d_p hS hf (fun _=>c27 hM) ?_
             intro y9 hf; cbv
             refine d_br hS hf rfl ?_ ?_
             ·intro hf; cbv
              refine d_p hS hf (fun _=>c27 hM) ?_
              intro y10 hf; cbv
              cases hf; exact hR _ d_l
             intro hf; cbv
             cases hf; exact hR _ (lp_eq rfl)
            intro hf; cbv
            cases hf; exact hR _ (lp_eq rfl)
           intro hf; cbv
           cases hf; exact hR _ (lp_eq rfl)
          intro hf; cbv
          cases hf; exact hR _ (lp_eq rfl)
         intro hf; cbv
         cases hf; exact hR _ (lp_eq rfl)
        intro hf; cbv
        cases hf; exact hR _ (lp_eq rfl)
       intro hf; cbv
       cases hf; exact hR _ (lp_eq rfl)
      intro hf; cbv
      cases hf; exact hR _ (lp_eq rfl)
     intro hf; cbv
     cases hf; exact hR _ (lp_eq rfl)
    intro hf; cbv
    cases hf; exact hR _ (lp_eq rfl)
   intro hf; cbv
   cases hf; exact hR _ (lp_eq rfl)
  intro hf; cbv
  cases hf; exact hR _ (lp_eq rfl)
 intro hf; cbv
 cases hf; exact hR _ (lp_eq rfl)
theorem c10 {M:EncM} (hM:M=mapE) {a:GState} {b:GState} {r:Bool} (hf:r26_Same a b=some r):Pv.Fn Tryz.prog glF 10 [.agg (eGState M a),.agg (eGState M b)] (fun u=>u=.sb r):=by
 refine fn_dec (T:=(tabc [2])) (tabcOK [2]) rfl wf Tryz.func10 rfl Tryz.call10 rfl ?_
 intro S R hS hR
 have q:=sf hM hS
 unfold r26_Same at hf
 cbv
 refine d_cut hS [] [2,3,79] (fun s1=>⟨tpsL 0 104 [(2,.lv 0 0),(3,.lv 1 0),(79,.sb s1)],[(0,some (.var false (eGState M a))),(1,some (.var false (eGState M b)))],2⟩) hf ?_ ?_
 ·intro Ik2 k2 hk2 hf; cbv
  refine d_b hS hf ?_ ?_
  ·intro hf; cbv
   exact d_x hk2 hf
  intro hf; cbv
  refine d_b hS hf ?_ ?_
  ·intro hf; cbv
   exact d_x hk2 hf
  intro hf; cbv
  refine d_b hS hf ?_ ?_
  ·intro hf; cbv
   exact d_x hk2 hf
  intro hf; cbv
  refine d_b hS hf ?_ ?_
  ·intro hf; cbv
   exact d_x hk2 hf
  intro hf; cbv
  refine d_b hS hf ?_ ?_
  ·intro hf; cbv
   exact d_x hk2 hf
  intro hf; cbv
  refine d_b hS hf ?_ ?_
  ·intro hf; cbv
   exact d_x hk2 hf
  intro hf; cbv
  refine d_b hS hf ?_ ?_
  ·intro hf; cbv
   exact d_x hk2 hf
  intro hf; cbv
  refine d_b hS hf ?_ ?_
  ·intro hf; cbv
   exact d_x hk2 hf
  intro hf; cbv
  refine d_b hS hf ?_ ?_
  ·intro hf; cbv
   exact d_x hk2 hf
  intro hf; cbv
  refine d_b hS hf ?_ ?_
  ·intro hf; cbv
   exact d_x hk2 hf
  intro hf; cbv
  exact d_x hk2 hf
 intro s1 hf; cbv
 refine d_br hS hf rfl ?_ ?_
 ·intro hf; cbv
  cases hf; exact hR _ (lp_eq rfl)
 intro hf; cbv
 refine d_p hS hf (fun _=>c28 hM) ?_
 intro y4 hf; cbv
 refine d_br hS hf rfl ?_ ?_
 ·intro hf; cbv
  refine d_p hS hf (fun _=>c25 hM) ?_
  intro y5 hf; cbv
  refine d_br hS hf rfl ?_ ?_
  ·intro hf; cbv
   refine d_p hS hf (fun _=>c25 hM) ?_
   intro y6 hf; cbv
   refine d_br hS hf rfl ?_ ?_
   ·intro hf; cbv
    refine d_p hS hf (fun _=>c25 hM) ?_
    intro y7 hf; cbv
    cases hf; exact hR _ (lp_eq rfl)
   intro hf; cbv
   cases hf; exact hR _ (lp_eq rfl)
  intro hf; cbv
  cases hf; exact hR _ (lp_eq rfl)
 intro hf; cbv
 cases hf; exact hR _ (lp_eq rfl)
theorem c124 {M:EncM} (hM:M=mapE) {l:List GMod} {r:ByteArray} (hf:r15_ListText l=some r):Pv.Fn Tryz.prog glF 124 [.sl 20 (M.m GMod (eGMod M) l) false] (fun u=>u=.str r):=by
 refine fn_dec (T:=(tabc [2,13,23])) (tabcOK [2,13,23]) rfl wf Tryz.func124 rfl Tryz.call124 rfl ?_
 intro S R hS hR
 have q:=sf hM hS
 unfold r15_ListText at hf
 cbv
 refine d_cut hS [] [0,12] (fun s1=>⟨tpsL 0 37 [(0,.sl 20 (M.m GMod (eGMod M) l) false),(12,.sb s1)],[],0⟩) hf ?_ ?_
 ·intro Ik2 k2 hk2 hf; cbv
  refine d_b hS hf ?_ ?_
  ·intro hf; cbv
   exact d_x hk2 hf
  intro hf; cbv
  exact d_x hk2 hf
 intro s1 hf; cbv
 refine d_br hS hf rfl ?_ ?_
 ·intro hf; cbv
  cases hf; exact hR _ (lp_eq rfl)
 intro hf; cbv
 refine d_lp hS (tabcOK [2,13,23]) wf [] [0,3,4] (fun s4=>⟨tpsL 0 37 [(0,.sl 20 (M.m GMod (eGMod M) l) false),(3,.str s4.1),(4,.si .i64 s4.2)],[],0⟩) hf ?_
 intro Ik5 k5 s4 hk5 hf e he; subst he
 unfold r15_ListText_l1 at hf
 cbv
 refine d_b hS hf ?_ ?_
 ·intro hf; cbv
  refine d_cut hS [] [0,3,4] (fun s7=>⟨tpsL 0 37 [(0,.sl 20 (M.m GMod (eGMod M) l) false),(3,.str s7),(4,.si .i64 s4.2)],[],0⟩) hf ?_ ?_
  ·intro Ik8 k8 hk8 hf; cbv
   refine d_idx hS hM hf rfl rfl ?_
   intro x10 hf; cbv
   refine d_p hS hf (fun _=>c169 hM) ?_
   intro y11 hf; cbv
   refine d_b hS hf ?_ ?_
   ·intro hf; cbv
    cases hf; exact hR _ (lp_eq rfl)
   intro hf; cbv
   refine d_cut hS [] [0,3,4] (fun s12=>⟨tpsL 0 37 [(0,.sl 20 (M.m GMod (eGMod M) l) false),(3,.str s12),(4,.si .i64 s4.2)],[],0⟩) hf ?_ ?_
   ·intro Ik13 k13 hk13 hf; cbv
    refine d_b hS hf ?_ ?_
    ·intro hf; cbv
     refine d_cat hS hf rfl rfl ?_
     intro x15 hf; cbv
     exact d_x hk13 hf
    intro hf; cbv
    exact d_x hk13 hf
   intro s12 hf; cbv
   refine d_idx hS hM hf rfl rfl ?_
   intro x16 hf; cbv
   refine d_p hS hf (fun _=>c170 hM) ?_
   intro y17 hf; cbv
   refine d_cat hS hf rfl rfl ?_
   intro x18 hf; cbv
   exact d_x hk8 hf
  intro s7 hf; cbv
  exact d_x hk5 hf
 intro hf; cbv
 cases hf; exact hR _ (lp_eq rfl)
end Go.Proofs.YtddcpnlflncahaaGreat
