import Derived.Test.YtlacmdnhabblcaaGreatX11
set_option linter.all false
namespace Go.Proofs.YtlacmdnhabblcaaGreat
open Go Go.Pv
set_option maxRecDepth 100000
set_option maxHeartbeats 2000000
theorem c28 {M:EncM} (hM:M=mapE) {need:List Int} {l:List Int} {sum:Int} {trample:Bool} {r:Bool} (hf:r47_Legal need l sum trample=some r):Pv.Fn Tryz.prog glF 28 [.sl 1 (M.m Int (eI .i64) need) false,.sl 1 (M.m Int (eI .i64) l) false,.si .i64 sum,.sb trample] (fun u=>u=.sb r):=by
 refine fn_dec (T:=(tabc [9,21,22,28])) (tabcOK [9,21,22,28]) rfl wf Tryz.func28 rfl Tryz.call28 rfl ?_
 intro S R hS hR
 have q:=sf hM hS
 unfold r47_Legal at hf
 cbv
 refine d_cut hS [] [0,1,2,9] (fun s1=>⟨tpsL 0 76 [(0,.sl 1 (M.m Int (eI .i64) need) false),(1,.sl 1 (M.m Int (eI .i64) l) false),(2,.si .i64 sum),(9,.si .i64 s1)],[],0⟩) hf ?_ ?_
 ·intro Ik2 k2 hk2 hf; cbv
  refine d_br hS hf rfl ?_ ?_
  ·intro hf; cbv
   exact d_x hk2 hf
  intro hf; cbv
  exact d_x hk2 hf
 intro s1 hf; cbv
 refine d_b hS hf ?_ ?_
 ·intro hf; cbv
  cases hf; exact hR _ (lp_eq rfl)
 intro hf; cbv
 refine d_lp hS (tabcOK [9,21,22,28]) wf [] [0,1,10,11,12] (fun s4=>⟨tpsL 0 76 [(0,.sl 1 (M.m Int (eI .i64) need) false),(1,.sl 1 (M.m Int (eI .i64) l) false),(10,.si .i64 s4.1),(11,.sb s4.2.1),(12,.si .i64 s4.2.2)],[],0⟩) hf ?_
 intro Ik5 k5 s4 hk5 hf e he; subst he
 unfold r47_Legal_l1 at hf
 cbv
 refine d_b hS hf ?_ ?_
 ·intro hf; cbv
  refine d_cut hS [] [0,1,10,11,12] (fun s7=>⟨tpsL 0 76 [(0,.sl 1 (M.m Int (eI .i64) need) false),(1,.sl 1 (M.m Int (eI .i64) l) false),(10,.si .i64 s7.1),(11,.sb s7.2),(12,.si .i64 s4.2.2)],[],0⟩) hf ?_ ?_
  ·intro Ik8 k8 hk8 hf; cbv
   refine d_cut hS [] [0,1,10,11,12,52] (fun s10=>⟨tpsL 0 76 [(0,.sl 1 (M.m Int (eI .i64) need) false),(1,.sl 1 (M.m Int (eI .i64) l) false),(10,.si .i64 s4.1),(11,.sb s4.2.1),(12,.si .i64 s4.2.2),(52,.sb s10)],[],0⟩) hf ?_ ?_
   ·intro Ik11 k11 hk11 hf; cbv
    refine d_idx hS hM hf rfl rfl ?_
    intro x13 hf; cbv
    refine d_b hS hf ?_ ?_
    ·intro hf; cbv
     exact d_x hk11 hf
    intro hf; cbv
    refine d_idx hS hM hf rfl rfl ?_
    intro x14 hf; cbv
    refine d_b hS hf ?_ ?_
    ·intro hf; cbv
     exact d_x hk11 hf
    intro hf; cbv
    refine d_idx hS hM hf rfl rfl ?_
    intro x15 hf; cbv
    refine d_b hS hf ?_ ?_
    ·intro hf; cbv
     exact d_x hk11 hf
    intro hf; cbv
    exact d_x hk11 hf
   intro s10 hf; cbv
   refine d_br hS hf rfl ?_ ?_
   ·intro hf; cbv
    cases hf; exact hR _ (lp_eq rfl)
   intro hf; cbv
   refine d_idx hS hM hf rfl rfl ?_
   intro x16 hf; cbv
   refine d_cut hS [] [0,1,10,11,12,73] (fun s17=>⟨tpsL 0 76 [(0,.sl 1 (M.m Int (eI .i64) need) false),(1,.sl 1 (M.m Int (eI .i64) l) false),(10,.si .i64 (S.bin .sub .i64 s4.1 x16)),(11,.sb s4.2.1),(12,.si .i64 s4.2.2),(73,.sb s17)],[],0⟩) hf ?_ ?_
   ·intro Ik18 k18 hk18 hf; cbv
    refine d_o hS ?_; cbv
    refine d_b hS hf ?_ ?_
    ·intro hf; cbv
     refine d_idx hS hM hf rfl rfl ?_
     intro x20 hf; cbv
     refine d_idx hS hM hf rfl rfl ?_
     intro x21 hf; cbv
     exact d_x hk18 hf
    intro hf; cbv
    exact d_x hk18 hf
   intro s17 hf; cbv
   refine d_br hS hf rfl ?_ ?_
   ·intro hf; cbv
    exact d_x hk8 hf
   intro hf; cbv
   exact d_x hk8 hf
  intro s7 hf; cbv
  exact d_x hk5 hf
 intro hf; cbv
 cases hf; exact hR _ d_l
theorem c33 {M:EncM} (hM:M=mapE) {s:GState} {a:Int} {r:List Int} (hf:combat_Blockers s a=some r):Pv.Fn Tryz.prog glF 33 [.agg (eGState M s),.si .i64 a] (fun u=>u=.sl 1 (M.m Int (eI .i64) r) false):=by
 refine fn_dec (T:=(tabc [10,15])) (tabcOK [10,15]) rfl wf Tryz.func33 rfl Tryz.call33 rfl ?_
 intro S R hS hR
 have q:=sf hM hS
 unfold combat_Blockers at hf
 cbv
 refine d_lp hS (tabcOK [10,15]) wf [.tO 5 1] [1,5,9,10,11] (fun s1=>⟨tpsL 0 31 [(1,.si .i64 a),(5,.os 0 0 (S.lenN (M.m Int (eI .i64) s1.2))),(9,.sl 19 (M.m GObject (eGObject M) s.objects) false),(10,.si .i64 (S.len (M.m GObject (eGObject M) s.objects))),(11,.si .i64 s1.1)],[(0,some (.arr false 1 (M.m Int (eI .i64) s1.2)))],1⟩) hf ?_
 intro Ik2 k2 s1 hk2 hf e he; subst he
 unfold combat_Blockers_l1 at hf
 cbv
 refine d_b hS hf ?_ ?_
 ·intro hf; cbv
  refine d_cut hS [.tO 5 1] [1,5,9,10,11] (fun s4=>⟨tpsL 0 31 [(1,.si .i64 a),(5,.os 0 0 (S.lenN (M.m Int (eI .i64) s4))),(9,.sl 19 (M.m GObject (eGObject M) s.objects) false),(10,.si .i64 (S.len (M.m GObject (eGObject M) s.objects))),(11,.si .i64 s1.1)],[(0,some (.arr false 1 (M.m Int (eI .i64) s4)))],1⟩) hf ?_ ?_
  ·intro Ik5 k5 hk5 hf; cbv
   refine d_idx hS hM hf rfl rfl ?_
   intro x7 hf; cbv
   refine d_cut hS [] [1,5,7,9,10,11,23] (fun s8=>⟨tpsL 0 31 [(1,.si .i64 a),(5,.os 0 0 (S.lenN (M.m Int (eI .i64) s1.2))),(7,.lv 1 0),(9,.sl 19 (M.m GObject (eGObject M) s.objects) false),(10,.si .i64 (S.len (M.m GObject (eGObject M) s.objects))),(11,.si .i64 s1.1),(23,.sb s8)],[(0,some (.arr false 1 (M.m Int (eI .i64) s1.2))),(1,some (.var false (eGObject M x7)))],2⟩) hf ?_ ?_
   ·intro Ik9 k9 hk9 hf; cbv
    refine d_b hS hf ?_ ?_
    ·intro hf; cbv
     exact d_x hk9 hf
    intro hf; cbv
    exact d_x hk9 hf
   intro s8 hf; cbv
   refine d_br hS hf rfl ?_ ?_
   ·intro hf; cbv
    refine d_room hS hf d_e ?_
    intro hf; cbv
    exact d_x hk5 hf
   intro hf; cbv
   exact d_x hk5 hf
  intro s4 hf; cbv
  exact d_x hk2 hf
 intro hf; cbv
 cases hf; exact hR _ d_l
theorem c34 {M:EncM} (hM:M=mapE) {s:GState} {a:Int} {r:List Int} (hf:r47_Blockers s a=some r):Pv.Fn Tryz.prog glF 34 [.agg (eGState M s),.si .i64 a] (fun u=>u=.sl 1 (M.m Int (eI .i64) r) false):=by
 refine fn_dec (T:=(tabc [9,10])) (tabcOK [9,10]) rfl wf Tryz.func34 rfl Tryz.call34 rfl ?_
 intro S R hS hR
 have q:=sf hM hS
 unfold r47_Blockers at hf
 cbv
 refine d_lp hS (tabcOK [9,10]) wf [.tO 5 1] [1,2,5,6] (fun s1=>⟨tpsL 0 41 [(1,.si .i64 a),(2,.lv 0 0),(5,.os 1 0 (S.lenN (M.m Int (eI .i64) s1.2))),(6,.si .i64 s1.1)],[(0,some (.var false (eGState M s))),(1,some (.arr false 1 (M.m Int (eI .i64) s1.2)))],2⟩) hf ?_
 intro Ik2 k2 s1 hk2 hf e he; subst he
 unfold r47_Blockers_l1 at hf
 cbv
 refine d_b hS hf ?_ ?_
 ·intro hf; cbv
  refine d_cut hS [.tO 5 1] [1,2,5,6] (fun s4=>⟨tpsL 0 41 [(1,.si .i64 a),(2,.lv 0 0),(5,.os 1 0 (S.lenN (M.m Int (eI .i64) s4))),(6,.si .i64 s1.1)],[(0,some (.var false (eGState M s))),(1,some (.arr false 1 (M.m Int (eI .i64) s4)))],2⟩) hf ?_ ?_
  ·intro Ik5 k5 hk5 hf; cbv
   refine d_cut hS [] [1,2,5,6,30] (fun s7=>⟨tpsL 0 41 [(1,.si .i64 a),(2,.lv 0 0),(5,.os 1 0 (S.lenN (M.m Int (eI .i64) s1.2))),(6,.si .i64 s1.1),(30,.sb s7)],[(0,some (.var false (eGState M s))),(1,some (.arr false 1 (M.m Int (eI .i64) s1.2)))],2⟩) hf ?_ ?_
   ·intro Ik8 k8 hk8 hf; cbv
    refine d_idx hS hM hf rfl rfl ?_
    intro x10 hf; cbv
    refine d_b hS hf ?_ ?_
    ·intro hf; cbv
     refine d_idx hS hM hf rfl rfl ?_
     intro x11 hf; cbv
     exact d_x hk8 hf
    intro hf; cbv
    exact d_x hk8 hf
   intro s7 hf; cbv
   refine d_br hS hf rfl ?_ ?_
   ·intro hf; cbv
    refine d_idx hS hM hf rfl rfl ?_
    intro x12 hf; cbv
    refine d_room hS hf d_e ?_
    intro hf; cbv
    exact d_x hk5 hf
   intro hf; cbv
   exact d_x hk5 hf
  intro s4 hf; cbv
  exact d_x hk2 hf
 intro hf; cbv
 cases hf; exact hR _ d_l
theorem c215 {M:EncM} (hM:M=mapE) {pe:GEffect} {r:Bool} (hf:r17_Light pe=some r):Pv.Fn Tryz.prog glF 215 [.agg (eGEffect M pe)] (fun u=>u=.sb r):=by
 refine fn_dec (T:=(tabc [2,12])) (tabcOK [2,12]) rfl wf Tryz.func215 rfl Tryz.call215 rfl ?_
 intro S R hS hR
 have q:=sf hM hS
 unfold r17_Light at hf
 cbv
 refine d_cut hS [] [1,36] (fun s1=>⟨tpsL 0 63 [(1,.lv 0 0),(36,.sb s1)],[(0,some (.var false (eGEffect M pe)))],1⟩) hf ?_ ?_
 ·intro Ik2 k2 hk2 hf; cbv
  refine d_b hS hf ?_ ?_
  ·intro hf; cbv
   exact d_x hk2 hf
  intro hf; cbv
  refine d_b hS hf ?_ ?_
  ·intro hf; cbv
   exact d_x hk2 hf
  intro hf; cbv
  refine d_b hS hf ?_ ?_
  ·intro hf; cbv
   exact d_x hk2 hf
  intro hf; cbv
  refine d_b hS hf ?_ ?_
  ·intro hf; cbv
   exact d_x hk2 hf
  intro hf; cbv
  exact d_x hk2 hf
 intro s1 hf; cbv
 refine d_br hS hf rfl ?_ ?_
 ·intro hf; cbv
  cases hf; exact hR _ (lp_eq rfl)
 intro hf; cbv
 refine d_lp hS (tabcOK [2,12]) wf [] [1,3] (fun s4=>⟨tpsL 0 63 [(1,.lv 0 0),(3,.si .i64 s4)],[(0,some (.var false (eGEffect M pe)))],1⟩) hf ?_
 intro Ik5 k5 s4 hk5 hf e he; subst he
 unfold r17_Light_l1 at hf
 cbv
 refine d_b hS hf ?_ ?_
 ·intro hf; cbv
  refine d_cut hS [] [1,3,62] (fun s7=>⟨tpsL 0 63 [(1,.lv 0 0),(3,.si .i64 s4),(62,.sb s7)],[(0,some (.var false (eGEffect M pe)))],1⟩) hf ?_ ?_
  ·intro Ik8 k8 hk8 hf; cbv
   refine d_idx hS hM hf rfl rfl ?_
   intro x10 hf; cbv
   refine d_b hS hf ?_ ?_
   ·intro hf; cbv
    exact d_x hk8 hf
   intro hf; cbv
   refine d_idx hS hM hf rfl rfl ?_
   intro x11 hf; cbv
   exact d_x hk8 hf
  intro s7 hf; cbv
  refine d_br hS hf rfl ?_ ?_
  ·intro hf; cbv
   cases hf; exact hR _ (lp_eq rfl)
  intro hf; cbv
  exact d_x hk5 hf
 intro hf; cbv
 cases hf; exact hR _ (lp_eq rfl)
theorem c32 {M:EncM} (hM:M=mapE) {a:List Int} {b:List Int} {r:Bool} (hf:r03_Same a b=some r):Pv.Fn Tryz.prog glF 32 [.sl 1 (M.m Int (eI .i64) a) false,.sl 1 (M.m Int (eI .i64) b) false] (fun u=>u=.sb r):=by
 refine fn_dec (T:=tab) tabOK rfl wf Tryz.func32 rfl Tryz.call32 rfl ?_
 intro S R hS hR
 have q:=sf hM hS
 unfold r03_Same at hf
 cbv
 refine d_b hS hf ?_ ?_
 ·intro hf; cbv
  cases hf; exact hR _ (lp_eq rfl)
 intro hf; cbv
 refine d_lp hS tabOK wf [] [0,1,5] (fun s1=>⟨tpsL 0 26 [(0,.sl 1 (M.m Int (eI .i64) a) false),(1,.sl 1 (M.m Int (eI .i64) b) false),(5,.si .i64 s1)],[],0⟩) hf ?_
 intro Ik2 k2 s1 hk2 hf e he; subst he
 unfold r03_Same_l1 at hf
 cbv
 refine d_b hS hf ?_ ?_
 ·intro hf; cbv
  refine d_o hS ?_; cbv
  refine d_idx hS hM hf rfl rfl ?_
  intro x4 hf; cbv
  refine d_idx hS hM hf rfl rfl ?_
  intro x5 hf; cbv
  refine d_b hS hf ?_ ?_
  ·intro hf; cbv
   cases hf; exact hR _ (lp_eq rfl)
  intro hf; cbv
  exact d_x hk2 hf
 intro hf; cbv
 cases hf; exact hR _ (lp_eq rfl)
theorem z73_0 {M:EncM} (hM:M=mapE) {x:Int} {c1:Int} {r:Bool × Int} (hf:combat_Legal_1_z0 x c1=some r):Pv.FnS Tryz.prog glF 73 [.si .i64 x,.lv 0 0] [(0,some (.var false [.si .i64 c1]))] 1 (fun u s n=>u=.sb r.1∧s=[(0,some (.var false [.si .i64 r.2]))]∧n=1):=by
 refine fnS_decC (T:=(tabx 1 [] [])) (tabxOK 1 [] []) wf Tryz.func73 rfl Tryz.call73 rfl [] ?_
 intro S R hS hR
 have q:=sf hM hS
 unfold combat_Legal_1_z0 at hf
 cbv
 refine d_b hS hf ?_ ?_
 ·intro hf; cbv
  cases hf; exact hR _ _ _ (by (try simp only [q]); repeat' constructor) (by (try simp only [q]); repeat' constructor) rfl
 intro hf; cbv
 refine d_b hS hf ?_ ?_
 ·intro hf; cbv
  cases hf; exact hR _ _ _ (by (try simp only [q]); repeat' constructor) (by (try simp only [q]); repeat' constructor) rfl
 intro hf; cbv
 cases hf; exact hR _ _ _ (by (try simp only [q]); repeat' constructor) (by (try simp only [q]); repeat' constructor) rfl
theorem c146 {M:EncM} (hM:M=mapE) {n:Int} {r:Int} (hf:r01_Clamp n=some r):Pv.Fn Tryz.prog glF 146 [.si .i64 n] (fun u=>u=.si .i64 r):=by
 refine fn_dec (T:=tab) tabOK rfl wf Tryz.func146 rfl Tryz.call146 rfl ?_
 intro S R hS hR
 have q:=sf hM hS
 unfold r01_Clamp at hf
 cbv
 refine d_b hS hf ?_ ?_
 ·intro hf; cbv
  cases hf; exact hR _ (lp_eq rfl)
 intro hf; cbv
 refine d_b hS hf ?_ ?_
 ·intro hf; cbv
  cases hf; exact hR _ (lp_eq rfl)
 intro hf; cbv
 cases hf; exact hR _ (lp_eq rfl)
theorem c57 {M:EncM} (hM:M=mapE) {mask:Int} {bit:Int} {r:Bool} (hf:r46_has mask bit=some r):Pv.Fn Tryz.prog glF 57 [.si .i64 mask,.si .i64 bit] (fun u=>u=.sb r):=by
 refine fn_dec (T:=tab) tabOK rfl wf Tryz.func57 rfl Tryz.call57 rfl ?_
 intro S R hS hR
 have q:=sf hM hS
 unfold r46_has at hf
 cbv
 refine d_div hS hf rfl rfl ?_
 intro x1 hf; cbv
 refine d_div hS hf rfl rfl ?_
 intro x2 hf; cbv
 cases hf; exact hR _ d_l
theorem c56 {M:EncM} (hM:M=mapE) {mask:Int} {key:Int} {r:Bool} (hf:keyword_Has mask key=some r):Pv.Fn Tryz.prog glF 56 [.si .i64 mask,.si .i64 key] (fun u=>u=.sb r):=by
 refine fn_dec (T:=tab) tabOK rfl wf Tryz.func56 rfl Tryz.call56 rfl ?_
 intro S R hS hR
 have q:=sf hM hS
 unfold keyword_Has at hf
 cbv
 cases hf; exact hR _ d_l
theorem c145 {M:EncM} (hM:M=mapE) {n:Int} {r:Int} (hf:num_Clamp n=some r):Pv.Fn Tryz.prog glF 145 [.si .i64 n] (fun u=>u=.si .i64 r):=by
 refine fn_dec (T:=tab) tabOK rfl wf Tryz.func145 rfl Tryz.call145 rfl ?_
 intro S R hS hR
 have q:=sf hM hS
 unfold num_Clamp at hf
 cbv
 cases hf; exact hR _ d_l
theorem c15 {M:EncM} (hM:M=mapE)  {r:Bool} (hf:law46_alive=some r):Pv.Fn Tryz.prog glF 15 [] (fun u=>u=.sb r):=by
 cases hf
 exact alive46
theorem c26 {M:EncM} (hM:M=mapE)  {r:Bool} (hf:law47_alive=some r):Pv.Fn Tryz.prog glF 26 [] (fun u=>u=.sb r):=by
 cases hf
 exact alive47
end Go.Proofs.YtlacmdnhabblcaaGreat
