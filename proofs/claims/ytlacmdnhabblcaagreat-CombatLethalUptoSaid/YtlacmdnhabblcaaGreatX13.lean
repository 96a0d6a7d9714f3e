import Derived.Test.YtlacmdnhabblcaaGreatX12
set_option linter.all false
namespace Go.Proofs.YtlacmdnhabblcaaGreat
open Go Go.Pv
set_option maxRecDepth 100000
set_option maxHeartbeats 2000000
theorem c27 {M:EncM} (hM:M=mapE) {need:List Int} {l:List Int} {sum:Int} {trample:Bool} {r:Bool} (hf:combat_Legal need l sum trample=some r):Pv.Fn Tryz.prog glF 27 [.sl 1 (M.m Int (eI .i64) need) false,.sl 1 (M.m Int (eI .i64) l) false,.si .i64 sum,.sb trample] (fun u=>u=.sb r):=by
 refine fn_dec (T:=(tabc [9,24,28,33])) (tabcOK [9,24,28,33]) rfl wf Tryz.func27 rfl Tryz.call27 rfl ?_
 intro S R hS hR
 have q:=sf hM hS
 unfold combat_Legal at hf
 cbv
 refine d_cut hS [] [0,1,2,9] (fun s1=>⟨tpsL 0 60 [(0,.sl 1 (M.m Int (eI .i64) need) false),(1,.sl 1 (M.m Int (eI .i64) l) false),(2,.si .i64 sum),(9,.si .i64 s1)],[],0⟩) hf ?_ ?_
 ·intro Ik2 k2 hk2 hf; cbv
  refine d_br hS hf rfl ?_ ?_
  ·intro hf; cbv
   exact d_x hk2 hf
  intro hf; cbv
  exact d_x hk2 hf
 intro s1 hf; cbv
 refine d_b hS hf ?_ ?_
 ·intro hf; cbv
  cases hf; exact hR _ (lp_eq rfl)
 intro hf; cbv
 refine d_lp hS (tabcOK [9,24,28,33]) wf [] [0,10,11,12,26,27,28] (fun s4=>⟨tpsL 0 60 [(0,.sl 1 (M.m Int (eI .i64) need) false),(10,.lv 0 0),(11,.fn 73 [.lv 0 0]),(12,.sb s4.1),(26,.sl 1 (M.m Int (eI .i64) l) false),(27,.si .i64 (S.len (M.m Int (eI .i64) l))),(28,.si .i64 s4.2.1)],[(0,some (.var false [.si .i64 s4.2.2]))],1⟩) hf ?_
 intro Ik5 k5 s4 hk5 hf e he; subst he
 unfold combat_Legal_l1 at hf
 cbv
 refine d_b hS hf ?_ ?_
 ·intro hf; cbv
  refine d_cut hS [] [0,10,11,12,26,27,28] (fun s7=>⟨tpsL 0 60 [(0,.sl 1 (M.m Int (eI .i64) need) false),(10,.lv 0 0),(11,.fn 73 [.lv 0 0]),(12,.sb s7.1),(26,.sl 1 (M.m Int (eI .i64) l) false),(27,.si .i64 (S.len (M.m Int (eI .i64) l))),(28,.si .i64 s4.2.1)],[(0,some (.var false [.si .i64 s7.2]))],1⟩) hf ?_ ?_
  ·intro Ik8 k8 hk8 hf; cbv
   refine d_idx hS hM hf rfl rfl ?_
   intro x10 hf; cbv
   refine d_cut hS [] [0,10,11,12,13,14,26,27,28,44] (fun s11=>⟨tpsL 0 60 [(0,.sl 1 (M.m Int (eI .i64) need) false),(10,.lv 0 0),(11,.fn 73 [.lv 0 0]),(12,.sb s4.1),(13,.si .i64 s4.2.1),(14,.si .i64 x10),(26,.sl 1 (M.m Int (eI .i64) l) false),(27,.si .i64 (S.len (M.m Int (eI .i64) l))),(28,.si .i64 s4.2.1),(44,.sb s11.1)],[(0,some (.var false [.si .i64 s11.2]))],1⟩) hf ?_ ?_
   ·intro Ik12 k12 hk12 hf; cbv
    refine d_callS hS hf (fun _=>z73_0 hM) (by (try simp only [q]); repeat' constructor) (by (try simp only [q]); repeat' constructor) rfl rfl rfl rfl ?_
    intro y14 hf; cbv
    refine d_b hS hf ?_ ?_
    ·intro hf; cbv
     exact d_x hk12 hf
    intro hf; cbv
    refine d_b hS hf ?_ ?_
    ·intro hf; cbv
     exact d_x hk12 hf
    intro hf; cbv
    exact d_x hk12 hf
   intro s11 hf; cbv
   refine d_br hS hf rfl ?_ ?_
   ·intro hf; cbv
    cases hf; exact hR _ (lp_eq rfl)
   intro hf; cbv
   refine d_cut hS [] [0,10,11,12,26,27,28,56] (fun s15=>⟨tpsL 0 60 [(0,.sl 1 (M.m Int (eI .i64) need) false),(10,.lv 0 0),(11,.fn 73 [.lv 0 0]),(12,.sb s4.1),(26,.sl 1 (M.m Int (eI .i64) l) false),(27,.si .i64 (S.len (M.m Int (eI .i64) l))),(28,.si .i64 s4.2.1),(56,.sb s15)],[(0,some (.var false [.si .i64 s11.2]))],1⟩) hf ?_ ?_
   ·intro Ik16 k16 hk16 hf; cbv
    refine d_b hS hf ?_ ?_
    ·intro hf; cbv
     refine d_idx hS hM hf rfl rfl ?_
     intro x18 hf; cbv
     exact d_x hk16 hf
    intro hf; cbv
    exact d_x hk16 hf
   intro s15 hf; cbv
   refine d_br hS hf rfl ?_ ?_
   ·intro hf; cbv
    exact d_x hk8 hf
   intro hf; cbv
   exact d_x hk8 hf
  intro s7 hf; cbv
  exact d_x hk5 hf
 intro hf; cbv
 cases hf; exact hR _ d_l
theorem c17 {M:EncM} (hM:M=mapE) {b:GObject} {tb:GTraits} {a:GObject} {ta:GTraits} {r:Bool} (hf:r46_Can b tb a ta=some r):Pv.Fn Tryz.prog glF 17 [.agg (eGObject M b),.agg (eGTraits M tb),.agg (eGObject M a),.agg (eGTraits M ta)] (fun u=>u=.sb r):=by
 refine fn_dec (T:=(tabc [2])) (tabcOK [2]) rfl wf Tryz.func17 rfl Tryz.call17 rfl ?_
 intro S R hS hR
 have q:=sf hM hS
 unfold r46_Can at hf
 cbv
 refine d_cut hS [] [5,7,27] (fun s1=>⟨tpsL 0 42 [(5,.lv 0 0),(7,.lv 1 0),(27,.sb s1)],[(0,some (.var false (eGTraits M tb))),(1,some (.var false (eGTraits M ta)))],2⟩) hf ?_ ?_
 ·intro Ik2 k2 hk2 hf; cbv
  refine d_p hS hf (fun _=>c57 hM) ?_
  intro y4 hf; cbv
  refine d_b hS hf ?_ ?_
  ·intro hf; cbv
   exact d_x hk2 hf
  intro hf; cbv
  refine d_br hS hf rfl ?_ ?_
  ·intro hf; cbv
   exact d_x hk2 hf
  intro hf; cbv
  refine d_p hS hf (fun _=>c57 hM) ?_
  intro y5 hf; cbv
  refine d_br hS hf rfl ?_ ?_
  ·intro hf; cbv
   exact d_x hk2 hf
  intro hf; cbv
  refine d_p hS hf (fun _=>c57 hM) ?_
  intro y6 hf; cbv
  exact d_x hk2 hf
 intro s1 hf; cbv
 refine d_br hS hf rfl ?_ ?_
 ·intro hf; cbv
  cases hf; exact hR _ (lp_eq rfl)
 intro hf; cbv
 refine d_p hS hf (fun _=>c57 hM) ?_
 intro y7 hf; cbv
 refine d_b hS hf ?_ ?_
 ·intro hf; cbv
  cases hf; exact hR _ (lp_eq rfl)
 intro hf; cbv
 refine d_p hS hf (fun _=>c57 hM) ?_
 intro y8 hf; cbv
 refine d_br hS hf rfl ?_ ?_
 ·intro hf; cbv
  cases hf; exact hR _ (lp_eq rfl)
 intro hf; cbv
 refine d_p hS hf (fun _=>c57 hM) ?_
 intro y9 hf; cbv
 cases hf; exact hR _ (lp_eq rfl)
theorem c144 {M:EncM} (hM:M=mapE) {l:List GEffect} {r:Bool} (hf:r17_LightList l=some r):Pv.Fn Tryz.prog glF 144 [.sl 64 (M.m GEffect (eGEffect M) l) false] (fun u=>u=.sb r):=by
 refine fn_dec (T:=tab) tabOK rfl wf Tryz.func144 rfl Tryz.call144 rfl ?_
 intro S R hS hR
 have q:=sf hM hS
 unfold r17_LightList at hf
 cbv
 refine d_lp hS tabOK wf [] [0,3] (fun s1=>⟨tpsL 0 19 [(0,.sl 64 (M.m GEffect (eGEffect M) l) false),(3,.si .i64 s1)],[],0⟩) hf ?_
 intro Ik2 k2 s1 hk2 hf e he; subst he
 unfold r17_LightList_l1 at hf
 cbv
 refine d_b hS hf ?_ ?_
 ·intro hf; cbv
  refine d_idx hS hM hf rfl rfl ?_
  intro x4 hf; cbv
  refine d_p hS hf (fun _=>c215 hM) ?_
  intro y5 hf; cbv
  refine d_b hS hf ?_ ?_
  ·intro hf; cbv
   cases hf; exact hR _ (lp_eq rfl)
  intro hf; cbv
  exact d_x hk2 hf
 intro hf; cbv
 cases hf; exact hR _ d_l
theorem c75 {M:EncM} (hM:M=mapE) {a:Int} {b:Int} {r:Int} (hf:num_Sub a b=some r):Pv.Fn Tryz.prog glF 75 [.si .i64 a,.si .i64 b] (fun u=>u=.si .i64 r):=by
 refine fn_dec (T:=tab) tabOK rfl wf Tryz.func75 rfl Tryz.call75 rfl ?_
 intro S R hS hR
 have q:=sf hM hS
 unfold num_Sub at hf
 cbv
 refine d_p hS hf (fun _=>c145 hM) ?_
 intro y1 hf; cbv
 refine d_p hS hf (fun _=>c145 hM) ?_
 intro y2 hf; cbv
 refine d_callp hS hf (fun _=>c145 hM) d_le ?_
 intro y3 hf; cbv
 cases hf; exact hR _ (lp_eq rfl)
theorem c76 {M:EncM} (hM:M=mapE) {a:Int} {b:Int} {r:Int} (hf:r01_Sub a b=some r):Pv.Fn Tryz.prog glF 76 [.si .i64 a,.si .i64 b] (fun u=>u=.si .i64 r):=by
 refine fn_dec (T:=tab) tabOK rfl wf Tryz.func76 rfl Tryz.call76 rfl ?_
 intro S R hS hR
 have q:=sf hM hS
 unfold r01_Sub at hf
 cbv
 refine d_p hS hf (fun _=>c146 hM) ?_
 intro y1 hf; cbv
 refine d_p hS hf (fun _=>c146 hM) ?_
 intro y2 hf; cbv
 refine d_callp hS hf (fun _=>c146 hM) d_le ?_
 intro y3 hf; cbv
 cases hf; exact hR _ (lp_eq rfl)
theorem c55 {M:EncM} (hM:M=mapE) {t:GTraits} {key:Int} {r:Bool} (hf:block_Can_1 t key=some r):Pv.Fn Tryz.prog glF 55 [.agg (eGTraits M t),.si .i64 key] (fun u=>u=.sb r):=by
 refine fn_dec (T:=tab) tabOK rfl wf Tryz.func55 rfl Tryz.call55 rfl ?_
 intro S R hS hR
 have q:=sf hM hS
 unfold block_Can_1 at hf
 cbv
 refine d_p hS hf (fun _=>c56 hM) ?_
 intro y1 hf; cbv
 cases hf; exact hR _ (lp_eq rfl)
end Go.Proofs.YtlacmdnhabblcaaGreat
