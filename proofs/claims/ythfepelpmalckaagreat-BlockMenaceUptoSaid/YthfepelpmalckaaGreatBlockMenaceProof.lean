/-
  'BlockMenace': for every input the law returns true, and its arguments read behind the call as they read before. On arguments of bulk at most 1048576 (the second form).
-/
import Derived.WalkKit
import Derived.ProofKit
import Derived.OpenShut
import Derived.JoinedCond
import Derived.Test.YthfepelpmalckaaGreatB20
import Derived.Test.YthfepelpmalckaaGreatB22
set_option linter.all false
namespace Go.Proofs.YthfepelpmalckaaGreat.blockMenace
open Go Go.Pv Go.ChangeShapes Go.WideShapes Go.ChangeAt Go.RowKit
theorem shaped (pvs:List PV) (h:SnVL Tryz.prog 1048576 Tryz.f3.params.toList pvs):Pv.Fn Tryz.prog glF 3 pvs (fun u=>u=.sb true):=by
 rw [Tryz.params3] at h
 obtain ⟨p0,q0,rfl,h0,h⟩:=SnVL.inv_cons h
 obtain ⟨p1,q1,rfl,h1,h⟩:=SnVL.inv_cons h
 obtain ⟨p2,q2,rfl,h2,h⟩:=SnVL.inv_cons h
 obtain rfl:=h.inv_nil
 obtain ⟨x0,rfl,k0⟩:=sV3 h0
 obtain ⟨x1,rfl,k1⟩:=sV3 h1
 obtain ⟨x2,rfl,k2⟩:=sV3 h2
 exact c3 rfl (BlockMenace_true x0 x1 x2  )
theorem bulk_pos {H:Type}:∀ d:DataW H,1≤Rows.uptoBulk d
 | .lit l=>by cases l <;> simp [Rows.uptoBulk]
 | .nil=>by simp [Rows.uptoBulk]
 | .ptr d=>by unfold Rows.uptoBulk; omega
 | .slice e s=>by unfold Rows.uptoBulk; omega
 | .agg p=>by unfold Rows.uptoBulk; omega
 | .iface _ d=>by unfold Rows.uptoBulk; omega
 | .map e=>by unfold Rows.uptoBulk; omega
 | .held _=>by simp [Rows.uptoBulk]
theorem bulk_mem {H:Type}:∀ (l:List (DataW H)),l.length≤Rows.uptoBulkAll l∧∀ d∈l,Rows.uptoBulk d≤Rows.uptoBulkAll l
 | []=>by simp
 | d::l=>by
  obtain ⟨h1,h2⟩:=bulk_mem l
  have:=bulk_pos d
  unfold Rows.uptoBulkAll
  refine ⟨by simp only [List.length_cons]; omega,fun x hx=>?_⟩
  rcases List.mem_cons.1 hx with rfl | hx
  ·omega
  ·have:=h2 x hx; omega
theorem fits {H:Type}:Fit 1048576 (fun d:DataW H=>Rows.uptoBulk d≤1048576) where
 str b h:=by simp only [Rows.uptoBulk] at h; omega
 sl es rest h:=by
  simp only [Rows.uptoBulk] at h
  obtain ⟨h1,h2⟩:=bulk_mem es
  exact ⟨by omega,fun e he=>by have:=h2 e he; omega⟩
 agg es h e he:=by
  simp only [Rows.uptoBulk] at h
  have:=(bulk_mem es).2 e he; omega
 ptr d h:=by simp only [Rows.uptoBulk] at h; omega
theorem all_app {H:Type}:∀ (a b:List (DataW H)),Rows.uptoBulkAll (a ++ b)=Rows.uptoBulkAll a+Rows.uptoBulkAll b
 | [],b=>by simp [Rows.uptoBulkAll]
 | d::a,b=>by simp only [List.cons_append,Rows.uptoBulkAll,all_app a b]; omega
set_option maxRecDepth 100000 in
theorem lifted (os:Os) (started:os.Started) (H:Type) (enc:TypeId × Value→H) (F:Stop.Interp) :
  ReturnsInHanded {} Tryz.checked os 3 .any ((Rows.OpenSpec.upto Rows.blockMenaceSpec).pre6 enc Tryz.prog Tryz.f3 Rows.blockMenaceUptoRow.domain false) (((Rows.OpenSpec.upto Rows.blockMenaceSpec).at F).post enc Tryz.prog Tryz.f3 false true false false):=by
 refine returnsInHanded_of_cond (k:=Rows.uptoSmall) (C:=Tryz.checked) rfl own started noInit Tryz.func3
  (OpenSpec.witness (x:=([.lit (.int .i64 0),.lit (.int .i64 0),.lit (.int .i64 0)],[],[])) (k:=Rows.uptoSmall) (enc:=enc) (C:=Tryz.checked) rfl false ⟨#[],#[.int .i64 0,.int .i64 0,.int .i64 0],[]⟩ 8 (by kernel_rfl) (by kernel_rfl) (by kernel_rfl) (by kernel_rfl) (by kernel_rfl) (by kernel_rfl)) ?_
 intro W base args ds gs before hval hW _ hk _
 have hk:Rows.uptoBulkAll (ds ++ gs)≤1048576:=of_decide_eq_true hk
 rw [all_app] at hk
 refine law_callsN fits (P:=Tryz.prog) (ts:=[3,4]) (by kernel_rfl) rfl rfl Tryz.underlying4 ?_ shaped W (fun g cs h=>by simp [glF] at h) base args ds gs before hval (fun d hd=>by have:=(bulk_mem ds).2 d hd; omega) hW
 intro ds hd
 match ds,hd with
 | [_,_,_],_=>exact ⟨rfl,rfl,rfl⟩
theorem over:Rows.blockMenaceUptoRow.holds Tryz.pinned (Rows.OpenSpec.upto Rows.blockMenaceSpec) :=
 OpenClaim.holds_of_cond 3 Tryz.f3 rfl rfl rfl rfl rfl rfl rfl ⟨rfl,rfl,rfl,rfl,rfl⟩ rfl rfl rfl rfl rfl fnamed Tryz.func3 joined
  inst wrap
  (fun os started H enc _ F=>lifted os started H enc F)
theorem proved:Rows.BlockMenaceUptoSaid :=
 over
end Go.Proofs.YthfepelpmalckaaGreat.blockMenace
