/-
  'ResolveNothing': for every input the law returns true, and its arguments read behind the call as they read before, where the package's table of names holds what the program's text lays there (the card ties it). On arguments of bulk at most 1048576 (the second form).
-/
import Derived.WalkKit
import Derived.ProofKit
import Derived.OpenShut
import Derived.JoinedCond
import Derived.SevenTiedAt
import Derived.Deep.DeepHandedRow
import Derived.Lib.LaidTab
import Derived.Test.YthfepelpmalckaaGreatDoorCards
import Derived.Test.YthfepelpmalckaaGreatDoorTie
import Derived.Test.YthfepelpmalckaaGreatDoorD26
import Derived.Test.YthfepelpmalckaaGreatDoorD28
set_option linter.all false
namespace Go.Proofs.YthfepelpmalckaaGreatDoor.resolveNothing
open Go Go.Pv Go.ChangeShapes Go.WideShapes Go.ChangeAt Go.RowKit
theorem shaped (pvs:List PV) (h:SnVL Tryz.prog 1048576 Tryz.f3.params.toList pvs):Pv.Fn Tryz.prog glF 3 pvs (fun u=>u=.sb true):=by
 rw [Tryz.params3] at h
 obtain ⟨p0,q0,rfl,h0,h⟩:=SnVL.inv_cons h
 obtain ⟨p1,q1,rfl,h1,h⟩:=SnVL.inv_cons h
 obtain ⟨p2,q2,rfl,h2,h⟩:=SnVL.inv_cons h
 obtain rfl:=h.inv_nil
 obtain ⟨x0,rfl,k0⟩:=sV22 h0
 obtain ⟨x1,rfl,k1⟩:=sV31 h1
 obtain ⟨x2,rfl,k2⟩:=sV37 h2
 exact c3 rfl (ResolveNothing_true x0 x1 x2  (z22 k0) (z31 k1) (z37 k2))
theorem bulk_pos {H:Type}:∀ d:DataW H,1≤Rows.uptoBulk d
 | .lit l=>by cases l <;> simp [Rows.uptoBulk]
 | .nil=>by simp [Rows.uptoBulk]
 | .ptr d=>by unfold Rows.uptoBulk; omega
 | .slice e s=>by unfold Rows.uptoBulk; omega
 | .agg p=>by unfold Rows.uptoBulk; omega
 | .iface _ d=>by unfold Rows.uptoBulk; omega
 | .map e=>by unfold Rows.uptoBulk; omega
 | .held _=>by simp [Rows.uptoBulk]
theorem bulk_mem {H:Type}:∀ (l:List (DataW H)),l.length≤Rows.uptoBulkAll l∧∀ d∈l,Rows.uptoBulk d≤Rows.uptoBulkAll l
 | []=>by simp
 | d::l=>by
  obtain ⟨h1,h2⟩:=bulk_mem l
  have:=bulk_pos d
  unfold Rows.uptoBulkAll
  refine ⟨by simp only [List.length_cons]; omega,fun x hx=>?_⟩
  rcases List.mem_cons.1 hx with rfl | hx
  ·omega
  ·have:=h2 x hx; omega
theorem fits {H:Type}:Fit 1048576 (fun d:DataW H=>Rows.uptoBulk d≤1048576) where
 str b h:=by simp only [Rows.uptoBulk] at h; omega
 sl es rest h:=by
  simp only [Rows.uptoBulk] at h
  obtain ⟨h1,h2⟩:=bulk_mem es
  exact ⟨by omega,fun e he=>by have:=h2 e he; omega⟩
 agg es h e he:=by
  simp only [Rows.uptoBulk] at h
  have:=(bulk_mem es).2 e he; omega
 ptr d h:=by simp only [Rows.uptoBulk] at h; omega
theorem all_app {H:Type}:∀ (a b:List (DataW H)),Rows.uptoBulkAll (a ++ b)=Rows.uptoBulkAll a+Rows.uptoBulkAll b
 | [],b=>by simp [Rows.uptoBulkAll]
 | d::a,b=>by simp only [List.cons_append,Rows.uptoBulkAll,all_app a b]; omega
noncomputable def laidWorld (os:Os):World :=
 { World.holding Tryz.prog os ⟨#[],#[],[]⟩ with heap:=(World.holding Tryz.prog os ⟨#[],#[],[]⟩).heap.modify 0 fun
   | .cells _ t frozen=>.cells #[.string ⟨#[112,108,117,115]⟩,.string ⟨#[109,105,110,117,115]⟩,.string ⟨#[99,104,97,114,103,101]⟩] t frozen
   | o=>o }
abbrev zin:Array Value:=#[.slice none 0 0,.agg #[.slice none 0 0,.slice none 0 0,.slice none 0 0,.slice none 0 0,.slice none 0 0,.slice none 0 0,.slice none 0 0,.int .i64 0,.int .i64 0,.int .i64 0,.bool false,.int .i64 0,.int .i64 0,.int .i64 0,.int .i64 0,.int .u64 0,.slice none 0 0,.int .i64 0,.int .i64 0],.agg #[.int .i64 0,.int .i64 0,.int .i64 0,.slice none 0 0,.int .i64 0,.int .i64 0,.int .i64 0,.int .i64 0,.int .i64 0,.int .i64 0,.int .i64 0,.int .i64 0,.int .i64 0,.int .i64 0,.bool false,.bool false,.int .i64 0,.int .i64 0,.int .i64 0]]
theorem laid_met (os:Os):laidMet Tryz.prog Rows.resolveNothingUptoRow.laid ((laidWorld os).forCall (fun _ _=>0) ⟨#[],zin,[]⟩).memory :=
 laidMet_of_run' 8 (by kernel_rfl) (by kernel_rfl)
theorem reads (os:Os) {H:Type} (enc:TypeId × Value→H):∃ places,DataW.whole enc Tryz.prog ((laidWorld os).forCall (fun _ _=>0) ⟨#[],zin,[]⟩).memory Tryz.f3.params.toList Rows.resolveNothingSpec.vars false zin.toList 8=some ([.nil,.agg [.nil,.nil,.nil,.nil,.nil,.nil,.nil,.lit (.int .i64 0),.lit (.int .i64 0),.lit (.int .i64 0),.lit (.bool false),.lit (.int .i64 0),.lit (.int .i64 0),.lit (.int .i64 0),.lit (.int .i64 0),.lit (.int .u64 0),.nil,.lit (.int .i64 0),.lit (.int .i64 0)],.agg [.lit (.int .i64 0),.lit (.int .i64 0),.lit (.int .i64 0),.nil,.agg [.lit (.int .i64 0),.lit (.int .i64 0),.lit (.int .i64 0),.lit (.int .i64 0),.lit (.int .i64 0),.lit (.int .i64 0),.lit (.int .i64 0),.lit (.int .i64 0),.lit (.int .i64 0),.lit (.int .i64 0),.lit (.bool false),.lit (.bool false),.agg [.lit (.int .i64 0),.lit (.int .i64 0),.lit (.int .i64 0)]]]],[],places) :=
 ⟨[],by kernel_rfl⟩
set_option maxRecDepth 100000 in
theorem lifted (os:Os) (started:os.Started) (H:Type) (enc:TypeId × Value→H) (F:Stop.Interp) :
  ReturnsInHanded {} Tryz.checked os 3 .any ((Rows.OpenSpec.upto Rows.resolveNothingSpec).preRow enc Tryz.prog Tryz.f3 Rows.resolveNothingUptoRow.domain false Rows.resolveNothingUptoRow.laid) (((Rows.OpenSpec.upto Rows.resolveNothingSpec).at F).post enc Tryz.prog Tryz.f3 false true false false):=by
 obtain ⟨places,hx⟩:=reads os enc
 refine returnsInHanded_of_row (C:=Tryz.checked) (s:=Rows.OpenSpec.upto Rows.resolveNothingSpec) own started noInit Tryz.func3
  (witness_row_at (enc:=enc) (C:=Tryz.checked) false (laidWorld os) zin rfl (by kernel_rfl) (by kernel_rfl) (by kernel_rfl)
   (OpenSpec.preRow_of_cond 8 hx (by kernel_rfl) (fun k hk=>by cases hk; kernel_rfl) (by kernel_rfl) (laid_met os))) ?_
 intro W base args ds gs before hval hW c1 c2 c3 hL _ _
 have hk:Rows.uptoBulkAll (ds ++ gs)≤1048576:=by first | exact of_decide_eq_true (c1 _ rfl) | exact of_decide_eq_true (c2 _ rfl) | exact of_decide_eq_true (c3 _ rfl)
 rw [all_app] at hk
 refine law_callsN fits (P:=Tryz.prog) (ts:=[3,4,9,22,23,24,25,26,27,28,29,31,32,33,35,37,54,56,57,59,60,62,65,67,69,71,73,75,76,78,79,81,83,84,86,88,90,92,129,132,135,138,158]) (by kernel_rfl) rfl rfl Tryz.underlying4 ?_ shaped W (fun g cs h=>by simp [glF] at h) base args ds gs before hval (fun d hd=>by have:=(bulk_mem ds).2 d hd; omega) hW
 intro ds hd
 match ds,hd with
 | [_,_,_],_=>exact ⟨rfl,rfl,rfl⟩
theorem over:Rows.resolveNothingUptoRow.holds Tryz.pinned (Rows.OpenSpec.upto Rows.resolveNothingSpec) :=
 OpenClaim.holds_of_cond 3 Tryz.f3 rfl rfl rfl rfl rfl rfl rfl ⟨rfl,rfl,rfl,rfl,rfl⟩ rfl rfl rfl rfl rfl fnamed Tryz.func3 joined
  inst wrap
  (fun os started H enc _ F=>by rw [OpenClaim.pre_eq_preRow]; exact lifted os started H enc F)
theorem plain (f : FuncId) (fn : Func) (hf : Tryz.pinned.checked.prog.funcNamed "cardgame/cardgamelaw40.ResolveNothing" = some f) (hfn : Tryz.pinned.checked.prog.funcs[f]? = some fn) :
  false=Tryz.pinned.checked.prog.looks []∧∀ (j:Nat) t,fn.params[j]?=some t→Tryz.pinned.checked.prog.wantsStandIn t=false:=by
 obtain rfl : f = 3 := Option.some.inj ((show Tryz.prog.funcNamed "cardgame/cardgamelaw40.ResolveNothing" = some 3 by kernel_rfl).symm.trans hf) |>.symm
 obtain rfl:fn=Tryz.f3:=(Option.some.inj (Tryz.func3.symm.trans hfn)).symm
 refine ⟨by kernel_rfl,fun j t ht=>?_⟩
 rw [Tryz.params3] at ht
 have hm:t∈[22,31,37]:=by simpa using Array.mem_of_getElem? ht
 have hall:([22,31,37].all fun u=>!Tryz.prog.wantsStandIn u)=true:=by kernel_rfl
 exact (show Tryz.prog.wantsStandIn t=false by simpa using List.all_eq_true.1 hall t hm)
theorem no_goes {P : Program} (h : (P.funcs.toList.all fun f => !f.goes) = true) (f : FuncId) : P.goes f = false := by
  have hall : ∀ x ∈ P.funcs.toList, x.goes = false := fun x hx => by have := List.all_eq_true.1 h x hx; revert this; cases x.goes <;> simp
  have h1 : P.funcs.any Func.goes = false := by
    rw [← Array.any_toList, List.any_eq_false]
    intro x hx; rw [hall x hx]; exact Bool.false_ne_true
  unfold Program.goes
  rw [h1, Bool.and_false, Bool.or_false, List.any_eq_false]
  intro g _
  cases hx : P.funcs[g]? with
  | none => simp
  | some x => rw [Option.any_some, hall x (Array.mem_toList_iff.2 (Array.mem_of_getElem? hx))]; exact Bool.false_ne_true
theorem nogo : (Tryz.pinned.checked.prog.funcs.toList.all fun f => !f.goes) = true := by kernel_rfl
theorem goes_no {P : Program} {c : OpenClaim} (h : (P.funcs.toList.all fun f => !f.goes) = true) (hs : c.start = .entering) : false = c.goesBy P := by
  unfold OpenClaim.goesBy Program.goesAt Program.goesFrom
  rw [hs]
  cases P.funcNamed c.func with
  | none => rfl
  | some f => simp [no_goes h f]
theorem hw : Rows.resolveNothingUptoRow.wfByText (Rows.OpenSpec.upto Rows.resolveNothingSpec) = true := by kernel_rfl
theorem hm : Tryz.pinned.checked.prog.mainIs = some (Rows.resolveNothingUptoCard.stood.harness.1, Rows.resolveNothingUptoCard.stood.harness.2.toList) := by kernel_rfl
theorem proved : Rows.ResolveNothingUptoCardSaid :=
  Claim7.holds_tied_plain_at .later [] _ _ _ _ over (fun _ h => by cases h) hw (fun _ h => by cases h) resolveNothingUpto_row_tie rfl ⟨rfl, rfl⟩ hm rfl plain (goes_no nogo rfl)
end Go.Proofs.YthfepelpmalckaaGreatDoor.resolveNothing
