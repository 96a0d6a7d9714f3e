import Derived.WalkKit
import Derived.ProofKit
import Derived.OpenShut
import Derived.JoinedCond
import Derived.Shelf.Vars
import Derived.Test.YtchmoabpofnbaaaGreatC100
import Derived.Test.YtchmoabpofnbaaaGreatC102
/-
  'AttackIllegal': for every input the law returns true, and its arguments read behind the call as they read before. On arguments of bulk at most 1048576 (the second form).
-/
set_option linter.all false
namespace Go.Proofs.YtchmoabpofnbaaaGreat.attackIllegal
open Go Go.Pv Go.ChangeShapes Go.WideShapes Go.ChangeAt Go.RowKit
theorem shaped [GM](pvs:List PV)(h:O6 Tryz.prog 1048576 Tryz.f8.params.toList pvs):fZ 8 pvs (fun u=>u=.sb true):=by
 rw[Tryz.params8] at h;obtain⟨p0,q0,rfl,h0,h⟩:=O6.FO h;obtain⟨p1,q1,rfl,h1,h⟩:=O6.FO h;obtain⟨p2,q2,rfl,h2,h⟩:=O6.FO h;obtain rfl:=h.nH;obtain⟨x0,rfl,k0⟩:=sV22 h0;obtain⟨x1,rfl,k1⟩:=sV31 h1;obtain⟨x2,rfl,k2⟩:=sV35 h2;exact CW.w (M:=kX) (g:=rF x0 x1 x2) _ (Ob x0 x1 x2  (z22 k0) (z31 k1) (z35 k2))
theorem adW {H:Type}:∀ d:DataW H,1≤Rows.uptoBulk d
 | .lit l=>by cases l<;>simp[Rows.uptoBulk]
 | .nil=>by simp[Rows.uptoBulk]
 | .ptr d=>by unfold Rows.uptoBulk;omega
 | .slice e s=>by unfold Rows.uptoBulk;omega
 | .agg p=>by unfold Rows.uptoBulk;omega
 | .iface _ d=>by unfold Rows.uptoBulk;omega
 | .map e=>by unfold Rows.uptoBulk;omega
 | .held _=>by simp[Rows.uptoBulk]
theorem O7 {H:Type}:∀ (l:List (DataW H)),l.length≤Rows.uptoBulkAll l∧∀ d∈l,Rows.uptoBulk d≤Rows.uptoBulkAll l
 | []=>by simp
 | d::l=>by
  obtain⟨h1,h2⟩:=O7 l;have:=adW d;unfold Rows.uptoBulkAll;refine⟨by simp only[List.length_cons];omega,fun x hx=>?_⟩;rcases List.mem_cons.1 hx with rfl|hx
  ·omega
  ·have:=h2 x hx;omega
theorem fits {H:Type}:Fit 1048576 (fun d:DataW H=>Rows.uptoBulk d≤1048576) where
 str b h:=by simp only[Rows.uptoBulk] at h;omega
 sl es rest h:=by
  simp only[Rows.uptoBulk] at h;obtain⟨h1,h2⟩:=O7 es;exact⟨by omega,fun e he=>by have:=h2 e he;omega⟩
 agg es h e he:=by
  simp only[Rows.uptoBulk] at h;have:=(O7 es).2 e he;omega
 ptr d h:=by simp only[Rows.uptoBulk] at h;omega
theorem acb {H:Type}:∀ (a b:List (DataW H)),Rows.uptoBulkAll (a++b)=Rows.uptoBulkAll a+Rows.uptoBulkAll b
 | [],b=>by simp[Rows.uptoBulkAll]
 | d::a,b=>by simp only[List.cons_append,Rows.uptoBulkAll,acb a b];omega
set_option maxRecDepth 100000 in
theorem lifted (os:Os)(started:os.Started)(H:Type)(enc:TypeId×Value→H)(F:Stop.Interp) :
  ReturnsInHanded {} Tryz.checked os 8 .any ((Rows.OpenSpec.upto Rows.attackIllegalSpec).pre6 enc Tryz.prog Tryz.f8 Rows.attackIllegalUptoRow.domain false) (((Rows.OpenSpec.upto Rows.attackIllegalSpec).at F).post enc Tryz.prog Tryz.f8 false true false false):=by
 refine returnsInHanded_of_calls (C:=Tryz.checked) own started noInit
  (OpenSpec.witness (x:=([.nil,.agg [.nil,.nil,.nil,.nil,.nil,.nil,.nil,.lit (.int .i64 0),.lit (.int .i64 0),.lit (.int .i64 0),.lit (.bool false),.lit (.int .i64 0),.lit (.int .i64 0),.lit (.int .i64 0),.lit (.int .i64 0),.lit (.int .u64 0),.nil,.lit (.int .i64 0),.lit (.int .i64 0)],.nil],[],[])) (k:=Rows.uptoSmall) (enc:=enc) (C:=Tryz.checked) rfl false ⟨#[],#[.slice none 0 0,.agg #[.slice none 0 0,.slice none 0 0,.slice none 0 0,.slice none 0 0,.slice none 0 0,.slice none 0 0,.slice none 0 0,.int .i64 0,.int .i64 0,.int .i64 0,.bool false,.int .i64 0,.int .i64 0,.int .i64 0,.int .i64 0,.int .u64 0,.slice none 0 0,.int .i64 0,.int .i64 0],.slice none 0 0],[]⟩ 8 aI aI aI aI aI aI) ?_
 intro w tape i _ hsh _ hok hpre _;obtain⟨_,_,_,fn',hfn',_,_,_,_,hval⟩:=hok;obtain rfl:fn'=Tryz.f8:=Option.some.inj (hfn'.symm.trans Tryz.func8);obtain⟨ds,gs,before,hW,_,hk⟩:=(OpenSpec.pre_some (k:=Rows.uptoSmall) rfl _ _ _ _).1 hpre.1;have hW:=DataW.Whole.of_heap (w':=w.forCall tape i) (by rfl) hW;obtain⟨m,hm⟩:=cell_of_shapedOpen_int (g:=0) (t:=3) (zero:=#[.int .i64 0]) hsh (of_decide_eq_true aI) aI rfl aI aI Tryz.underlying3
 letI:GM:=⟨m⟩
 have hG:TD glF (w.forCall tape i) NoY:=by
  intro g cs h
  cases hg:Nat.beq g 0 with
  | false=>unfold glF at h;rw[hg] at h;cases h
  | true=>
   unfold glF at h;rw[hg] at h;cases h;obtain rfl:=Nat.eq_of_beq_eq_true hg;unfold Rep;refine⟨_,_,rfl,⟨O8 hm,fun h=>h⟩,?_⟩;unfold jo;exact⟨⟨_,hm,by unfold Rep;rfl⟩,by unfold jo;trivial⟩
 have hk:Rows.uptoBulkAll (ds++gs)≤1048576:=of_decide_eq_true hk;rw[acb] at hk;refine Calls.mono (aaI fits (P:=Tryz.prog) (ts:=[3,4,9,22,23,24,25,26,27,28,29,31,32,34,35,54,56,66,83,85,86,88,89,98,101,103,105,106,108,110,111,112,114,145,147,151,155,210,215,263,265,267,284]) aI rfl rfl Tryz.underlying4 ?_ shaped (w.forCall tape i) hG w.heap.size i.args ds gs before hval (fun d hd=>by have:=(O7 ds).2 d hd;omega) hW) fun e W' ⟨v,he,hp⟩=>?_
 rotate_left
 ·subst he;exact ChangeSpec.post_blind hp
 intro ds hd
 match ds,hd with
 | [_,_,_],_=>exact⟨rfl,rfl,rfl⟩
theorem over:Rows.attackIllegalUptoRow.holds Tryz.pinned (Rows.OpenSpec.upto Rows.attackIllegalSpec) :=
 OpenClaim.holds_of_cond 8 Tryz.f8 rfl rfl rfl rfl rfl rfl rfl ⟨rfl,rfl,rfl,rfl,rfl⟩ rfl rfl rfl rfl rfl ahe Tryz.func8 joined
  inst wrap
  (fun os started H enc _ F=>lifted os started H enc F)
theorem proved:Rows.AttackIllegalUptoSaid :=
 over
end Go.Proofs.YtchmoabpofnbaaaGreat.attackIllegal
