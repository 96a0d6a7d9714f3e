/-
  'CombatEvents': for every input the law returns true, and its arguments read behind the call as they read before. On arguments of bulk at most 1048576 (the second form).
-/
import Derived.WalkKit
import Derived.ProofKit
import Derived.OpenShut
import Derived.JoinedCond
import Derived.Test.YtlacmdnhabblcaaGreatB95
import Derived.Test.YtlacmdnhabblcaaGreatB96
import Derived.Test.YtlacmdnhabblcaaGreatB97
set_option linter.all false
namespace Go.Proofs.YtlacmdnhabblcaaGreat.combatEvents
open Go Go.Pv Go.ChangeShapes Go.WideShapes Go.ChangeAt Go.RowKit
theorem shaped (pvs:List PV)(h:zh Tryz.prog 1048576 Tryz.f9.params.toList pvs):iI 9 pvs (fun u=>u=.sb true):=by
 rw[Tryz.params9] at h;obtain⟨p0,q0,rfl,h0,h⟩:=zh.ql h;obtain rfl:=h.mO;obtain⟨x0,rfl,k0⟩:=anA h0;exact c9 rfl (Uw x0  (z73 k0))
theorem sV {H:Type}:∀ d:DataW H,1≤Rows.uptoBulk d
 | .lit l=>by cases l<;>simp[Rows.uptoBulk]
 | .nil=>by simp[Rows.uptoBulk]
 | .ptr d=>by unfold Rows.uptoBulk;omega
 | .slice e s=>by unfold Rows.uptoBulk;omega
 | .agg p=>by unfold Rows.uptoBulk;omega
 | .iface _ d=>by unfold Rows.uptoBulk;omega
 | .map e=>by unfold Rows.uptoBulk;omega
 | .held _=>by simp[Rows.uptoBulk]
theorem lL {H:Type}:∀ (l:List (DataW H)),l.length≤Rows.uptoBulkAll l∧∀ d∈l,Rows.uptoBulk d≤Rows.uptoBulkAll l
 | []=>by simp
 | d::l=>by
  obtain⟨h1,h2⟩:=lL l;have:=sV d;unfold Rows.uptoBulkAll;refine⟨by simp only[List.length_cons];omega,fun x hx=>?_⟩;rcases List.mem_cons.1 hx with rfl|hx
  ·omega
  ·have:=h2 x hx;omega
theorem fits {H:Type}:Fit 1048576 (fun d:DataW H=>Rows.uptoBulk d≤1048576) where
 str b h:=by simp only[Rows.uptoBulk] at h;omega
 sl es rest h:=by
  simp only[Rows.uptoBulk] at h;obtain⟨h1,h2⟩:=lL es;exact⟨by omega,fun e he=>by have:=h2 e he;omega⟩
 agg es h e he:=by
  simp only[Rows.uptoBulk] at h;have:=(lL es).2 e he;omega
 ptr d h:=by simp only[Rows.uptoBulk] at h;omega
theorem qm {H:Type}:∀ (a b:List (DataW H)),Rows.uptoBulkAll (a++b)=Rows.uptoBulkAll a+Rows.uptoBulkAll b
 | [],b=>by simp[Rows.uptoBulkAll]
 | d::a,b=>by simp only[List.cons_append,Rows.uptoBulkAll,qm a b];omega
set_option maxRecDepth 100000 in
theorem lifted (os:Os)(started:os.Started)(H:Type)(enc:TypeId×Value→H)(F:Stop.Interp) :
  ReturnsInHanded {} Tryz.checked os 9 .any ((Rows.OpenSpec.upto Rows.combatEventsSpec).pre6 enc Tryz.prog Tryz.f9 Rows.combatEventsUptoRow.domain false) (((Rows.OpenSpec.upto Rows.combatEventsSpec).at F).post enc Tryz.prog Tryz.f9 false true false false):=by
 refine returnsInHanded_of_cond (k:=Rows.uptoSmall) (C:=Tryz.checked) rfl own started noInit Tryz.func9
  (OpenSpec.witness (x:=([.agg [.nil,.agg [.nil,.nil,.nil,.nil,.nil,.nil,.nil,.lit (.int .i64 0),.lit (.int .i64 0),.lit (.int .i64 0),.lit (.bool false),.lit (.int .i64 0),.lit (.int .i64 0),.lit (.int .i64 0),.lit (.int .i64 0),.lit (.int .u64 0),.nil,.lit (.int .i64 0),.lit (.int .i64 0)],.nil,.lit (.bool false)]],[],[])) (k:=Rows.uptoSmall) (enc:=enc) (C:=Tryz.checked) rfl false ⟨#[],#[.agg #[.slice none 0 0,.slice none 0 0,.slice none 0 0,.slice none 0 0,.slice none 0 0,.slice none 0 0,.slice none 0 0,.slice none 0 0,.int .i64 0,.int .i64 0,.int .i64 0,.bool false,.int .i64 0,.int .i64 0,.int .i64 0,.int .i64 0,.int .u64 0,.slice none 0 0,.int .i64 0,.int .i64 0,.slice none 0 0,.bool false]],[]⟩ 8 aH aH aH aH aH aH) ?_
 intro W base args ds gs before hval hW _ hk _;have hk:Rows.uptoBulkAll (ds++gs)≤1048576:=of_decide_eq_true hk;rw[qm] at hk;refine xC fits (P:=Tryz.prog) (ts:=[3,4,9,22,24,25,27,28,30,31,39,40,41,42,43,44,45,46,48,53,57,71,73,87,92,94,116,121,123,127,129,130,132,133,134,136,138,139,141,144,146,207,209,221,247,249,251]) aH rfl rfl Tryz.underlying4 ?_ shaped W (fun g cs h=>by simp[JE] at h) base args ds gs before hval (fun d hd=>by have:=(lL ds).2 d hd;omega) hW;intro ds hd
 match ds,hd with
 | [_],_=>exact⟨rfl,rfl,rfl⟩
theorem over:Rows.combatEventsUptoRow.holds Tryz.pinned (Rows.OpenSpec.upto Rows.combatEventsSpec) :=
 OpenClaim.holds_of_cond 9 Tryz.f9 rfl rfl rfl rfl rfl rfl rfl ⟨rfl,rfl,rfl,rfl,rfl⟩ rfl rfl rfl rfl rfl zY Tryz.func9 joined
  inst wrap
  (fun os started H enc _ F=>lifted os started H enc F)
theorem proved:Rows.CombatEventsUptoSaid :=
 over
end Go.Proofs.YtlacmdnhabblcaaGreat.combatEvents
