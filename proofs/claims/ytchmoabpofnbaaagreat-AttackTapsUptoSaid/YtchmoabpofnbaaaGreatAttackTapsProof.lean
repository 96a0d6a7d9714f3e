import Derived.WalkKit
import Derived.ProofKit
import Derived.OpenShut
import Derived.JoinedCond
import Derived.Shelf.Vars
import Derived.Test.YtchmoabpofnbaaaGreatC113
import Derived.Test.YtchmoabpofnbaaaGreatC114
/-
  'AttackTaps': for every input the law returns true, and its arguments read behind the call as they read before. On arguments of bulk at most 1048576 (the second form).
-/
set_option linter.all false
namespace Go.Proofs.YtchmoabpofnbaaaGreat.attackTaps
open Go Go.Pv Go.ChangeShapes Go.WideShapes Go.ChangeAt Go.RowKit
theorem shaped [GM](pvs:List PV)(h:MM Tryz.prog 1048576 Tryz.f9.params.toList pvs):eH 9 pvs (fun u=>u=.sb true):=by
 rw[Tryz.params9] at h;obtain⟨p0,q0,rfl,h0,h⟩:=MM.Au h;obtain⟨p1,q1,rfl,h1,h⟩:=MM.Au h;obtain⟨p2,q2,rfl,h2,h⟩:=MM.Au h;obtain rfl:=h.lK;obtain⟨x0,rfl,k0⟩:=akY h0;obtain⟨x1,rfl,k1⟩:=akZ h1;obtain⟨x2,rfl,k2⟩:=sV25 h2;exact CW.w (M:=ku) (g:=uH x0 x1 x2) _ (UM x0 x1 x2  (z22 k0) (z31 k1) (z25 k2))
theorem Vl {H:Type}:∀ d:DataW H,1≤Rows.uptoBulk d
 | .lit l=>by cases l<;>simp[Rows.uptoBulk]
 | .nil=>by simp[Rows.uptoBulk]
 | .ptr d=>by unfold Rows.uptoBulk;omega
 | .slice e s=>by unfold Rows.uptoBulk;omega
 | .agg p=>by unfold Rows.uptoBulk;omega
 | .iface _ d=>by unfold Rows.uptoBulk;omega
 | .map e=>by unfold Rows.uptoBulk;omega
 | .held _=>by simp[Rows.uptoBulk]
theorem Aw {H:Type}:∀ (l:List (DataW H)),l.length≤Rows.uptoBulkAll l∧∀ d∈l,Rows.uptoBulk d≤Rows.uptoBulkAll l
 | []=>by simp
 | d::l=>by
  obtain⟨h1,h2⟩:=Aw l;have:=Vl d;unfold Rows.uptoBulkAll;refine⟨by simp only[List.length_cons];omega,fun x hx=>?_⟩;rcases List.mem_cons.1 hx with rfl|hx
  ·omega
  ·have:=h2 x hx;omega
theorem fits {H:Type}:Fit 1048576 (fun d:DataW H=>Rows.uptoBulk d≤1048576) where
 str b h:=by simp only[Rows.uptoBulk] at h;omega
 sl es rest h:=by
  simp only[Rows.uptoBulk] at h;obtain⟨h1,h2⟩:=Aw es;exact⟨by omega,fun e he=>by have:=h2 e he;omega⟩
 agg es h e he:=by
  simp only[Rows.uptoBulk] at h;have:=(Aw es).2 e he;omega
 ptr d h:=by simp only[Rows.uptoBulk] at h;omega
theorem Qi {H:Type}:∀ (a b:List (DataW H)),Rows.uptoBulkAll (a++b)=Rows.uptoBulkAll a+Rows.uptoBulkAll b
 | [],b=>by simp[Rows.uptoBulkAll]
 | d::a,b=>by simp only[List.cons_append,Rows.uptoBulkAll,Qi a b];omega
set_option maxRecDepth 100000 in
theorem lifted (os:Os)(started:os.Started)(H:Type)(enc:TypeId×Value→H)(F:Stop.Interp) :
  ReturnsInHanded {} Tryz.checked os 9 .any ((Rows.OpenSpec.upto Rows.attackTapsSpec).pre6 enc Tryz.prog Tryz.f9 Rows.attackTapsUptoRow.domain false) (((Rows.OpenSpec.upto Rows.attackTapsSpec).at F).post enc Tryz.prog Tryz.f9 false true false false):=by
 refine returnsInHanded_of_calls (C:=Tryz.checked) own started noInit
  (OpenSpec.witness (x:=([.nil,.agg [.nil,.nil,.nil,.nil,.nil,.nil,.nil,.lit (.int .i64 0),.lit (.int .i64 0),.lit (.int .i64 0),.lit (.bool false),.lit (.int .i64 0),.lit (.int .i64 0),.lit (.int .i64 0),.lit (.int .i64 0),.lit (.int .u64 0),.nil,.lit (.int .i64 0),.lit (.int .i64 0)],.nil],[],[])) (k:=Rows.uptoSmall) (enc:=enc) (C:=Tryz.checked) rfl false ⟨#[],#[.slice none 0 0,.agg #[.slice none 0 0,.slice none 0 0,.slice none 0 0,.slice none 0 0,.slice none 0 0,.slice none 0 0,.slice none 0 0,.int .i64 0,.int .i64 0,.int .i64 0,.bool false,.int .i64 0,.int .i64 0,.int .i64 0,.int .i64 0,.int .u64 0,.slice none 0 0,.int .i64 0,.int .i64 0],.slice none 0 0],[]⟩ 8 aA aA aA aA aA aA) ?_
 intro w tape i _ hsh _ hok hpre _;obtain⟨_,_,_,fn',hfn',_,_,_,_,hval⟩:=hok;obtain rfl:fn'=Tryz.f9:=Option.some.inj (hfn'.symm.trans Tryz.func9);obtain⟨ds,gs,before,hW,_,hk⟩:=(OpenSpec.pre_some (k:=Rows.uptoSmall) rfl _ _ _ _).1 hpre.1;have hW:=DataW.Whole.of_heap (w':=w.forCall tape i) (by rfl) hW;obtain⟨m,hm⟩:=cell_of_shapedOpen_int (g:=0) (t:=3) (zero:=#[.int .i64 0]) hsh (of_decide_eq_true aA) aA rfl aA aA Tryz.underlying3
 letI:GM:=⟨m⟩
 have hG:RX glF (w.forCall tape i) NoY:=by
  intro g cs h
  cases hg:Nat.beq g 0 with
  | false=>unfold glF at h;rw[hg] at h;cases h
  | true=>
   unfold glF at h;rw[hg] at h;cases h;obtain rfl:=Nat.eq_of_beq_eq_true hg;unfold Rep;refine⟨_,_,rfl,⟨KG hm,fun h=>h⟩,?_⟩;unfold iG;exact⟨⟨_,hm,by unfold Rep;rfl⟩,by unfold iG;trivial⟩
 have hk:Rows.uptoBulkAll (ds++gs)≤1048576:=of_decide_eq_true hk;rw[Qi] at hk;refine Calls.mono (Vm fits (P:=Tryz.prog) (ts:=[3,4,9,22,23,24,25,26,27,28,29,31,32,34,54,56,66,83,85,86,88,89,98,101,103,105,106,108,110,111,112,114,145,147,151,155,210,215,263,265,267,284]) aA rfl rfl Tryz.underlying4 ?_ shaped (w.forCall tape i) hG w.heap.size i.args ds gs before hval (fun d hd=>by have:=(Aw ds).2 d hd;omega) hW) fun e W' ⟨v,he,hp⟩=>?_
 rotate_left
 ·subst he;exact ChangeSpec.post_blind hp
 intro ds hd
 match ds,hd with
 | [_,_,_],_=>exact⟨rfl,rfl,rfl⟩
theorem over:Rows.attackTapsUptoRow.holds Tryz.pinned (Rows.OpenSpec.upto Rows.attackTapsSpec) :=
 OpenClaim.holds_of_cond 9 Tryz.f9 rfl rfl rfl rfl rfl rfl rfl ⟨rfl,rfl,rfl,rfl,rfl⟩ rfl rfl rfl rfl rfl abU Tryz.func9 joined
  inst wrap
  (fun os started H enc _ F=>lifted os started H enc F)
theorem proved:Rows.AttackTapsUptoSaid :=
 over
end Go.Proofs.YtchmoabpofnbaaaGreat.attackTaps
