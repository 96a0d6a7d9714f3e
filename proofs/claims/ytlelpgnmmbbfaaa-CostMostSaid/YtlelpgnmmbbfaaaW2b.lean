/-
  Functions of this seat as plain functions, each with its walk (written by godec.py).
-/
import Derived.Test.YtlelpgnmmbbfaaaW1a
import Derived.Test.YtlelpgnmmbbfaaaW1b
namespace Go.Proofs.Ytlelpgnmmbbfaaa
open Go Go.Pv
set_option linter.all false
set_option linter.unusedVariables false
set_option linter.unusedSimpArgs false
set_option maxRecDepth 100000
set_option maxHeartbeats 2000000
theorem c20 {M : EncM} (hM : M = mapE) {p : Arr6 Int} {c : GCost} {x : Int} {r : (Arr6 Int) × Int} (hf : r08_Pay p c x = some r) : Pv.Fn Try.prog glF 20 [.agg [.si .i64 p.a0, .si .i64 p.a1, .si .i64 p.a2, .si .i64 p.a3, .si .i64 p.a4, .si .i64 p.a5], .agg (eGCost M c), .si .i64 x] (fun u => u = .tup [.agg [.si .i64 r.1.a0, .si .i64 r.1.a1, .si .i64 r.1.a2, .si .i64 r.1.a3, .si .i64 r.1.a4, .si .i64 r.1.a5], .si .i64 r.2]) := by
  refine fn_dec (T := (tabc [2, 12, 32])) (tabcOK [2, 12, 32]) rfl wf Try.func20 rfl Try.call20 rfl ?_
  intro S R hS hR
  have q := sf hM hS
  unfold r08_Pay at hf
  cbv
  refine d_cut hS [] [2, 3, 4, 6, 29] (fun s1 => ⟨tpsL 0 97 [(2, .si .i64 x), (3, .lv 0 0), (4, .lv 1 0), (6, .lv 2 0), (29, .sb s1)], [(0, some (.var false [.si .i64 p.a0, .si .i64 p.a1, .si .i64 p.a2, .si .i64 p.a3, .si .i64 p.a4, .si .i64 p.a5])), (1, some (.var false (eGCost M c))), (2, some (.var false [.si .i64 0, .si .i64 0, .si .i64 0, .si .i64 0, .si .i64 0, .si .i64 0]))], 3⟩) hf ?_ ?_
  · intro Ik2 k2 hk2 hf; cbv
    refine d_callp hS hf (fun _ h => c39 hM h) (le_eq rfl) ?_
    intro y4 hf; cbv
    refine d_br hS hf (by simp only [q]; try first | rfl | simp [stdCmp, eI, eB, eL, eS, q]) ?_ ?_
    · intro hf; cbv
      exact ⟨_, hf, by rw [hk2] <;> (conv => lhs; cbv) <;> (try simp only [q]) <;> (try rfl) <;> (try simp only [eL, q]) <;> (try rfl)⟩
    intro hf; cbv
    refine d_callp hS hf (fun _ h => c40 hM h) (le_eq rfl) ?_
    intro y5 hf; cbv
    refine d_br hS hf (by simp only [q]; try first | rfl | simp [stdCmp, eI, eB, eL, eS, q]) ?_ ?_
    · intro hf; cbv
      exact ⟨_, hf, by rw [hk2] <;> (conv => lhs; cbv) <;> (try simp only [q]) <;> (try rfl) <;> (try simp only [eL, q]) <;> (try rfl)⟩
    intro hf; cbv
    refine d_br hS hf (by simp only [q]; try first | rfl | simp [stdCmp, eI, eB, eL, eS, q]) ?_ ?_
    · intro hf; cbv
      exact ⟨_, hf, by rw [hk2] <;> (conv => lhs; cbv) <;> (try simp only [q]) <;> (try rfl) <;> (try simp only [eL, q]) <;> (try rfl)⟩
    intro hf; cbv
    exact ⟨_, hf, by rw [hk2] <;> (conv => lhs; cbv) <;> (try simp only [q]) <;> (try rfl) <;> (try simp only [eL, q]) <;> (try rfl)⟩
  intro s1 hf; cbv
  refine d_br hS hf rfl ?_ ?_
  · intro hf; cbv
    cases hf; exact hR _ (lp_eq rfl)
  intro hf; cbv
  refine l_roundsF hS (tabcOK [2, 12, 32]) wf 7 ?_; intro g6 hg6
  refine hg6 _ _ ?_; cbv
  refine l_seq hS ?_; cbv
  refine l_order hS (by kernel_rfl) ?_; cbv
  refine d_br hS hf (by simp only [q]; try first | rfl | simp [stdCmp, eI, eB, eL, eS, q]) ?_ ?_
  · intro hf; cbv
    cases hf; exact hR _ (lp_eq rfl)
  intro hf; cbv
  refine l_order hS (by kernel_rfl) ?_; cbv
  refine hg6 _ _ ?_; cbv
  refine l_seq hS ?_; cbv
  refine l_order hS (by kernel_rfl) ?_; cbv
  refine d_br hS hf (by simp only [q]; try first | rfl | simp [stdCmp, eI, eB, eL, eS, q]) ?_ ?_
  · intro hf; cbv
    cases hf; exact hR _ (lp_eq rfl)
  intro hf; cbv
  refine l_order hS (by kernel_rfl) ?_; cbv
  replace hf := d_lt hf
  obtain ⟨v7, gv7, ev7⟩ : ∃ z : Int, (S.bin .add .i64 (S.bin .add .i64 p.a0 (S.bin .sub .i64 p.a1 c.color.a0)) (S.bin .sub .i64 p.a2 c.color.a1)) = z ∧ (addI (addI p.a0 (subI p.a1 c.color.a0)) (subI p.a2 c.color.a1)) = z := ⟨_, rfl, (by simp only [q]; try first | rfl | simp [stdCmp, eI, eB, eL, eS, q])⟩
  (try rw [gv7]); (try (conv at gv7 => (lhs; cbv))); (try rw [gv7]); (try rw [ev7] at hf); clear gv7 ev7
  refine hg6 _ _ ?_; cbv
  refine l_seq hS ?_; cbv
  refine l_order hS (by kernel_rfl) ?_; cbv
  refine d_br hS hf (by simp only [q]; try first | rfl | simp [stdCmp, eI, eB, eL, eS, q]) ?_ ?_
  · intro hf; cbv
    cases hf; exact hR _ (lp_eq rfl)
  intro hf; cbv
  refine l_order hS (by kernel_rfl) ?_; cbv
  refine hg6 _ _ ?_; cbv
  refine l_seq hS ?_; cbv
  refine l_order hS (by kernel_rfl) ?_; cbv
  refine d_br hS hf (by simp only [q]; try first | rfl | simp [stdCmp, eI, eB, eL, eS, q]) ?_ ?_
  · intro hf; cbv
    cases hf; exact hR _ (lp_eq rfl)
  intro hf; cbv
  refine l_order hS (by kernel_rfl) ?_; cbv
  replace hf := d_lt hf
  obtain ⟨v8, gv8, ev8⟩ : ∃ z : Int, (S.bin .add .i64 (S.bin .add .i64 v7 (S.bin .sub .i64 p.a3 c.color.a2)) (S.bin .sub .i64 p.a4 c.color.a3)) = z ∧ (addI (addI v7 (subI p.a3 c.color.a2)) (subI p.a4 c.color.a3)) = z := ⟨_, rfl, (by simp only [q]; try first | rfl | simp [stdCmp, eI, eB, eL, eS, q])⟩
  (try rw [gv8]); (try (conv at gv8 => (lhs; cbv))); (try rw [gv8]); (try rw [ev8] at hf); clear gv8 ev8
  refine hg6 _ _ ?_; cbv
  refine l_seq hS ?_; cbv
  refine l_order hS (by kernel_rfl) ?_; cbv
  refine d_br hS hf (by simp only [q]; try first | rfl | simp [stdCmp, eI, eB, eL, eS, q]) ?_ ?_
  · intro hf; cbv
    cases hf; exact hR _ (lp_eq rfl)
  intro hf; cbv
  refine l_order hS (by kernel_rfl) ?_; cbv
  refine hg6 _ _ ?_; cbv
  refine l_seq hS ?_; cbv
  replace hf := d_lt hf
  refine d_br hS hf (by simp only [q]; try first | rfl | simp [stdCmp, eI, eB, eL, eS, q]) ?_ ?_
  · intro hf; cbv
    cases hf; exact hR _ (lp_eq rfl)
  intro hf; cbv
  refine l_roundsF hS (tabcOK [2, 12, 32]) wf 8 ?_; intro g10 hg10
  refine hg10 _ _ ?_; cbv
  refine l_seq hS ?_; cbv
  replace hf := d_lt hf
  obtain ⟨v11, gv11, ev11⟩ : ∃ z : Int, (S.bin .sub .i64 p.a0 (S.smin (S.bin .add .i64 c.generic (S.bin .mul .i64 c.x x)) p.a0)) = z ∧ (subI p.a0 (if p.a0 < (addI c.generic (mulI c.x x)) then p.a0 else (addI c.generic (mulI c.x x)))) = z := ⟨_, rfl, (by simp only [q]; try first | rfl | simp [stdCmp, eI, eB, eL, eS, q])⟩
  (try rw [gv11]); (try (conv at gv11 => (lhs; cbv))); (try rw [gv11]); (try rw [ev11] at hf); clear gv11 ev11
  replace hf := d_lt hf
  obtain ⟨v12, gv12, ev12⟩ : ∃ z : Int, (S.bin .sub .i64 (S.bin .add .i64 c.generic (S.bin .mul .i64 c.x x)) (S.smin (S.bin .add .i64 c.generic (S.bin .mul .i64 c.x x)) p.a0)) = z ∧ (subI (addI c.generic (mulI c.x x)) (if p.a0 < (addI c.generic (mulI c.x x)) then p.a0 else (addI c.generic (mulI c.x x)))) = z := ⟨_, rfl, (by simp only [q]; try first | rfl | simp [stdCmp, eI, eB, eL, eS, q])⟩
  (try rw [gv12]); (try (conv at gv12 => (lhs; cbv))); (try rw [gv12]); (try rw [ev12] at hf); clear gv12 ev12
  refine hg10 _ _ ?_; cbv
  refine l_seq hS ?_; cbv
  replace hf := d_lt hf
  obtain ⟨v13, gv13, ev13⟩ : ∃ z : Int, (S.bin .sub .i64 (S.bin .sub .i64 p.a1 c.color.a0) (S.smin v12 (S.bin .sub .i64 p.a1 c.color.a0))) = z ∧ (subI (subI p.a1 c.color.a0) (if (subI p.a1 c.color.a0) < v12 then (subI p.a1 c.color.a0) else v12)) = z := ⟨_, rfl, (by simp only [q]; try first | rfl | simp [stdCmp, eI, eB, eL, eS, q])⟩
  (try rw [gv13]); (try (conv at gv13 => (lhs; cbv))); (try rw [gv13]); (try rw [ev13] at hf); clear gv13 ev13
  replace hf := d_lt hf
  obtain ⟨v14, gv14, ev14⟩ : ∃ z : Int, (S.bin .sub .i64 v12 (S.smin v12 (S.bin .sub .i64 p.a1 c.color.a0))) = z ∧ (subI v12 (if (subI p.a1 c.color.a0) < v12 then (subI p.a1 c.color.a0) else v12)) = z := ⟨_, rfl, (by simp only [q]; try first | rfl | simp [stdCmp, eI, eB, eL, eS, q])⟩
  (try rw [gv14]); (try (conv at gv14 => (lhs; cbv))); (try rw [gv14]); (try rw [ev14] at hf); clear gv14 ev14
  refine hg10 _ _ ?_; cbv
  refine l_seq hS ?_; cbv
  replace hf := d_lt hf
  obtain ⟨v15, gv15, ev15⟩ : ∃ z : Int, (S.bin .sub .i64 (S.bin .sub .i64 p.a2 c.color.a1) (S.smin v14 (S.bin .sub .i64 p.a2 c.color.a1))) = z ∧ (subI (subI p.a2 c.color.a1) (if (subI p.a2 c.color.a1) < v14 then (subI p.a2 c.color.a1) else v14)) = z := ⟨_, rfl, (by simp only [q]; try first | rfl | simp [stdCmp, eI, eB, eL, eS, q])⟩
  (try rw [gv15]); (try (conv at gv15 => (lhs; cbv))); (try rw [gv15]); (try rw [ev15] at hf); clear gv15 ev15
  replace hf := d_lt hf
  obtain ⟨v16, gv16, ev16⟩ : ∃ z : Int, (S.bin .sub .i64 v14 (S.smin v14 (S.bin .sub .i64 p.a2 c.color.a1))) = z ∧ (subI v14 (if (subI p.a2 c.color.a1) < v14 then (subI p.a2 c.color.a1) else v14)) = z := ⟨_, rfl, (by simp only [q]; try first | rfl | simp [stdCmp, eI, eB, eL, eS, q])⟩
  (try rw [gv16]); (try (conv at gv16 => (lhs; cbv))); (try rw [gv16]); (try rw [ev16] at hf); clear gv16 ev16
  refine hg10 _ _ ?_; cbv
  refine l_seq hS ?_; cbv
  replace hf := d_lt hf
  obtain ⟨v17, gv17, ev17⟩ : ∃ z : Int, (S.bin .sub .i64 (S.bin .sub .i64 p.a3 c.color.a2) (S.smin v16 (S.bin .sub .i64 p.a3 c.color.a2))) = z ∧ (subI (subI p.a3 c.color.a2) (if (subI p.a3 c.color.a2) < v16 then (subI p.a3 c.color.a2) else v16)) = z := ⟨_, rfl, (by simp only [q]; try first | rfl | simp [stdCmp, eI, eB, eL, eS, q])⟩
  (try rw [gv17]); (try (conv at gv17 => (lhs; cbv))); (try rw [gv17]); (try rw [ev17] at hf); clear gv17 ev17
  replace hf := d_lt hf
  obtain ⟨v18, gv18, ev18⟩ : ∃ z : Int, (S.bin .sub .i64 v16 (S.smin v16 (S.bin .sub .i64 p.a3 c.color.a2))) = z ∧ (subI v16 (if (subI p.a3 c.color.a2) < v16 then (subI p.a3 c.color.a2) else v16)) = z := ⟨_, rfl, (by simp only [q]; try first | rfl | simp [stdCmp, eI, eB, eL, eS, q])⟩
  (try rw [gv18]); (try (conv at gv18 => (lhs; cbv))); (try rw [gv18]); (try rw [ev18] at hf); clear gv18 ev18
  refine hg10 _ _ ?_; cbv
  refine l_seq hS ?_; cbv
  replace hf := d_lt hf
  obtain ⟨v19, gv19, ev19⟩ : ∃ z : Int, (S.bin .sub .i64 (S.bin .sub .i64 p.a4 c.color.a3) (S.smin v18 (S.bin .sub .i64 p.a4 c.color.a3))) = z ∧ (subI (subI p.a4 c.color.a3) (if (subI p.a4 c.color.a3) < v18 then (subI p.a4 c.color.a3) else v18)) = z := ⟨_, rfl, (by simp only [q]; try first | rfl | simp [stdCmp, eI, eB, eL, eS, q])⟩
  (try rw [gv19]); (try (conv at gv19 => (lhs; cbv))); (try rw [gv19]); (try rw [ev19] at hf); clear gv19 ev19
  replace hf := d_lt hf
  obtain ⟨v20, gv20, ev20⟩ : ∃ z : Int, (S.bin .sub .i64 v18 (S.smin v18 (S.bin .sub .i64 p.a4 c.color.a3))) = z ∧ (subI v18 (if (subI p.a4 c.color.a3) < v18 then (subI p.a4 c.color.a3) else v18)) = z := ⟨_, rfl, (by simp only [q]; try first | rfl | simp [stdCmp, eI, eB, eL, eS, q])⟩
  (try rw [gv20]); (try (conv at gv20 => (lhs; cbv))); (try rw [gv20]); (try rw [ev20] at hf); clear gv20 ev20
  refine hg10 _ _ ?_; cbv
  refine l_seq hS ?_; cbv
  replace hf := d_lt hf
  obtain ⟨v21, gv21, ev21⟩ : ∃ z : Int, (S.bin .sub .i64 (S.bin .sub .i64 p.a5 c.color.a4) (S.smin v20 (S.bin .sub .i64 p.a5 c.color.a4))) = z ∧ (subI (subI p.a5 c.color.a4) (if (subI p.a5 c.color.a4) < v20 then (subI p.a5 c.color.a4) else v20)) = z := ⟨_, rfl, (by simp only [q]; try first | rfl | simp [stdCmp, eI, eB, eL, eS, q])⟩
  (try rw [gv21]); (try (conv at gv21 => (lhs; cbv))); (try rw [gv21]); (try rw [ev21] at hf); clear gv21 ev21
  replace hf := d_lt hf
  obtain ⟨v22, gv22, ev22⟩ : ∃ z : Int, (S.bin .sub .i64 v20 (S.smin v20 (S.bin .sub .i64 p.a5 c.color.a4))) = z ∧ (subI v20 (if (subI p.a5 c.color.a4) < v20 then (subI p.a5 c.color.a4) else v20)) = z := ⟨_, rfl, (by simp only [q]; try first | rfl | simp [stdCmp, eI, eB, eL, eS, q])⟩
  (try rw [gv22]); (try (conv at gv22 => (lhs; cbv))); (try rw [gv22]); (try rw [ev22] at hf); clear gv22 ev22
  refine hg10 _ _ ?_; cbv
  refine l_seq hS ?_; cbv
  cases hf; exact hR _ (lp_eq rfl)
theorem c28 {M : EncM} (hM : M = mapE) {a : GAbility} {r : GAbility} (hf : zone_copyAbility a = some r) : Pv.Fn Try.prog glF 28 [.agg (eGAbility M a)] (fun u => u = .agg (eGAbility M r)) := by
  refine fn_dec (T := tab) tabOK rfl wf Try.func28 rfl Try.call28 rfl ?_
  intro S R hS hR
  have q := sf hM hS
  unfold zone_copyAbility at hf
  cbv
  refine d_callo hS hf (fun _ h => o32 hM h) (le_eq rfl) ?_
  intro y1 hf; cbv
  refine d_callo hS hf (fun _ h => o45 hM h) (le_eq rfl) ?_
  intro y2 hf; cbv
  refine d_callo hS hf (fun _ h => o46 hM h) (le_eq rfl) ?_
  intro y3 hf; cbv
  refine d_loop hS tabOK wf [] [1, 2, 18, 19] (fun s4 => ⟨tpsL 0 36 [(1, .lv 0 0), (2, .lv 4 0), (18, .si .i64 (S.nint (M.n GEffect y3))), (19, .si .i64 s4.1)], [(0, some (.var false [.si .i64 a.kind, .si .i64 a.filter.zone, .si .i64 a.filter.who, .si .i64 a.filter.self, .si .i64 a.filter.types, .si .i64 a.filter.notTypes, .si .i64 a.filter.colors, .si .i64 a.filter.notColors, .str a.filter.sub, .si .i64 a.filter.keys, .si .i64 a.filter.tap, .si .i64 a.filter.power.kind, .si .i64 a.filter.power.n, .si .i64 a.filter.tough.kind, .si .i64 a.filter.tough.n, .si .i64 a.filter.value.kind, .si .i64 a.filter.value.n, .os 1 0 (S.lenN (M.m GMod (eGMod M) y1)), .si .i64 a.price.mana.generic, .si .i64 a.price.mana.x, .si .i64 a.price.mana.color.a0, .si .i64 a.price.mana.color.a1, .si .i64 a.price.mana.color.a2, .si .i64 a.price.mana.color.a3, .si .i64 a.price.mana.color.a4, .sb a.price.tap, .sb a.price.sacrifice, .si .i64 a.price.life, .sb a.slow, .si .i64 a.trigger.when, .si .i64 a.trigger.who, .si .i64 a.trigger.filter.zone, .si .i64 a.trigger.filter.who, .si .i64 a.trigger.filter.self, .si .i64 a.trigger.filter.types, .si .i64 a.trigger.filter.notTypes, .si .i64 a.trigger.filter.colors, .si .i64 a.trigger.filter.notColors, .str a.trigger.filter.sub, .si .i64 a.trigger.filter.keys, .si .i64 a.trigger.filter.tap, .si .i64 a.trigger.filter.power.kind, .si .i64 a.trigger.filter.power.n, .si .i64 a.trigger.filter.tough.kind, .si .i64 a.trigger.filter.tough.n, .si .i64 a.trigger.filter.value.kind, .si .i64 a.trigger.filter.value.n, .sb a.may, .os 2 0 (S.lenN (M.m GSpec (eGSpec M) y2)), .os 3 0 (S.lenN (M.m GEffect (eGEffect M) s4.2)), .si .i64 a.replace.on, .si .i64 a.replace.who, .si .i64 a.replace.filter.zone, .si .i64 a.replace.filter.who, .si .i64 a.replace.filter.self, .si .i64 a.replace.filter.types, .si .i64 a.replace.filter.notTypes, .si .i64 a.replace.filter.colors, .si .i64 a.replace.filter.notColors, .str a.replace.filter.sub, .si .i64 a.replace.filter.keys, .si .i64 a.replace.filter.tap, .si .i64 a.replace.filter.power.kind, .si .i64 a.replace.filter.power.n, .si .i64 a.replace.filter.tough.kind, .si .i64 a.replace.filter.tough.n, .si .i64 a.replace.filter.value.kind, .si .i64 a.replace.filter.value.n, .si .i64 a.replace.doF, .si .i64 a.replace.n, .si .i64 a.replace.zone, .si .i64 a.replace.counter])), (1, some (.arr false 20 (M.m GMod (eGMod M) y1))), (2, some (.arr false 18 (M.m GSpec (eGSpec M) y2))), (3, some (.arr false 64 (M.m GEffect (eGEffect M) s4.2))), (4, some (.var false [.si .i64 0, .si .i64 0, .si .i64 0, .si .i64 0, .si .i64 0, .si .i64 0, .si .i64 0, .si .i64 0, .str (bs []), .si .i64 0, .si .i64 0, .si .i64 0, .si .i64 0, .si .i64 0, .si .i64 0, .si .i64 0, .si .i64 0, .sl 0 [] true, .si .i64 0, .si .i64 0, .si .i64 0, .si .i64 0, .si .i64 0, .si .i64 0, .si .i64 0, .sb false, .sb false, .si .i64 0, .sb false, .si .i64 0, .si .i64 0, .si .i64 0, .si .i64 0, .si .i64 0, .si .i64 0, .si .i64 0, .si .i64 0, .si .i64 0, .str (bs []), .si .i64 0, .si .i64 0, .si .i64 0, .si .i64 0, .si .i64 0, .si .i64 0, .si .i64 0, .si .i64 0, .sb false, .sl 0 [] true, .sl 0 [] true, .si .i64 0, .si .i64 0, .si .i64 0, .si .i64 0, .si .i64 0, .si .i64 0, .si .i64 0, .si .i64 0, .si .i64 0, .str (bs []), .si .i64 0, .si .i64 0, .si .i64 0, .si .i64 0, .si .i64 0, .si .i64 0, .si .i64 0, .si .i64 0, .si .i64 0, .si .i64 0, .si .i64 0, .si .i64 0]))], 5⟩) hf (by (conv => lhs; cbv) <;> (try simp only [q]) <;> (try rfl)) ?_
  intro Ik5 k5 s4 hk5 hf e he; subst he
  unfold zone_copyAbility_l1 at hf
  cbv
  refine d_br hS hf (by simp only [q]; try first | rfl | simp [stdCmp, eI, eB, eL, eS, q]) ?_ ?_
  · intro hf; cbv
    refine l_order hS (by kernel_rfl) ?_; cbv
    refine d_ix hS hf (by simp only [q]; try first | rfl | simp [stdCmp, eI, eB, eL, eS, q]) rfl ?_
    intro j7 _ hf; cbv
    refine d_row hS hM hf rfl (by simp only [q]; try first | rfl | simp [stdCmp, eI, eB, eL, eS, q]) ?_
    intro x8 hf; cbv
    refine d_call hS hf (fun _ h => c32 hM h) (le_eq rfl) ?_
    intro y9 hf; cbv
    refine d_ix hS hf (by simp only [q]; try first | rfl | simp [stdCmp, eI, eB, eL, eS, q]) rfl ?_
    intro j10 _ hf; cbv
    refine d_row hS hM hf rfl (by simp only [q]; try first | rfl | simp [stdCmp, eI, eB, eL, eS, q]) ?_
    intro x11 hf; cbv
    exact ⟨_, hf, by rw [hk5] <;> (conv => lhs; cbv) <;> (try simp only [q]) <;> (try rfl) <;> (try simp only [eL, q]) <;> (try rfl)⟩
  intro hf; cbv
  cases hf; exact hR _ (lp_eq (by simp only [q]; try first | rfl | simp [stdCmp, eI, eB, eL, eS, q]))
theorem c34 {M : EncM} (hM : M = mapE) {c : GChoice} {r : List Int} (hf : ask_Default c = some r) : Pv.Fn Try.prog glF 34 [.agg (eGChoice M c)] (fun u => u = .sl 1 (M.m Int (eI .i64) r) false) := by
  refine fn_dec (T := tab) tabOK rfl wf Try.func34 rfl Try.call34 rfl ?_
  intro S R hS hR
  have q := sf hM hS
  unfold ask_Default at hf
  cbv
  refine d_br hS hf (by simp only [q]; try first | rfl | simp [stdCmp, eI, eB, eL, eS, q]) ?_ ?_
  · intro hf; cbv
    refine d_wk hS (e := (eI .i64)) hf (by (try simp only [q]); repeat' constructor) ?_
    intro x1 hf; cbv
    cases hf; exact hR _ (lp_eq (by simp only [q]; try first | rfl | simp [stdCmp, eI, eB, eL, eS, q]))
  intro hf; cbv
  refine d_br hS hf (by simp only [q]; try first | rfl | simp [stdCmp, eI, eB, eL, eS, q]) ?_ ?_
  · intro hf; cbv
    refine d_wk hS (e := (eI .i64)) hf (by (try simp only [q]); repeat' constructor) ?_
    intro x2 hf; cbv
    cases hf; exact hR _ (lp_eq (by simp only [q]; try first | rfl | simp [stdCmp, eI, eB, eL, eS, q]))
  intro hf; cbv
  refine d_br hS hf (by simp only [q]; try first | rfl | simp [stdCmp, eI, eB, eL, eS, q]) ?_ ?_
  · intro hf; cbv
    refine d_wk hS (e := (eI .i64)) hf (by (try simp only [q]); repeat' constructor) ?_
    intro x3 hf; cbv
    cases hf; exact hR _ (lp_eq (by simp only [q]; try first | rfl | simp [stdCmp, eI, eB, eL, eS, q]))
  intro hf; cbv
  refine d_br hS hf (by simp only [q]; try first | rfl | simp [stdCmp, eI, eB, eL, eS, q]) ?_ ?_
  · intro hf; cbv
    refine d_wk hS (e := (eI .i64)) hf (by (try simp only [q]); repeat' constructor) ?_
    intro x4 hf; cbv
    cases hf; exact hR _ (lp_eq (by simp only [q]; try first | rfl | simp [stdCmp, eI, eB, eL, eS, q]))
  intro hf; cbv
  refine d_br hS hf (by simp only [q]; try first | rfl | simp [stdCmp, eI, eB, eL, eS, q]) ?_ ?_
  · intro hf; cbv
    refine d_wk hS (e := (eI .i64)) hf (by (try simp only [q]); repeat' constructor) ?_
    intro x5 hf; cbv
    cases hf; exact hR _ (lp_eq (by simp only [q]; try first | rfl | simp [stdCmp, eI, eB, eL, eS, q]))
  intro hf; cbv
  refine d_br hS hf (by simp only [q]; try first | rfl | simp [stdCmp, eI, eB, eL, eS, q]) ?_ ?_
  · intro hf; cbv
    refine d_callp hS hf (fun _ h => c47 hM h) (le_eq (by simp only [q]; try first | rfl | simp [stdCmp, eI, eB, eL, eS, q])) ?_
    intro y6 hf; cbv
    cases hf; exact hR _ (lp_eq rfl)
  intro hf; cbv
  refine d_br hS hf (by simp only [q]; try first | rfl | simp [stdCmp, eI, eB, eL, eS, q]) ?_ ?_
  · intro hf; cbv
    refine d_callp hS hf (fun _ h => c47 hM h) (le_eq (by simp only [q]; try first | rfl | simp [stdCmp, eI, eB, eL, eS, q])) ?_
    intro y7 hf; cbv
    cases hf; exact hR _ (lp_eq rfl)
  intro hf; cbv
  refine d_br hS hf (by simp only [q]; try first | rfl | simp [stdCmp, eI, eB, eL, eS, q]) ?_ ?_
  · intro hf; cbv
    cases hf; exact hR _ (lp_eq (by simp only [q]; try first | rfl | simp [stdCmp, eI, eB, eL, eS, q]))
  intro hf; cbv
  refine d_br hS hf (by simp only [q]; try first | rfl | simp [stdCmp, eI, eB, eL, eS, q]) ?_ ?_
  · intro hf; cbv
    refine d_br hS hf (by simp only [q]; try first | rfl | simp [stdCmp, eI, eB, eL, eS, q]) ?_ ?_
    · intro hf; cbv
      refine d_mks hS hf (by simp only [q]; try first | rfl | simp [stdCmp, eI, eB, eL, eS, q]) (by simp only [q]; try first | rfl | simp [stdCmp, eI, eB, eL, eS, q]) ?_
      intro j8 hf; cbv
      refine d_wk hS (e := (eI .i64)) hf (by (try simp only [q]); repeat' constructor) ?_
      intro x9 hf; cbv
      refine d_ix hS hf rfl rfl ?_
      intro j10 _ hf; cbv
      refine d_row hS hM (e := (eI .i64)) hf (by simp only [q]; try first | rfl | simp [stdCmp, eI, eB, eL, eS, q]) (by simp only [q]; try first | rfl | simp [stdCmp, eI, eB, eL, eS, q]) ?_
      intro x11 hf; cbv
      cases hf; exact hR _ (lp_eq (by simp only [q]; try first | rfl | simp [stdCmp, eI, eB, eL, eS, q]))
    intro hf; cbv
    cases hf; exact hR _ (by (try simp only [q]); repeat' constructor)
  intro hf; cbv
  cases hf; exact hR _ (by (try simp only [q]); repeat' constructor)
theorem o10 {M : EncM} (hM : M = mapE) {answers : List (List Int)} {r : GAskAsker} (hf : ask_New answers = some r) : Pv.FnS Try.prog glF 10 [.sl 1 (M.m (List Int) (eL M 1 (eI .i64)) answers) false] [] 0 (fun u s n => u = .lv 0 0 ∧ s = [(0, some (.var false [.os 1 0 (M.n (List Int) r.answers), .si .i64 r.used, .si .i64 r.pending.kind, .si .i64 r.pending.player, .si .i64 r.pending.source, .si .i64 r.pending.least, .si .i64 r.pending.most, .si .i64 r.pending.n, .sl 3 (M.m GOption (eGOption M) r.pending.options) false, .sb r.waits, .sb r.bad])), (1, some (.arr false 1 (M.m (List Int) (eL M 1 (eI .i64)) r.answers)))] ∧ n = 2) := by
  refine fnS_dec (T := (tabx 0 [] [])) (tabxOK 0 [] []) wf Try.func10 rfl Try.call10 rfl ?_
  intro S R hS hR
  have q := sf hM hS
  unfold ask_New at hf
  cbv
  refine d_loop hS (tabxOK 0 [] []) wf [.cO 0 0 1] [3, 8, 9, 10] (fun s1 => ⟨tpsL 0 27 [(3, .lv 0 0), (8, .sl 1 (M.m (List Int) (eL M 1 (eI .i64)) answers) false), (9, .si .i64 (S.len (M.m (List Int) (eL M 1 (eI .i64)) answers))), (10, .si .i64 s1.1)], [(0, some (.var false [.os 1 0 (S.lenN (M.m (List Int) (eL M 1 (eI .i64)) s1.2)), .si .i64 0, .si .i64 0, .si .i64 0, .si .i64 0, .si .i64 0, .si .i64 0, .si .i64 0, .sl 0 [] true, .sb false, .sb false])), (1, some (.arr false 1 (M.m (List Int) (eL M 1 (eI .i64)) s1.2)))], 2⟩) hf (by (conv => lhs; cbv) <;> (try simp only [q]) <;> (try rfl)) ?_
  intro Ik2 k2 s1 hk2 hf e he; subst he
  unfold ask_New_l1 at hf
  cbv
  refine d_br hS hf (by simp only [q]; try first | rfl | simp [stdCmp, eI, eB, eL, eS, q]) ?_ ?_
  · intro hf; cbv
    refine d_idx hS hM hf rfl rfl ?_
    intro x4 hf; cbv
    refine l_order hS (by kernel_rfl) ?_; cbv
    refine d_call hS hf (fun _ h => c19 hM h) (le_eq rfl) ?_
    intro y5 hf; cbv
    refine d_room hS hf (by simp only [q]; try first | rfl | simp [stdCmp, eI, eB, eL, eS, q]) ?_
    intro hf; cbv
    exact ⟨_, hf, by rw [hk2] <;> (conv => lhs; cbv) <;> (try simp only [q]) <;> (try rfl) <;> (try simp only [eL, q]) <;> (try rfl)⟩
  intro hf; cbv
  cases hf; exact hR _ _ _ (by (try simp only [eGAskAsker, zGOption, zGChoice, zGAskAsker, q]); repeat' constructor) (by (try simp only [eGAskAsker, zGOption, zGChoice, zGAskAsker, q]); repeat' constructor) rfl
theorem c24 {M : EncM} (hM : M = mapE) {p : GPlayer} {r : GPlayer} (hf : zone_copyPlayer p = some r) : Pv.Fn Try.prog glF 24 [.agg (eGPlayer M p)] (fun u => u = .agg (eGPlayer M r)) := by
  refine fn_dec (T := tab) tabOK rfl wf Try.func24 rfl Try.call24 rfl ?_
  intro S R hS hR
  have q := sf hM hS
  unfold zone_copyPlayer at hf
  cbv
  refine d_callp hS hf (fun _ h => c26 hM h) (le_eq rfl) ?_
  intro y1 hf; cbv
  refine d_callp hS hf (fun _ h => c26 hM h) (le_eq rfl) ?_
  intro y2 hf; cbv
  refine d_callp hS hf (fun _ h => c26 hM h) (le_eq rfl) ?_
  intro y3 hf; cbv
  cases hf; exact hR _ (lp_eq rfl)
theorem c58 {M : EncM} (hM : M = mapE) {s : List Int} {v : Int} {r : Bool} (hf : slices_Contains_int s v = some r) : Pv.Fn Try.prog glF 58 [.sl 1 (M.m Int (eI .i64) s) false, .si .i64 v] (fun u => u = .sb r) := by
  refine fn_dec (T := tab) tabOK rfl wf Try.func58 rfl Try.call58 rfl ?_
  intro S R hS hR
  have q := sf hM hS
  unfold slices_Contains_int at hf
  cbv
  refine d_callp hS hf (fun _ h => c57 hM h) (le_eq rfl) ?_
  intro y1 hf; cbv
  cases hf; exact hR _ (lp_eq (by simp only [q]; try first | rfl | simp [stdCmp, eI, eB, eL, eS, q]))
theorem c53 {M : EncM} (hM : M = mapE) {l : List Int} {n : Int} {r : Int} (hf : idset_Index l n = some r) : Pv.Fn Try.prog glF 53 [.sl 1 (M.m Int (eI .i64) l) false, .si .i64 n] (fun u => u = .si .i64 r) := by
  refine fn_dec (T := tab) tabOK rfl wf Try.func53 rfl Try.call53 rfl ?_
  intro S R hS hR
  have q := sf hM hS
  unfold idset_Index at hf
  cbv
  refine d_callp hS hf (fun _ h => c57 hM h) (le_eq rfl) ?_
  intro y1 hf; cbv
  cases hf; exact hR _ (lp_eq rfl)
end Go.Proofs.Ytlelpgnmmbbfaaa
