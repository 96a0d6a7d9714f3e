/-
  The functions of the package counter and of its reference, each by its body's reading.
-/
import Derived.Test.YtkejjohamlimeaaDoorPvA
namespace Go.Proofs.YtkejjohamlimeaaDoor
open Go Go.Pv
set_option linter.all false
set_option linter.unusedSimpArgs false
set_option maxRecDepth 100000
set_option maxHeartbeats 4000000

abbrev cv (c : Int × Int × Int) : PV := .agg [.si .i64 c.1, .si .i64 c.2.1, .si .i64 c.2.2]
def cv1 (c : Int × Int × Int) : PV := .agg [.si .i64 c.1, .si .i64 c.2.1, .si .i64 c.2.2]
def isC (c : Int × Int × Int) : Bool := !(badN c.1 || badN c.2.1 || badN c.2.2)

theorem fn25 (a b c : Int) : Pv.Fn Tryd.prog tab.gl 25 [.sl 1 [[.si .i64 a], [.si .i64 b], [.si .i64 c]] false, .fn 26 []] (fun u => u = .sb (badN a || badN b || badN c)) := by
  refine fn_of tabOK rfl wf Tryd.func25 rfl Tryd.call25 rfl ?_
  intro S R hS hR
  cbv
  refine l_callg hS (PV.si .i64) (fn31 a b c) ?_
  intro x hx; cbv
  refine hR _ ?_
  subst hS hx
  simp only [Sig.std, stdCmp, idxN]
  congr 1
  cases badN a <;> cases badN b <;> cases badN c <;> simp
theorem fn12 (c : Int × Int × Int) : Pv.Fn Tryd.prog tab.gl 12 [cv1 c] (fun u => u = .sb (isC c)) := by
  refine fn_of tabOK rfl wf Tryd.func12 rfl Tryd.call12 rfl ?_
  intro S R hS hR
  cbv
  refine l_callg hS PV.sb (fn25 _ _ _) ?_
  intro x hx; cbv
  refine hR _ ?_
  subst hS hx
  simp [Sig.std, isC]
theorem fn13 (c : Int × Int × Int) : Pv.Fn Tryd.prog tab.gl 13 [cv1 c] (fun u => u = .sb (isC c)) := by
  refine fn_of tabOK rfl wf Tryd.func13 rfl Tryd.call13 rfl ?_
  intro S R hS hR
  cbv
  refine l_rounds tabOK wf hS 4 ?_
  cbv
  repeat' (first
    | (refine l_order hS (by kernel_rfl) ?_; cbv)
    | (refine l_br hS ?_ ?_ <;> (intro _; cbv)))
  all_goals
    refine hR _ ?_
    subst hS
    simp_all [Sig.std, stdCmp, isC, badN]
  all_goals omega

/-! ### Name -/
def sPlus : ByteArray := ⟨#[112, 108, 117, 115]⟩
def sMinus : ByteArray := ⟨#[109, 105, 110, 117, 115]⟩
def sCharge : ByteArray := ⟨#[99, 104, 97, 114, 103, 101]⟩
def sNone : ByteArray := ⟨#[]⟩
def nameS (k : Int) : ByteArray := if k = 0 then sPlus else if k = 1 then sMinus else if k = 2 then sCharge else sNone
theorem fn14a  : Pv.Fn Tryd.prog tab.gl 14 [.si .i64 0] (fun u => u = .str sPlus) := by
  refine fn_of tabOK rfl wf Tryd.func14 rfl Tryd.call14 rfl ?_
  intro S R hS hR
  cbv
  repeat' (first
    | (refine l_brT hS ?_ ?_; (focus ((subst hS; simp_all [Sig.std, stdCmp, stdBin, stdScmp]) <;> fail)); cbv)
    | (refine l_brF hS ?_ ?_; (focus ((subst hS; simp_all [Sig.std, stdCmp, stdBin, stdScmp]) <;> fail)); cbv)
    | (refine l_order hS (by kernel_rfl) ?_; cbv))
  refine l_ix hS (j := 0) rfl ?_ ?_
  · omega
  cbv
  exact hR _ rfl
theorem fn14b  : Pv.Fn Tryd.prog tab.gl 14 [.si .i64 1] (fun u => u = .str sMinus) := by
  refine fn_of tabOK rfl wf Tryd.func14 rfl Tryd.call14 rfl ?_
  intro S R hS hR
  cbv
  repeat' (first
    | (refine l_brT hS ?_ ?_; (focus ((subst hS; simp_all [Sig.std, stdCmp, stdBin, stdScmp]) <;> fail)); cbv)
    | (refine l_brF hS ?_ ?_; (focus ((subst hS; simp_all [Sig.std, stdCmp, stdBin, stdScmp]) <;> fail)); cbv)
    | (refine l_order hS (by kernel_rfl) ?_; cbv))
  refine l_ix hS (j := 1) rfl ?_ ?_
  · omega
  cbv
  exact hR _ rfl
theorem fn14c  : Pv.Fn Tryd.prog tab.gl 14 [.si .i64 2] (fun u => u = .str sCharge) := by
  refine fn_of tabOK rfl wf Tryd.func14 rfl Tryd.call14 rfl ?_
  intro S R hS hR
  cbv
  repeat' (first
    | (refine l_brT hS ?_ ?_; (focus ((subst hS; simp_all [Sig.std, stdCmp, stdBin, stdScmp]) <;> fail)); cbv)
    | (refine l_brF hS ?_ ?_; (focus ((subst hS; simp_all [Sig.std, stdCmp, stdBin, stdScmp]) <;> fail)); cbv)
    | (refine l_order hS (by kernel_rfl) ?_; cbv))
  refine l_ix hS (j := 2) rfl ?_ ?_
  · omega
  cbv
  exact hR _ rfl
theorem fn14d (k : Int) (h : k < 0 ∨ 3 ≤ k) : Pv.Fn Tryd.prog tab.gl 14 [.si .i64 k] (fun u => u = .str sNone) := by
  refine fn_of tabOK rfl wf Tryd.func14 rfl Tryd.call14 rfl ?_
  intro S R hS hR
  cbv
  refine l_br hS ?_ ?_ <;> (intro h1; cbv)
  · exact hR _ rfl
  refine l_brT hS (by subst hS; simp_all [Sig.std, stdCmp]; omega) ?_
  cbv
  exact hR _ rfl
theorem fn14 (k : Int) : Pv.Fn Tryd.prog tab.gl 14 [.si .i64 k] (fun u => u = .str (nameS k)) := by
  unfold nameS
  split
  · rename_i h; subst h; exact fn14a
  split
  · rename_i h; subst h; exact fn14b
  split
  · rename_i h; subst h; exact fn14c
  · exact fn14d k (by omega)
theorem fn15 (k : Int) : Pv.Fn Tryd.prog tab.gl 15 [.si .i64 k] (fun u => u = .str (nameS k)) := by
  refine fn_of tabOK rfl wf Tryd.func15 rfl Tryd.call15 rfl ?_
  intro S R hS hR
  cbv
  repeat' (first
    | (refine l_order hS (by kernel_rfl) ?_; cbv)
    | (refine l_br hS ?_ ?_ <;> (intro _; cbv)))
  all_goals
    refine hR _ ?_
    subst hS
    simp_all [Sig.std, stdCmp, nameS, sPlus, sMinus, sCharge, sNone]

/-! ### Kind -/
def idxS (s : ByteArray) : Int := if s = sPlus then 0 else if s = sMinus then 1 else if s = sCharge then 2 else -1
def kv (p : Int × Bool) : PV := .tup [.si .i64 p.1, .sb p.2]
def kindS (s : ByteArray) : Int × Bool := (if idxS s < 0 then 0 else idxS s, decide (0 ≤ idxS s))
theorem fn24 (s : ByteArray) : Pv.Fn Tryd.prog tab.gl 24 [.sl 1 [[.str sPlus], [.str sMinus], [.str sCharge]] false, .str s] (fun u => u = .si .i64 (idxS s)) := by
  refine fn_of tabOK rfl wf Tryd.func24 rfl Tryd.call24 rfl ?_
  intro S R hS hR
  cbv
  refine l_rounds tabOK wf hS 4 ?_
  cbv
  repeat' (first
    | (refine l_brT hS ?_ ?_; (focus ((subst hS; simp [Sig.std, stdCmp]) <;> fail)); cbv)
    | (refine l_brF hS ?_ ?_; (focus ((subst hS; simp [Sig.std, stdCmp]) <;> fail)); cbv)
    | (refine l_idx hS (j := 0) rfl rfl ?_; cbv)
    | (refine l_idx hS (j := 1) rfl rfl ?_; cbv)
    | (refine l_idx hS (j := 2) rfl rfl ?_; cbv)
    | (refine l_br hS ?_ ?_ <;> (intro _; cbv)))
  all_goals
    refine hR _ ?_
    subst hS
    simp_all [Sig.std, stdScmp, idxS, sPlus, sMinus, sCharge]
theorem fn10 (s : ByteArray) : Pv.Fn Tryd.prog tab.gl 10 [.str s] (fun u => u = kv (kindS s)) := by
  refine fn_of tabOK rfl wf Tryd.func10 rfl Tryd.call10 rfl ?_
  intro S R hS hR
  cbv
  refine l_callg hS (PV.si .i64) (fn24 s) ?_
  intro x hx; cbv
  refine hR _ ?_
  subst hS hx
  simp only [Sig.std, stdCmp, kindS, kv]
theorem fn11 (s : ByteArray) : Pv.Fn Tryd.prog tab.gl 11 [.str s] (fun u => u = kv (kindS s)) := by
  refine fn_of tabOK rfl wf Tryd.func11 rfl Tryd.call11 rfl ?_
  intro S R hS hR
  cbv
  refine l_rounds tabOK wf hS 4 ?_
  cbv
  repeat' (first
    | (refine l_brT hS ?_ ?_; (focus ((subst hS; simp [Sig.std, stdCmp]) <;> fail)); cbv)
    | (refine l_brF hS ?_ ?_; (focus ((subst hS; simp [Sig.std, stdCmp]) <;> fail)); cbv)
    | (refine l_callg hS PV.str (fn15 _) ?_; intro _ _; cbv)
    | (refine l_br hS ?_ ?_ <;> (intro _; cbv)))
  all_goals
    refine hR _ ?_
    subst hS
    simp_all [Sig.std, stdScmp, kindS, kv, idxS, nameS, sPlus, sMinus, sCharge, show ∀ b : ByteArray, (s = b) = (b = s) from fun b => propext eq_comm]

/-! ### Add, Sum -/
def pos0 (n : Int) : Int := if n < 0 then 0 else n
def addC (c : Int × Int × Int) (k n : Int) : Int × Int × Int := if k = 0 then (pos0 (addI c.1 n), c.2) else if k = 1 then (c.1, pos0 (addI c.2.1 n), c.2.2) else if k = 2 then (c.1, c.2.1, pos0 (addI c.2.2 n)) else c
theorem fn16_0 (c : Int × Int × Int) (n : Int) : Pv.Fn Tryd.prog tab.gl 16 [cv1 c, .si .i64 0, .si .i64 n] (fun u => u = cv1 (pos0 (addI c.1 n), c.2)) := by
  refine fn_of tabOK rfl wf Tryd.func16 rfl Tryd.call16 rfl ?_
  intro S R hS hR
  cbv
  repeat' (first
    | (refine l_brT hS ?_ ?_; (focus ((subst hS; simp [Sig.std, stdCmp]) <;> fail)); cbv)
    | (refine l_ix hS (j := 0) rfl (Nat.lt_of_sub_eq_succ rfl) ?_; cbv)
    | (refine l_callg hS (PV.si .i64) (fn27 _ _) ?_; intro _ _; cbv))
  refine hR _ ?_
  subst hS
  simp_all only [Sig.std, cv1, pos0]
  first
    | done
    | (congr 3; split <;> split <;> omega)
    | (congr 4; split <;> split <;> omega)
    | (congr 5; split <;> split <;> omega)
theorem fn16_1 (c : Int × Int × Int) (n : Int) : Pv.Fn Tryd.prog tab.gl 16 [cv1 c, .si .i64 1, .si .i64 n] (fun u => u = cv1 (c.1, pos0 (addI c.2.1 n), c.2.2)) := by
  refine fn_of tabOK rfl wf Tryd.func16 rfl Tryd.call16 rfl ?_
  intro S R hS hR
  cbv
  repeat' (first
    | (refine l_brT hS ?_ ?_; (focus ((subst hS; simp [Sig.std, stdCmp]) <;> fail)); cbv)
    | (refine l_ix hS (j := 1) rfl (Nat.lt_of_sub_eq_succ rfl) ?_; cbv)
    | (refine l_callg hS (PV.si .i64) (fn27 _ _) ?_; intro _ _; cbv))
  refine hR _ ?_
  subst hS
  simp_all only [Sig.std, cv1, pos0]
  first
    | done
    | (congr 3; split <;> split <;> omega)
    | (congr 4; split <;> split <;> omega)
    | (congr 5; split <;> split <;> omega)
theorem fn16_2 (c : Int × Int × Int) (n : Int) : Pv.Fn Tryd.prog tab.gl 16 [cv1 c, .si .i64 2, .si .i64 n] (fun u => u = cv1 (c.1, c.2.1, pos0 (addI c.2.2 n))) := by
  refine fn_of tabOK rfl wf Tryd.func16 rfl Tryd.call16 rfl ?_
  intro S R hS hR
  cbv
  repeat' (first
    | (refine l_brT hS ?_ ?_; (focus ((subst hS; simp [Sig.std, stdCmp]) <;> fail)); cbv)
    | (refine l_ix hS (j := 2) rfl (Nat.lt_of_sub_eq_succ rfl) ?_; cbv)
    | (refine l_callg hS (PV.si .i64) (fn27 _ _) ?_; intro _ _; cbv))
  refine hR _ ?_
  subst hS
  simp_all only [Sig.std, cv1, pos0]
  first
    | done
    | (congr 3; split <;> split <;> omega)
    | (congr 4; split <;> split <;> omega)
    | (congr 5; split <;> split <;> omega)
theorem fn16_x (c : Int × Int × Int) (k n : Int) (h : k < 0 ∨ 3 ≤ k) : Pv.Fn Tryd.prog tab.gl 16 [cv1 c, .si .i64 k, .si .i64 n] (fun u => u = cv1 c) := by
  refine fn_of tabOK rfl wf Tryd.func16 rfl Tryd.call16 rfl ?_
  intro S R hS hR
  cbv
  repeat' (first
    | (refine l_br hS ?_ ?_ <;> (intro _; cbv)))
  all_goals first
    | exact hR _ rfl
    | (exfalso; subst hS; simp_all [Sig.std, stdCmp]; omega)
theorem fn16 (c : Int × Int × Int) (k n : Int) : Pv.Fn Tryd.prog tab.gl 16 [cv1 c, .si .i64 k, .si .i64 n] (fun u => u = cv1 (addC c k n)) := by
  unfold addC
  split
  · rename_i h; subst h; exact fn16_0 c n
  split
  · rename_i h; subst h; exact fn16_1 c n
  split
  · rename_i h; subst h; exact fn16_2 c n
  · exact fn16_x c k n (by omega)
theorem fn17_0 (c : Int × Int × Int) (n : Int) : Pv.Fn Tryd.prog tab.gl 17 [cv1 c, .si .i64 0, .si .i64 n] (fun u => u = cv1 (pos0 (addI c.1 n), c.2)) := by
  refine fn_of tabOK rfl wf Tryd.func17 rfl Tryd.call17 rfl ?_
  intro S R hS hR
  cbv
  repeat' (first
    | (refine l_brT hS ?_ ?_; (focus ((subst hS; simp [Sig.std, stdCmp]) <;> fail)); cbv)
    | (refine l_ix hS (j := 0) rfl (Nat.lt_of_sub_eq_succ rfl) ?_; cbv)
    | (refine l_callg hS (PV.si .i64) (fn28 _ _) ?_; intro _ _; cbv))
  refine hR _ ?_
  subst hS
  simp_all only [Sig.std, cv1, pos0]
  first
    | done
    | (congr 3; split <;> split <;> omega)
    | (congr 4; split <;> split <;> omega)
    | (congr 5; split <;> split <;> omega)
theorem fn17_1 (c : Int × Int × Int) (n : Int) : Pv.Fn Tryd.prog tab.gl 17 [cv1 c, .si .i64 1, .si .i64 n] (fun u => u = cv1 (c.1, pos0 (addI c.2.1 n), c.2.2)) := by
  refine fn_of tabOK rfl wf Tryd.func17 rfl Tryd.call17 rfl ?_
  intro S R hS hR
  cbv
  repeat' (first
    | (refine l_brT hS ?_ ?_; (focus ((subst hS; simp [Sig.std, stdCmp]) <;> fail)); cbv)
    | (refine l_ix hS (j := 1) rfl (Nat.lt_of_sub_eq_succ rfl) ?_; cbv)
    | (refine l_callg hS (PV.si .i64) (fn28 _ _) ?_; intro _ _; cbv))
  refine hR _ ?_
  subst hS
  simp_all only [Sig.std, cv1, pos0]
  first
    | done
    | (congr 3; split <;> split <;> omega)
    | (congr 4; split <;> split <;> omega)
    | (congr 5; split <;> split <;> omega)
theorem fn17_2 (c : Int × Int × Int) (n : Int) : Pv.Fn Tryd.prog tab.gl 17 [cv1 c, .si .i64 2, .si .i64 n] (fun u => u = cv1 (c.1, c.2.1, pos0 (addI c.2.2 n))) := by
  refine fn_of tabOK rfl wf Tryd.func17 rfl Tryd.call17 rfl ?_
  intro S R hS hR
  cbv
  repeat' (first
    | (refine l_brT hS ?_ ?_; (focus ((subst hS; simp [Sig.std, stdCmp]) <;> fail)); cbv)
    | (refine l_ix hS (j := 2) rfl (Nat.lt_of_sub_eq_succ rfl) ?_; cbv)
    | (refine l_callg hS (PV.si .i64) (fn28 _ _) ?_; intro _ _; cbv))
  refine hR _ ?_
  subst hS
  simp_all only [Sig.std, cv1, pos0]
  first
    | done
    | (congr 3; split <;> split <;> omega)
    | (congr 4; split <;> split <;> omega)
    | (congr 5; split <;> split <;> omega)
theorem fn17_x (c : Int × Int × Int) (k n : Int) (h : k < 0 ∨ 3 ≤ k) : Pv.Fn Tryd.prog tab.gl 17 [cv1 c, .si .i64 k, .si .i64 n] (fun u => u = cv1 c) := by
  refine fn_of tabOK rfl wf Tryd.func17 rfl Tryd.call17 rfl ?_
  intro S R hS hR
  cbv
  repeat' (first
    | (refine l_br hS ?_ ?_ <;> (intro _; cbv)))
  all_goals first
    | exact hR _ rfl
    | (exfalso; subst hS; simp_all [Sig.std, stdCmp]; omega)
theorem fn17 (c : Int × Int × Int) (k n : Int) : Pv.Fn Tryd.prog tab.gl 17 [cv1 c, .si .i64 k, .si .i64 n] (fun u => u = cv1 (addC c k n)) := by
  unfold addC
  split
  · rename_i h; subst h; exact fn17_0 c n
  split
  · rename_i h; subst h; exact fn17_1 c n
  split
  · rename_i h; subst h; exact fn17_2 c n
  · exact fn17_x c k n (by omega)

def sumC (c d : Int × Int × Int) : Int × Int × Int := addC (addC (addC c 0 d.1) 1 d.2.1) 2 d.2.2
theorem fn22 (c d : Int × Int × Int) : Pv.Fn Tryd.prog tab.gl 22 [cv1 c, cv1 d] (fun u => u = cv1 (sumC c d)) := by
  refine fn_of tabOK rfl wf Tryd.func22 rfl Tryd.call22 rfl ?_
  intro S R hS hR
  cbv
  refine l_rounds tabOK wf hS 4 ?_
  cbv
  repeat' (first
    | (refine l_brT hS ?_ ?_; (focus ((subst hS; simp [Sig.std, stdCmp]) <;> fail)); cbv)
    | (refine l_brF hS ?_ ?_; (focus ((subst hS; simp [Sig.std, stdCmp]) <;> fail)); cbv)
    | (refine l_ix hS (j := 0) rfl (Nat.lt_of_sub_eq_succ rfl) ?_; cbv)
    | (refine l_ix hS (j := 1) rfl (Nat.lt_of_sub_eq_succ rfl) ?_; cbv)
    | (refine l_ix hS (j := 2) rfl (Nat.lt_of_sub_eq_succ rfl) ?_; cbv)
    | (refine l_order hS (by kernel_rfl) ?_; cbv)
    | (refine l_callg hS cv1 (fn16 c _ _) ?_; intro c1 h1; cbv)
    | (refine l_callg hS cv1 (fn16 c1 _ _) ?_; intro c2 h2; cbv)
    | (refine l_callg hS cv1 (fn16 c2 _ _) ?_; intro c3 h3; cbv))
  refine hR _ ?_
  subst h1 h2 h3
  rfl
theorem fn23 (c d : Int × Int × Int) : Pv.Fn Tryd.prog tab.gl 23 [cv1 c, cv1 d] (fun u => u = cv1 (sumC c d)) := by
  refine fn_of tabOK rfl wf Tryd.func23 rfl Tryd.call23 rfl ?_
  intro S R hS hR
  cbv
  refine l_rounds tabOK wf hS 4 ?_
  cbv
  repeat' (first
    | (refine l_brT hS ?_ ?_; (focus ((subst hS; simp [Sig.std, stdCmp]) <;> fail)); cbv)
    | (refine l_brF hS ?_ ?_; (focus ((subst hS; simp [Sig.std, stdCmp]) <;> fail)); cbv)
    | (refine l_ix hS (j := 0) rfl (Nat.lt_of_sub_eq_succ rfl) ?_; cbv)
    | (refine l_ix hS (j := 1) rfl (Nat.lt_of_sub_eq_succ rfl) ?_; cbv)
    | (refine l_ix hS (j := 2) rfl (Nat.lt_of_sub_eq_succ rfl) ?_; cbv)
    | (refine l_order hS (by kernel_rfl) ?_; cbv)
    | (refine l_callg hS cv1 (fn17 c _ _) ?_; intro c1 h1; cbv)
    | (refine l_callg hS cv1 (fn17 c1 _ _) ?_; intro c2 h2; cbv)
    | (refine l_callg hS cv1 (fn17 c2 _ _) ?_; intro c3 h3; cbv))
  refine hR _ ?_
  subst h1 h2 h3
  rfl
