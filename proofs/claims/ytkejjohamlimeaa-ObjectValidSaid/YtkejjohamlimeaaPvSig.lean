/-
  Pv, part 3: what the symbols of a walk stand for; the leaves of a walk.
-/
import Derived.Test.YtkejjohamlimeaaPvRep
namespace Go.Pv
open Go
set_option linter.all false

def ActRep (C : Ctx) (E : Env) (a : Act) (w : World) : Prop := EnvRep C E a.tmps.toList w ∧ a.defers = []

def lift (C : Ctx) (Q : Post) : Exit → Act → World → Prop
  | .normal, a, w => ∃ E, ActRep C E a w ∧ Q 0 E
  | .ret, a, w => ∃ E, ActRep C E a w ∧ Q 1 E
  | .exit n, a, w => ∃ E, ActRep C E a w ∧ Q (n + 2) E
  | _, _, _ => False

/-- a piece of code, from an abstract state -/
def TripleC (P : Program) (c : Code) (Q : Post) (E : Env) : Prop := ∀ C a w, ActRep C E a w → c.wp P (lift C Q) a w

/-- a call, from an abstract state -/
def CallT (P : Program) (k : Nat) (args : List PV) (E : Env) (K : PV → Env → Prop) : Prop :=
  ∀ (C : Ctx) (Y : Nat → Prop) (σ : Sg) (w : World) (vs cargs : List Value), SW C w Y σ E.tmps vs E.st E.next → RepL w Y σ args cargs →
    (callFunc k cargs.toArray).run P w = .ok (.enter k cargs.toArray) w ∧
    Calls P k cargs.toArray w fun e w' => ∃ cv v E' Y' σ', e = .returned cv ∧ K v E' ∧ SW C w' Y' σ' E'.tmps vs E'.st E'.next ∧ Rep w' Y' σ' v cv

/-- what a function does with pure arguments -/
def Fn (P : Program) (k : Nat) (args : List PV) (R : PV → Prop) : Prop :=
  ∀ (w : World) (Y : Nat → Prop) (cargs : List Value), (∀ b, Y b → b < w.heap.size) → RepL w Y noSg args cargs →
    (callFunc k cargs.toArray).run P w = .ok (.enter k cargs.toArray) w ∧
    Calls P k cargs.toArray w fun e w' => ∃ cv v, e = .returned cv ∧ R v ∧ Rep w' Y noSg v cv ∧ Chg w w'

def Sig.std (P : Program) : Sig where
  bin := stdBin
  cmp := stdCmp
  conv k n := k.wrap n
  neg k n := k.wrap (0 - n)
  beq a b := a == b
  band a b := a && b
  scmp := stdScmp
  slen s := (s.size : Int)
  smin a b := if b < a then b else a
  smax a b := if b > a then b else a
  len es := (es.length : Int)
  nint n := (n : Int)
  nadd a b := a + b
  nsub a b := a - b
  app a b := a ++ b
  sub rows r n := (rows.drop r).take n
  spl rows r new := rows.take r ++ new ++ rows.drop (r + new.length)
  rset rows i r := rows.set i r
  rep n r := List.replicate n r
  lenN es := es.length
  br b t f := (b = true → t ()) ∧ (b = false → f ())
  call k args E K := CallT P k args E K
  callq k args K := ∃ v, Fn P k args (fun u => u = v) ∧ K v
  callf k args K := ∃ v, Fn P k args (fun u => u = v) ∧ flatV 6 v = true ∧ K v
  callL k as args E K := (∃ v, Fn P k as (fun u => u = v) ∧ flatV 6 v = true ∧ K v E) ∨ CallT P k args E K
  loop c Q E := TripleC P (.loop c) Q E
  idx es i K := ∃ (j : Nat) (row : List PV), i = (j : Int) ∧ es[j]? = some row ∧ K row
  ix n i K := ∃ j : Nat, i = (j : Int) ∧ j < n ∧ K j
  row rows j K := ∃ row, rows[j]? = some row ∧ K row
  sidx s i K := ∃ (j : Nat) (c : UInt8), i = (j : Int) ∧ s[j]? = some c ∧ K (c.toNat : Int)
  div op k a b K := b ≠ 0 ∧ K (match op with | .quo => k.wrap (a.tdiv b) | _ => a.tmod b)
  shf op k a y K := 0 ≤ y ∧ K (match op with | .shl => k.wrap (a * 2 ^ (min y.toNat k.bits)) | _ => a.fdiv (2 ^ (min y.toNat k.bits)))
  scat a b K := a.size + b.size ≤ 4611686018427387904 ∧ K (a ++ b)
  mks n m bytes K := ∃ j : Nat, n = (j : Int) ∧ n ≤ m ∧ (bytes : Int) * m ≤ 140737488355328 ∧ m ≤ 9223372036854775807 ∧ K j
  room n bytes K := (2 * n + 192) * bytes ≤ 140737488355328 ∧ n ≤ 4611686018427387904 ∧ K
  slc len a b K := ∃ i j : Nat, a = (i : Int) ∧ b = (j : Int) ∧ i ≤ j ∧ j ≤ len ∧ K i j
  sslc s a b K := ∃ i j : Nat, a = (i : Int) ∧ b = (j : Int) ∧ i ≤ j ∧ j ≤ s.size ∧ K (s.extract i j)
  nilq es K := ∀ b : Bool, (b = true → es = []) → K b
  order l p := drawOK l = true ∧ p
end Go.Pv
