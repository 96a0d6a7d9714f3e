/-
  Pv, part 2: what it means that a value of the model stands for an abstract one; what keeps it.
-/
import Derived.Test.YtlelpgnmmbbfaaaPvCore
import Derived.Calls
import Derived.Below
namespace Go.Pv
open Go
set_option linter.all false

structure Loc where
  cb : Nat
  co : Nat
  sz : Nat
  tot : Nat
  nr : Nat

abbrev Sg := Nat → Option Loc
def noSg : Sg := fun _ => none

mutual
def Rep (w : World) (Y : Nat → Prop) (σ : Sg) : PV → Value → Prop
  | .bool b, v => v = .bool b
  | .sb b, v => v = .bool b
  | .int k n, v => v = .int k n
  | .si k n, v => v = .int k n
  | .str s, v => v = .string s
  | .agg cs, v => ∃ vs : List Value, v = .agg vs.toArray ∧ RepL w Y σ cs vs
  | .tup cs, v => ∃ vs : List Value, v = .tuple vs.toArray ∧ RepL w Y σ cs vs
  | .sl sz es full, v => ∃ a len cap, v = .slice a len cap ∧ len = es.length ∧ len ≤ cap ∧ (full = true → cap = len) ∧
      (es = [] ∨ ∃ b o, a = some ⟨b, o, none⟩ ∧ (b < w.heap.size ∧ ¬ Y b) ∧ RepR w Y noSg b sz es o)
  | .os b r n, v => (∃ l cap, σ b = some l ∧ v = .slice (some ⟨l.cb, l.co + r * l.sz, none⟩) n cap ∧ n ≤ cap ∧ l.co + r * l.sz + cap * l.sz = l.tot ∧ r + n ≤ l.nr) ∨
      (n = 0 ∧ ∃ a, v = .slice a 0 0)
  | .lv b c, v => ∃ l, σ b = some l ∧ v = .pointer (some ⟨l.cb, l.co + c, none⟩)
  | .lp b r c, v => ∃ l, σ b = some l ∧ v = .pointer (some ⟨l.cb, l.co + r * l.sz + c, none⟩)
  | .pp cs, v => ∃ b o, v = .pointer (some ⟨b, o, none⟩) ∧ (b < w.heap.size ∧ ¬ Y b) ∧ RepC w Y noSg b cs o
  | .ow h _ es, v => (es ≠ [] ∧ v = .slice (some ⟨h.ν, h.o, none⟩) es.length h.cap ∧ es.length ≤ h.cap) ∨ (es = [] ∧ ∃ a cap, v = .slice a 0 cap)
  | .bo _ _ _ h sz n, v => (n ≠ 0 ∧ v = .slice (some ⟨h.ν, h.o, none⟩) n h.cap ∧ n ≤ h.cap) ∨ (n = 0 ∧ ∃ a cap, v = .slice a 0 cap)
  | .np _ _ _ h sz j k, v => v = .pointer (some ⟨h.ν, h.o + j * sz + k, none⟩)
  | .nilp, v => v = .pointer none
  | .fn f cs, v => ∃ vs : List Value, v = .func (.func f) #[] vs.toArray ∧ RepL w Y σ cs vs
  | .nilf, v => v = .nilFunc
  | .top, _ => True
  | .undef, v => v = Go.undef
def RepL (w : World) (Y : Nat → Prop) (σ : Sg) : List PV → List Value → Prop
  | [], vs => vs = []
  | c :: cs, vs => ∃ v vs', vs = v :: vs' ∧ Rep w Y σ c v ∧ RepL w Y σ cs vs'
def RepC (w : World) (Y : Nat → Prop) (σ : Sg) (b : Nat) : List PV → Nat → Prop
  | [], _ => True
  | c :: cs, o => (∃ v, w.cell? ⟨b, o, none⟩ = some v ∧ Rep w Y σ c v) ∧ RepC w Y σ b cs (o + 1)
def RepR (w : World) (Y : Nat → Prop) (σ : Sg) (b sz : Nat) : List (List PV) → Nat → Prop
  | [], _ => True
  | r :: rs, o => (r.length = sz ∧ allCell r = true) ∧ RepC w Y σ b r o ∧ RepR w Y σ b sz rs (o + sz)
end

def SgLe (σ σ' : Sg) : Prop := ∀ b l, σ b = some l → σ' b = some l
/-- the places of the other names are as they were -/
def Off (id : Nat) (σ σ' : Sg) : Prop := ∀ b, b ≠ id → σ' b = σ b
theorem Off.refl (id : Nat) (σ : Sg) : Off id σ σ := fun _ _ => rfl
theorem SgLe.refl (σ : Sg) : SgLe σ σ := fun _ _ h => h
theorem SgLe.trans {a b c : Sg} (h : SgLe a b) (k : SgLe b c) : SgLe a c := fun x l e => k x l (h x l e)

theorem heap_of_cell {w : World} {b o : Nat} {v : Value} (h : w.cell? ⟨b, o, none⟩ = some v) : b < w.heap.size := by
  unfold World.cell? at h
  by_cases hb : b < w.heap.size
  · exact hb
  · simp [Array.getElem?_eq_none (Nat.le_of_not_lt hb)] at h

theorem cell_same {w w' : World} {b : Nat} (h : w'.heap[b]? = w.heap[b]?) (o : Nat) : w'.cell? ⟨b, o, none⟩ = w.cell? ⟨b, o, none⟩ := by
  simp only [World.cell?, h]

/- what does not turn: cells outside Y, the exclusions on old blocks, the places -/
structure Keep (w w' : World) (Y Y' : Nat → Prop) (σ σ' : Sg) : Prop where
  heap : ∀ k, k < w.heap.size → ¬ Y k → w'.heap[k]? = w.heap[k]?
  excl : ∀ k, k < w.heap.size → Y' k → Y k
  size : w.heap.size ≤ w'.heap.size
  sg : SgLe σ σ'

theorem Keep.none {w w' : World} {Y Y' : Nat → Prop} {σ σ' : Sg} (h : Keep w w' Y Y' σ σ') : Keep w w' Y Y' noSg noSg := ⟨h.heap, h.excl, h.size, SgLe.refl _⟩

mutual
theorem Rep.keep {w w' : World} {Y Y' : Nat → Prop} : ∀ (p : PV) {σ σ' : Sg} (_ : Keep w w' Y Y' σ σ') (v : Value), Rep w Y σ p v → Rep w' Y' σ' p v
  | .bool _, _, _, _, _, h | .sb _, _, _, _, _, h | .int _ _, _, _, _, _, h | .si _ _, _, _, _, _, h | .str _, _, _, _, _, h
  | .ow _ _ _, _, _, _, _, h | .bo _ _ _ _ _ _, _, _, _, _, h | .np _ _ _ _ _ _ _, _, _, _, _, h
  | .nilp, _, _, _, _, h | .nilf, _, _, _, _, h | .top, _, _, _, _, h | .undef, _, _, _, _, h => by unfold Rep at h ⊢; exact h
  | .agg cs, _, _, K, v, h => by
    unfold Rep at h ⊢; obtain ⟨vs, e, h⟩ := h; exact ⟨vs, e, RepL.keep cs K vs h⟩
  | .tup cs, _, _, K, v, h => by
    unfold Rep at h ⊢; obtain ⟨vs, e, h⟩ := h; exact ⟨vs, e, RepL.keep cs K vs h⟩
  | .fn f cs, _, _, K, v, h => by
    unfold Rep at h ⊢; obtain ⟨vs, e, h⟩ := h; exact ⟨vs, e, RepL.keep cs K vs h⟩
  | .sl sz es full, _, _, K, v, h => by
    unfold Rep at h ⊢
    obtain ⟨a, len, cap, e, hl, hc, hf, h⟩ := h
    refine ⟨a, len, cap, e, hl, hc, hf, ?_⟩
    rcases h with h | ⟨b, o, ha, ⟨hs, hb⟩, h⟩
    · exact .inl h
    · exact .inr ⟨b, o, ha, ⟨Nat.lt_of_lt_of_le hs K.size, fun hy => hb (K.excl b hs hy)⟩, RepR.keep es K.none (fun hk => K.heap b hk hb) o h⟩
  | .os b r n, _, _, K, v, h => by
    unfold Rep at h ⊢
    rcases h with ⟨l, cap, hs, e, h⟩ | h
    · exact .inl ⟨l, cap, K.sg _ _ hs, e, h⟩
    · exact .inr h
  | .lv b c, _, _, K, v, h => by
    unfold Rep at h ⊢; obtain ⟨l, hs, e⟩ := h; exact ⟨l, K.sg _ _ hs, e⟩
  | .lp b r c, _, _, K, v, h => by
    unfold Rep at h ⊢; obtain ⟨l, hs, e⟩ := h; exact ⟨l, K.sg _ _ hs, e⟩
  | .pp cs, _, _, K, v, h => by
    unfold Rep at h ⊢
    obtain ⟨b, o, e, ⟨hs, hb⟩, h⟩ := h
    exact ⟨b, o, e, ⟨Nat.lt_of_lt_of_le hs K.size, fun hy => hb (K.excl b hs hy)⟩, RepC.keep cs K.none (fun hk => K.heap b hk hb) o h⟩
theorem RepL.keep {w w' : World} {Y Y' : Nat → Prop} : ∀ (ps : List PV) {σ σ' : Sg} (_ : Keep w w' Y Y' σ σ') (vs : List Value), RepL w Y σ ps vs → RepL w' Y' σ' ps vs
  | [], _, _, _, _, h => by unfold RepL at h ⊢; exact h
  | p :: ps, _, _, K, vs, h => by
    unfold RepL at h ⊢
    obtain ⟨v, vs', e, h1, h2⟩ := h
    exact ⟨v, vs', e, Rep.keep p K v h1, RepL.keep ps K vs' h2⟩
theorem RepC.keep {w w' : World} {Y Y' : Nat → Prop} {b : Nat} : ∀ (ps : List PV) {σ σ' : Sg} (_ : Keep w w' Y Y' σ σ') (_ : b < w.heap.size → w'.heap[b]? = w.heap[b]?) (o : Nat), RepC w Y σ b ps o → RepC w' Y' σ' b ps o
  | [], _, _, _, _, _, _ => by unfold RepC; trivial
  | p :: ps, _, _, K, hb, o, h => by
    unfold RepC at h ⊢
    obtain ⟨⟨v, hc, h1⟩, h2⟩ := h
    exact ⟨⟨v, by rw [cell_same (hb (heap_of_cell hc))]; exact hc, Rep.keep p K v h1⟩, RepC.keep ps K hb (o + 1) h2⟩
theorem RepR.keep {w w' : World} {Y Y' : Nat → Prop} {b sz : Nat} : ∀ (rs : List (List PV)) {σ σ' : Sg} (_ : Keep w w' Y Y' σ σ') (_ : b < w.heap.size → w'.heap[b]? = w.heap[b]?) (o : Nat), RepR w Y σ b sz rs o → RepR w' Y' σ' b sz rs o
  | [], _, _, _, _, _, _ => by unfold RepR; trivial
  | r :: rs, _, _, K, hb, o, h => by
    unfold RepR at h ⊢
    exact ⟨h.1, RepC.keep r K hb o h.2.1, RepR.keep rs K hb (o + sz) h.2.2⟩
end

/-! ### the call's own blocks -/
def Blk.ro : Blk → Bool
  | .var ro _ => ro
  | .arr ro _ _ => ro
  | .nar _ _ => false

/-- where a block of the call's own lies -/
structure At (w : World) (l : Loc) : Prop where
  blk : ∃ arr ty, w.heap[l.cb]? = some (.cells arr ty (0, 0)) ∧ arr.size = l.tot

def BlkRep (w : World) (Y : Nat → Prop) (σ : Sg) (l : Loc) : Blk → Prop
  | .var ro row => At w l ∧ l.sz = row.length ∧ l.co + row.length ≤ l.tot ∧ RepC w Y σ l.cb row l.co ∧ (ro = false → Y l.cb) ∧ (ro = true → ¬ Y l.cb)
  | .arr ro sz rows => At w l ∧ l.sz = sz ∧ 0 < sz ∧ (l.co + rows.length * sz ≤ l.tot ∧ rows.length = l.nr) ∧ RepR w Y noSg l.cb sz rows l.co ∧ (ro = false → Y l.cb) ∧ (ro = true → ¬ Y l.cb)
  | .nar sz rows => At w l ∧ l.sz = sz ∧ 0 < sz ∧ (l.co + rows.length * sz ≤ l.tot ∧ rows.length = l.nr) ∧ RepR w Y noSg l.cb sz rows l.co ∧ Y l.cb

structure StRep (w : World) (Y : Nat → Prop) (σ : Sg) (st : St) : Prop where
  blk : ∀ b x, lkS st b = some x → (∃ l, σ b = some l ∧ BlkRep w Y σ l x) ∨ (σ b = none ∧ ∃ ro sz, x = .arr ro sz [])
  inj : ∀ b b' x x' l l', lkS st b = some x → lkS st b' = some x' → σ b = some l → σ b' = some l' → l.cb = l'.cb → b = b'

/-- a row of the block b holds a slice of its own -/
def OwAt (st : St) (b r c : Nat) (h : Hdr) (sz : Nat) (es : List (List PV)) : Prop := ∃ sz0 rows row, lkS st b = some (.nar sz0 rows) ∧ rows[r]? = some row ∧ row[c]? = some (.ow h sz es) ∧ es ≠ []
theorem OwAt.same {st st' : St} {b r c : Nat} {h : Hdr} {sz : Nat} {es : List (List PV)} (e : lkS st' b = lkS st b) (k : OwAt st' b r c h sz es) : OwAt st b r c h sz es := by
  obtain ⟨sz0, rows, row, h1, h2⟩ := k
  exact ⟨sz0, rows, row, by rw [← e]; exact h1, h2⟩
theorem OwAt.sub {st st' : St} {b r c : Nat} {h : Hdr} {sz : Nat} {es : List (List PV)} (e : ∀ x, lkS st' b = some x → lkS st b = some x) (k : OwAt st' b r c h sz es) : OwAt st b r c h sz es := by
  obtain ⟨sz0, rows, row, h1, h2⟩ := k
  exact ⟨sz0, rows, row, e _ h1, h2⟩
/-- it lies in memory as it says -/
structure NRep (w : World) (Y : Nat → Prop) (h : Hdr) (sz : Nat) (es : List (List PV)) : Prop where
  own : Y h.ν
  pos : 0 < sz
  blk : ∃ arr ty, w.heap[h.ν]? = some (.cells arr ty (0, 0)) ∧ arr.size = h.o + h.cap * sz
  len : es.length ≤ h.cap
  rows : RepR w Y noSg h.ν sz es h.o

/-- what a body starts from: its world, and what is the callers' own -/
structure Ctx (T : Tab) where
  w0 : World
  /-- what is the callers' own, and not handed over -/
  Y0 : Nat → Prop
  /-- the blocks that are handed over -/
  L : Nat → Prop
  /-- those of them that may be written -/
  M : Nat → Prop
  /-- where the names that are handed over lie -/
  base : Sg

structure ChgM (M : Nat → Prop) (w0 w : World) : Prop where
  os : w.os = w0.os
  tape : w.tape = w0.tape
  output : w.output = w0.output
  size : w0.heap.size ≤ w.heap.size
  block : ∀ k, k < w0.heap.size → ¬ M k → w.heap[k]? = w0.heap[k]?
structure Chg (w0 w : World) : Prop where
  os : w.os = w0.os
  tape : w.tape = w0.tape
  output : w.output = w0.output
  size : w0.heap.size ≤ w.heap.size
  block : ∀ k, k < w0.heap.size → w.heap[k]? = w0.heap[k]?

theorem Chg.refl (w : World) : Chg w w := ⟨rfl, rfl, rfl, Nat.le_refl _, fun _ _ => rfl⟩
theorem ChgM.refl (M : Nat → Prop) (w : World) : ChgM M w w := ⟨rfl, rfl, rfl, Nat.le_refl _, fun _ _ _ => rfl⟩
theorem ChgM.chg {M : Nat → Prop} {a b : World} (h : ChgM M a b) (hM : ∀ k, ¬ M k) : Chg a b := ⟨h.os, h.tape, h.output, h.size, fun k hk => h.block k hk (hM k)⟩
theorem ChgM.trans {M : Nat → Prop} {a b c : World} (h : ChgM M a b) (k : ChgM M b c) : ChgM M a c :=
  ⟨by rw [k.os, h.os], by rw [k.tape, h.tape], by rw [k.output, h.output], Nat.le_trans h.size k.size, fun i hi hm => by rw [k.block i (Nat.lt_of_lt_of_le hi h.size) hm, h.block i hi hm]⟩

/-- what the package-level variables hold -/
def Glob (G : Nat → Option (List PV)) (w : World) (Y : Nat → Prop) : Prop := ∀ g cs, G g = some cs → Rep w Y noSg (.pp cs) (.pointer (some ⟨g, 0, none⟩))
theorem Glob.keep {G : Nat → Option (List PV)} {w w' : World} {Y Y' : Nat → Prop} (h : Glob G w Y) (K : Keep w w' Y Y' noSg noSg) : Glob G w' Y' := fun g cs hg => Rep.keep _ K _ (h g cs hg)
theorem Chg.below {a b : World} (h : Chg a b) : RowKit.Below a.heap.size a b := ⟨h.os, h.tape, h.output, h.size, h.block⟩
theorem Chg.of_below {a b : World} (h : RowKit.Below a.heap.size a b) : Chg a b := ⟨h.os, h.tape, h.output, h.size, h.block⟩

/-- the state: values, store, the next free name -/
structure Nest (w0 : World) (L : Nat → Prop) (w : World) (Y : Nat → Prop) (σ : Sg) (st : St) : Prop where
  rep : ∀ b r c h sz es, OwAt st b r c h sz es → NRep w Y h sz es
  old : ∀ b r c h sz es, OwAt st b r c h sz es → w0.heap.size ≤ h.ν ∨ L h.ν
  one : ∀ b r c h sz es b' r' c' h' sz' es', OwAt st b r c h sz es → OwAt st b' r' c' h' sz' es' → h.ν = h'.ν → b = b' ∧ r = r' ∧ c = c'
  sep : ∀ b r c h sz es b' x l, OwAt st b r c h sz es → lkS st b' = some x → σ b' = some l → l.cb ≠ h.ν

theorem NRep.lt {w : World} {Y : Nat → Prop} {h : Hdr} {sz : Nat} {es : List (List PV)} (H : NRep w Y h sz es) : h.ν < w.heap.size := by
  obtain ⟨arr, ty, h1, _⟩ := H.blk
  by_cases hb : h.ν < w.heap.size
  · exact hb
  · simp [Array.getElem?_eq_none (Nat.le_of_not_lt hb)] at h1
theorem NRep.keep {w w' : World} {Y Y' : Nat → Prop} {h : Hdr} {sz : Nat} {es : List (List PV)} (H : NRep w Y h sz es) (K : Keep w w' Y Y' noSg noSg) (hb : w'.heap[h.ν]? = w.heap[h.ν]?) (hY : Y h.ν → Y' h.ν) : NRep w' Y' h sz es :=
  ⟨hY H.own, H.pos, by rw [hb]; exact H.blk, H.len, RepR.keep es K (fun _ => hb) _ H.rows⟩
/-- no row holds a slice of its own -/
theorem Nest.none {w0 w : World} {L Y : Nat → Prop} {σ : Sg} {st : St} (h : ∀ b sz rows, lkS st b ≠ some (.nar sz rows)) : Nest w0 L w Y σ st := by
  have no : ∀ {b r c h sz es}, OwAt st b r c h sz es → False := fun ⟨_, _, _, h1, _⟩ => h _ _ _ h1
  exact ⟨fun _ _ _ _ _ _ k => (no k).elim, fun _ _ _ _ _ _ k => (no k).elim, fun _ _ _ _ _ _ _ _ _ _ _ _ k => (no k).elim, fun _ _ _ _ _ _ _ _ _ k => (no k).elim⟩
/-- other memory, other names: each slice of a row stands where one stood -/
theorem Nest.keep {w0 w w' : World} {L Y Y' : Nat → Prop} {σ σ' : Sg} {st st' : St} (H : Nest w0 L w Y σ st) (K : Keep w w' Y Y' noSg noSg)
    (hsub : ∀ b r c h sz es, OwAt st' b r c h sz es → OwAt st b r c h sz es)
    (hheap : ∀ b r c h sz es, OwAt st' b r c h sz es → w'.heap[h.ν]? = w.heap[h.ν]?)
    (hY : ∀ b r c h sz es, OwAt st' b r c h sz es → Y' h.ν)
    (hsep : ∀ b r c h sz es b' x l, OwAt st' b r c h sz es → lkS st' b' = some x → σ' b' = some l → l.cb ≠ h.ν) : Nest w0 L w' Y' σ' st' :=
  ⟨fun b r c h sz es k => (H.rep _ _ _ _ _ _ (hsub _ _ _ _ _ _ k)).keep K (hheap _ _ _ _ _ _ k) (fun _ => hY _ _ _ _ _ _ k),
   fun b r c h sz es k => H.old _ _ _ _ _ _ (hsub _ _ _ _ _ _ k),
   fun b r c h sz es b' r' c' h' sz' es' k k' e => H.one _ _ _ _ _ _ _ _ _ _ _ _ (hsub _ _ _ _ _ _ k) (hsub _ _ _ _ _ _ k') e, hsep⟩

theorem Nest.sub {w0 w : World} {L Y : Nat → Prop} {σ : Sg} {st st' : St} (H : Nest w0 L w Y σ st) (h : ∀ b x, lkS st' b = some x → lkS st b = some x) : Nest w0 L w Y σ st' :=
  H.keep ⟨fun _ _ _ => rfl, fun _ _ h => h, Nat.le_refl _, SgLe.refl _⟩ (fun b _ _ _ _ _ k => k.sub (h b)) (fun _ _ _ _ _ _ _ => rfl) (fun b r c h' sz es k => (H.rep _ _ _ _ _ _ (k.sub (h b))).own)
    (fun b r c h' sz es b' x l k hx hl => H.sep _ _ _ _ _ _ _ _ _ (k.sub (h b)) (h b' x hx) hl)

theorem Nest.heap {w0 w w' : World} {L Y : Nat → Prop} {σ : Sg} {st : St} (H : Nest w0 L w Y σ st) (hs : w.heap.size ≤ w'.heap.size) (hh : ∀ k, k < w.heap.size → w'.heap[k]? = w.heap[k]?) : Nest w0 L w' Y σ st :=
  H.keep ⟨fun k hk _ => hh k hk, fun _ _ h => h, hs, SgLe.refl _⟩ (fun _ _ _ _ _ _ k => k) (fun _ _ _ _ _ _ k => hh _ (H.rep _ _ _ _ _ _ k).lt) (fun _ _ _ _ _ _ k => (H.rep _ _ _ _ _ _ k).own) H.sep

structure SW {T : Tab} (C : Ctx T) (w : World) (Y : Nat → Prop) (σ : Sg) (ps : List PV) (vs : List Value) (st : St) (n : Nat) : Prop where
  vals : RepL w Y σ ps vs
  store : StRep w Y σ st
  next : ∀ b, n ≤ b → σ b = none
  yold : ∀ k, Y k → k < w.heap.size
  y0 : ∀ k, C.Y0 k → Y k
  c0 : ∀ k, C.Y0 k → k < C.w0.heap.size ∧ ¬ C.L k
  yshr : ∀ k, Y k → k < C.w0.heap.size → C.Y0 k ∨ C.M k
  chg : ChgM C.M C.w0 w
  own : ∀ b x l, lkS st b = some x → σ b = some l → C.w0.heap.size ≤ l.cb ∨ C.L l.cb
  glob : Glob T.gl w Y
  fix : T.pas ≤ n ∧ ∀ b, b < T.pas → σ b = C.base b
  nest : Nest C.w0 C.L w Y σ st

theorem SW.away {T : Tab} {C : Ctx T} {w : World} {Y : Nat → Prop} {σ : Sg} {ps : List PV} {vs : List Value} {st : St} {n : Nat} (H : SW C w Y σ ps vs st n) {b : Nat} {x : Blk} {l : Loc} (hx : lkS st b = some x) (hl : σ b = some l) : ¬ C.Y0 l.cb := fun h => by
  have h1 := H.c0 _ h
  rcases H.own b x l hx hl with h2 | h2
  · omega
  · exact h1.2 h2

theorem SW.mono {T : Tab} {C : Ctx T} {w : World} {Y : Nat → Prop} {σ : Sg} {ps : List PV} {vs : List Value} {st : St} {n n' : Nat} (H : SW C w Y σ ps vs st n) (h : n ≤ n') : SW C w Y σ ps vs st n' :=
  ⟨H.vals, H.store, fun b hb => H.next b (Nat.le_trans h hb), H.yold, H.y0, H.c0, H.yshr, H.chg, H.own, H.glob, ⟨Nat.le_trans H.fix.1 h, H.fix.2⟩, H.nest⟩
theorem SW.vals' {T : Tab} {C : Ctx T} {w : World} {Y : Nat → Prop} {σ : Sg} {ps ps' : List PV} {vs vs' : List Value} {st : St} {n : Nat} (H : SW C w Y σ ps vs st n) (h : RepL w Y σ ps' vs') : SW C w Y σ ps' vs' st n :=
  ⟨h, H.store, H.next, H.yold, H.y0, H.c0, H.yshr, H.chg, H.own, H.glob, H.fix, H.nest⟩

def EnvRep {T : Tab} (C : Ctx T) (E : Env) (vs : List Value) (w : World) : Prop := ∃ Y σ, SW C w Y σ E.tmps vs E.st E.next

/-! ### lists -/
theorem RepL.get {w : World} {Y : Nat → Prop} {σ : Sg} : ∀ (ps : List PV) (vs : List Value) (t : Nat), RepL w Y σ ps vs → Rep w Y σ (getL ps t) (vs.getD t Go.undef)
  | [], vs, t, h => by unfold RepL at h; subst h; simp [getL, Rep]
  | p :: ps, vs, 0, h => by unfold RepL at h; obtain ⟨v, vs', rfl, h1, _⟩ := h; simpa [getL] using h1
  | p :: ps, vs, t + 1, h => by
    unfold RepL at h; obtain ⟨v, vs', rfl, _, h2⟩ := h
    simpa [getL] using RepL.get ps vs' t h2
theorem RepL.length {w : World} {Y : Nat → Prop} {σ : Sg} : ∀ (ps : List PV) (vs : List Value), RepL w Y σ ps vs → vs.length = ps.length
  | [], vs, h => by unfold RepL at h; subst h; rfl
  | p :: ps, vs, h => by unfold RepL at h; obtain ⟨v, vs', rfl, _, h2⟩ := h; simp [RepL.length ps vs' h2]
theorem RepL.set {w : World} {Y : Nat → Prop} {σ : Sg} {p : PV} {v : Value} (hp : Rep w Y σ p v) : ∀ (ps : List PV) (vs : List Value) (t : Nat), RepL w Y σ ps vs → RepL w Y σ (setL ps t p) (vs.set t v)
  | [], vs, t, h => by unfold RepL at h; subst h; simp [setL, RepL]
  | q :: ps, vs, 0, h => by
    unfold RepL at h; obtain ⟨u, vs', rfl, _, h2⟩ := h
    simp only [setL, List.set_cons_zero]; unfold RepL; exact ⟨v, vs', rfl, hp, h2⟩
  | q :: ps, vs, t + 1, h => by
    unfold RepL at h; obtain ⟨u, vs', rfl, h1, h2⟩ := h
    simp only [setL, List.set_cons_succ]; unfold RepL; exact ⟨u, _, rfl, h1, RepL.set hp ps vs' t h2⟩
theorem RepL.app {w : World} {Y : Nat → Prop} {σ : Sg} : ∀ (ps qs : List PV) (vs us : List Value), RepL w Y σ ps vs → RepL w Y σ qs us → RepL w Y σ (appL ps qs) (vs ++ us)
  | [], qs, vs, us, h, k => by unfold RepL at h; subst h; simpa [appL] using k
  | p :: ps, qs, vs, us, h, k => by
    unfold RepL at h; obtain ⟨v, vs', rfl, h1, h2⟩ := h
    simp only [appL, List.cons_append]; unfold RepL; exact ⟨v, _, rfl, h1, RepL.app ps qs vs' us h2 k⟩

@[simp] theorem lenL_eq : ∀ l, lenL l = l.length
  | [] => rfl
  | _ :: l => by simp [lenL, lenL_eq l]
@[simp] theorem takeL_eq : ∀ n l, takeL n l = l.take n
  | 0, l => by simp [takeL]
  | n + 1, [] => by simp [takeL]
  | n + 1, x :: l => by simp [takeL, takeL_eq n l]
@[simp] theorem dropL_eq : ∀ n l, dropL n l = l.drop n
  | 0, l => by simp [dropL]
  | n + 1, [] => by simp [dropL]
  | n + 1, x :: l => by simp [dropL, dropL_eq n l]
@[simp] theorem appL_eq : ∀ l m, appL l m = l ++ m
  | [], m => by simp [appL]
  | x :: l, m => by simp [appL, appL_eq l m]
theorem setL_eq : ∀ l n v, setL l n v = l.set n v
  | [], n, v => by simp [setL]
  | x :: l, 0, v => by simp [setL]
  | x :: l, n + 1, v => by simp [setL, setL_eq l n v]
theorem getL_eq : ∀ l n, getL l n = l.getD n .undef
  | [], n => by simp [getL]
  | x :: l, 0 => by simp [getL]
  | x :: l, n + 1 => by simpa [getL] using getL_eq l n

theorem RepC.get {w : World} {Y : Nat → Prop} {σ : Sg} {b : Nat} : ∀ (ps : List PV) (o i : Nat), RepC w Y σ b ps o → i < ps.length → ∃ v, w.cell? ⟨b, o + i, none⟩ = some v ∧ Rep w Y σ (getL ps i) v
  | [], _, _, _, h => by simp at h
  | p :: ps, o, 0, h, _ => by unfold RepC at h; simpa [getL] using h.1
  | p :: ps, o, i + 1, h, hi => by
    unfold RepC at h
    have := RepC.get ps (o + 1) i h.2 (by simpa using hi)
    rw [show o + (i + 1) = o + 1 + i by omega]; simpa [getL] using this
theorem RepC.drop {w : World} {Y : Nat → Prop} {σ : Sg} {b : Nat} : ∀ (n : Nat) (ps : List PV) (o : Nat), RepC w Y σ b ps o → RepC w Y σ b (ps.drop n) (o + n)
  | 0, ps, o, h => by simpa using h
  | n + 1, [], o, h => by simp [RepC]
  | n + 1, p :: ps, o, h => by
    unfold RepC at h
    have := RepC.drop n ps (o + 1) h.2
    rw [show o + (n + 1) = o + 1 + n by omega]; simpa using this
theorem RepC.take {w : World} {Y : Nat → Prop} {σ : Sg} {b : Nat} : ∀ (n : Nat) (ps : List PV) (o : Nat), RepC w Y σ b ps o → RepC w Y σ b (ps.take n) o
  | 0, ps, o, h => by simp [RepC]
  | n + 1, [], o, h => by simp [RepC]
  | n + 1, p :: ps, o, h => by
    unfold RepC at h
    simp only [List.take_succ_cons]; unfold RepC; exact ⟨h.1, RepC.take n ps (o + 1) h.2⟩
/-- the cells of a row, as a list of values -/
theorem RepC.vals {w : World} {Y : Nat → Prop} {σ : Sg} {b : Nat} : ∀ (ps : List PV) (o : Nat), RepC w Y σ b ps o →
    ∃ vs : List Value, RepL w Y σ ps vs ∧ ∀ i v, vs[i]? = some v → w.cell? ⟨b, o + i, none⟩ = some v
  | [], o, _ => ⟨[], by unfold RepL; rfl, by simp⟩
  | p :: ps, o, h => by
    unfold RepC at h
    obtain ⟨⟨v, hc, h1⟩, h2⟩ := h
    obtain ⟨vs, hr, hv⟩ := RepC.vals ps (o + 1) h2
    refine ⟨v :: vs, by unfold RepL; exact ⟨v, vs, rfl, h1, hr⟩, fun i u hu => ?_⟩
    cases i with
    | zero => simp at hu; subst hu; simpa using hc
    | succ i => rw [show o + (i + 1) = o + 1 + i by omega]; exact hv i u (by simpa using hu)
theorem RepC.of_vals {w : World} {Y : Nat → Prop} {σ : Sg} {b : Nat} : ∀ (ps : List PV) (vs : List Value) (o : Nat), RepL w Y σ ps vs → (∀ i v, vs[i]? = some v → w.cell? ⟨b, o + i, none⟩ = some v) → RepC w Y σ b ps o
  | [], vs, o, _, _ => by unfold RepC; trivial
  | p :: ps, vs, o, h, hc => by
    unfold RepL at h; obtain ⟨v, vs', rfl, h1, h2⟩ := h
    unfold RepC
    refine ⟨⟨v, by simpa using hc 0 v rfl, h1⟩, RepC.of_vals ps vs' (o + 1) h2 fun i u hu => ?_⟩
    rw [show o + 1 + i = o + (i + 1) by omega]; exact hc (i + 1) u (by simpa using hu)
theorem RepR.row {w : World} {Y : Nat → Prop} {σ : Sg} {b sz : Nat} : ∀ (rs : List (List PV)) (o i : Nat) (row : List PV), RepR w Y σ b sz rs o → rs[i]? = some row → (row.length = sz ∧ allCell row = true) ∧ RepC w Y σ b row (o + i * sz)
  | [], _, _, _, _, h => by simp at h
  | r :: rs, o, 0, row, h, hi => by unfold RepR at h; simp at hi; subst hi; exact ⟨h.1, by simpa using h.2.1⟩
  | r :: rs, o, i + 1, row, h, hi => by
    unfold RepR at h
    have := RepR.row rs (o + sz) i row h.2.2 (by simpa using hi)
    refine ⟨this.1, ?_⟩
    rw [show o + (i + 1) * sz = o + sz + i * sz by rw [Nat.add_mul]; omega]; exact this.2
theorem RepR.drop {w : World} {Y : Nat → Prop} {σ : Sg} {b sz : Nat} : ∀ (n : Nat) (rs : List (List PV)) (o : Nat), RepR w Y σ b sz rs o → RepR w Y σ b sz (rs.drop n) (o + n * sz)
  | 0, rs, o, h => by simpa using h
  | n + 1, [], o, h => by simp [RepR]
  | n + 1, r :: rs, o, h => by
    unfold RepR at h
    have := RepR.drop n rs (o + sz) h.2.2
    rw [show o + (n + 1) * sz = o + sz + n * sz by rw [Nat.add_mul]; omega]; simpa using this
theorem RepR.take {w : World} {Y : Nat → Prop} {σ : Sg} {b sz : Nat} : ∀ (n : Nat) (rs : List (List PV)) (o : Nat), RepR w Y σ b sz rs o → RepR w Y σ b sz (rs.take n) o
  | 0, rs, o, h => by simp [RepR]
  | n + 1, [], o, h => by simp [RepR]
  | n + 1, r :: rs, o, h => by
    unfold RepR at h
    simp only [List.take_succ_cons]; unfold RepR; exact ⟨h.1, h.2.1, RepR.take n rs (o + sz) h.2.2⟩
theorem RepR.app {w : World} {Y : Nat → Prop} {σ : Sg} {b sz : Nat} : ∀ (rs qs : List (List PV)) (o : Nat), RepR w Y σ b sz rs o → RepR w Y σ b sz qs (o + rs.length * sz) → RepR w Y σ b sz (rs ++ qs) o
  | [], qs, o, _, k => by simpa using k
  | r :: rs, qs, o, h, k => by
    unfold RepR at h
    simp only [List.cons_append]; unfold RepR
    refine ⟨h.1, h.2.1, RepR.app rs qs (o + sz) h.2.2 ?_⟩
    rw [show o + sz + rs.length * sz = o + (r :: rs).length * sz by simp [Nat.add_mul]; omega]; exact k
end Go.Pv
