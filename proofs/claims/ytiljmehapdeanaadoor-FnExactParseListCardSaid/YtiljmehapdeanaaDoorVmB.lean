/- The reading is sound: each step of the program does what the reading tells; the conditions are those of each lemma. -/
import Derived.Test.YtiljmehapdeanaaDoorVmA
import Derived.Laws.Append
import Derived.Laws.AppendOwn
import Derived.Laws.MakeOwn
import Derived.Laws.Slices
import Derived.Laws.Strings
import Derived.Laws.BytesString
import Derived.Laws.Tables
import Derived.Laws.StructEq
namespace Go.Vm
open Go Go.RowKit
set_option linter.unusedVariables false
set_option linter.unusedSimpArgs false
/-- Cells from a place on. -/
def sl (arr : Array Value) (off n : Nat) : List Value := (arr.toList.drop off).take n
theorem sl_length {arr : Array Value} {off n : Nat} (h : off + n ≤ arr.size) : (sl arr off n).length = n := by
  simp [sl]; omega
theorem sl_get {arr : Array Value} {off n j : Nat} (h : j < n) : (sl arr off n)[j]? = arr[off + j]? := by
  simp [sl, List.getElem?_take, h]
/-- Data at cells, all of whose rows lie in blocks of S. -/
def RepD (w : World) (S : Nat → Prop) : (t : Ty) → t.D → List Value → Prop
  | .int k, n, cs => cs = [.int k n]
  | .bool, b, cs => cs = [.bool b]
  | .str, s, cs => cs = [.string s]
  | .pair a b, x, cs => ∃ c1 c2, cs = c1 ++ c2 ∧ RepD w S a x.1 c1 ∧ RepD w S b x.2 c2
  | .row el, xs, cs => ∃ A cap, cs = [.slice A xs.length cap] ∧ xs.length ≤ cap ∧ (0 < xs.length → ∃ b off arr e fr,
      A = some ⟨b, off, none⟩ ∧ S b ∧ w.heap[b]? = some (.cells arr e fr) ∧ off + xs.length * el.sz ≤ arr.size ∧
      ∀ i x, xs[i]? = some x → RepD w S el x (sl arr (off + i * el.sz) el.sz))
/-- No cell is frozen; only behind bytes there may be a string's mark. -/
def FrOk (t : Ty) (fr : Nat × Nat) (n : Nat) : Prop := fr.2 ≤ fr.1 ∨ (t = .int .u8 ∧ n ≤ fr.1)
theorem FrOk.weak {t : Ty} {fr : Nat × Nat} {n : Nat} (h : FrOk t fr n) : fr.2 ≤ fr.1 ∨ n ≤ fr.1 := h.imp_right (·.2)
/-- A row whose block lies in S and may be written; EP: what is known of its elements' cells. -/
def RowR (w : World) (S : Nat → Prop) (t : Ty) (EP : Nat → Nat → t.D → List Value → Prop) (xs : List t.D) (v : Value) : Prop :=
  ∃ A cap, v = .slice A xs.length cap ∧ xs.length ≤ cap ∧ (0 < cap → ∃ b off arr e fr,
    A = some ⟨b, off, none⟩ ∧ S b ∧ w.heap[b]? = some (.cells arr e fr) ∧ FrOk t fr arr.size ∧ off + cap * t.sz ≤ arr.size ∧
    ∀ i x, xs[i]? = some x → EP b i x (sl arr (off + i * t.sz) t.sz))
/-- Data at cells, all of whose rows are one's own, apart from each other, in blocks of S. -/
def OwnD (w : World) : (t : Ty) → (S : Nat → Prop) → t.D → List Value → Prop
  | .int k, _, n, cs => cs = [.int k n]
  | .bool, _, b, cs => cs = [.bool b]
  | .str, _, s, cs => cs = [.string s]
  | .pair a b, S, x, cs => ∃ (f : Nat → Nat) (c1 c2 : List Value), cs = c1 ++ c2 ∧ OwnD w a (fun k => S k ∧ f k = 0) x.1 c1 ∧ OwnD w b (fun k => S k ∧ f k = 1) x.2 c2
  | .row el, S, xs, cs => ∃ (v : Value) (f : Nat → Nat), cs = [v] ∧ RowR w S el (fun b i => OwnD w el (fun k => S k ∧ k ≠ b ∧ f k = i)) xs v
theorem RepD.len {w : World} {S : Nat → Prop} : ∀ {t : Ty} {x : t.D} {cs : List Value}, RepD w S t x cs → cs.length = t.sz
  | .int _, _, _, h => by rw [h]; rfl
  | .bool, _, _, h => by rw [h]; rfl
  | .str, _, _, h => by rw [h]; rfl
  | .pair a b, _, _, ⟨c1, c2, h, h1, h2⟩ => by rw [h, List.length_append, h1.len, h2.len]; rfl
  | .row _, _, _, ⟨_, _, h, _⟩ => by rw [h]; rfl
theorem OwnD.len {w : World} : ∀ {t : Ty} {S : Nat → Prop} {x : t.D} {cs : List Value}, OwnD w t S x cs → cs.length = t.sz
  | .int _, _, _, _, h => by rw [h]; rfl
  | .bool, _, _, _, h => by rw [h]; rfl
  | .str, _, _, _, h => by rw [h]; rfl
  | .pair a b, _, _, _, ⟨_, c1, c2, h, h1, h2⟩ => by rw [h, List.length_append, h1.len, h2.len]; rfl
  | .row _, _, _, _, ⟨_, _, h, _⟩ => by rw [h]; rfl
/-- What is in blocks of S stays, and these are blocks of S'. -/
def Stays (w w' : World) (S S' : Nat → Prop) : Prop := ∀ b, S b → ∀ o, w.heap[b]? = some o → w'.heap[b]? = some o ∧ S' b
theorem RepD.mono {w w' : World} {S S' : Nat → Prop} (hs : Stays w w' S S') : ∀ {t : Ty} {x : t.D} {cs : List Value}, RepD w S t x cs → RepD w' S' t x cs
  | .int _, _, _, h => h
  | .bool, _, _, h => h
  | .str, _, _, h => h
  | .pair a b, _, _, ⟨c1, c2, h, h1, h2⟩ => ⟨c1, c2, h, h1.mono hs, h2.mono hs⟩
  | .row _, _, _, ⟨A, cap, h, hl, hr⟩ => ⟨A, cap, h, hl, fun hp => by
      obtain ⟨b, off, arr, e, fr, hA, hb, hh, hf, he⟩ := hr hp
      obtain ⟨h1, h2⟩ := hs b hb _ hh
      exact ⟨b, off, arr, e, fr, hA, h2, h1, hf, fun i x hx => (he i x hx).mono hs⟩⟩
theorem RowR.mono {w w' : World} {S S' : Nat → Prop} {t : Ty} {EP EP' : Nat → Nat → t.D → List Value → Prop} {xs : List t.D} {v : Value} (hs : Stays w w' S S')
    (he : ∀ b i x cs, EP b i x cs → EP' b i x cs) (h : RowR w S t EP xs v) : RowR w' S' t EP' xs v := by
  obtain ⟨A, cap, h, hl, hr⟩ := h
  refine ⟨A, cap, h, hl, fun hp => ?_⟩
  obtain ⟨b, off, arr, e, fr, hA, hb, hh, hfr, hf, hel⟩ := hr hp
  obtain ⟨h1, h2⟩ := hs b hb _ hh
  exact ⟨b, off, arr, e, fr, hA, h2, h1, hfr, hf, fun i x hx => he _ _ _ _ (hel i x hx)⟩
theorem OwnD.mono {w w' : World} : ∀ {t : Ty} {S S' : Nat → Prop} {x : t.D} {cs : List Value}, Stays w w' S S' → OwnD w t S x cs → OwnD w' t S' x cs
  | .int _, _, _, _, _, _, h => h
  | .bool, _, _, _, _, _, h => h
  | .str, _, _, _, _, _, h => h
  | .pair a b, S, S', _, _, hs, ⟨f, c1, c2, h, h1, h2⟩ => ⟨f, c1, c2, h,
      h1.mono (fun k hk o ho => ⟨(hs k hk.1 o ho).1, (hs k hk.1 o ho).2, hk.2⟩), h2.mono (fun k hk o ho => ⟨(hs k hk.1 o ho).1, (hs k hk.1 o ho).2, hk.2⟩)⟩
  | .row el, S, S', _, _, hs, ⟨v, f, h, hr⟩ => ⟨v, f, h, hr.mono hs fun _ _ _ _ he => he.mono (fun k hk o ho => ⟨(hs k hk.1 o ho).1, (hs k hk.1 o ho).2, hk.2⟩)⟩
theorem RowR.rep {w : World} {S : Nat → Prop} {t : Ty} {EP : Nat → Nat → t.D → List Value → Prop} {xs : List t.D} {v : Value}
    (he : ∀ b i x cs, EP b i x cs → RepD w S t x cs) (h : RowR w S t EP xs v) : RepD w S (.row t) xs [v] := by
  obtain ⟨A, cap, h, hl, hr⟩ := h
  refine ⟨A, cap, by rw [h], hl, fun hp => ?_⟩
  obtain ⟨b, off, arr, e, fr, hA, hb, hh, hfr, hf, hel⟩ := hr (by omega)
  refine ⟨b, off, arr, e, fr, hA, hb, hh, ?_, fun i x hx => he _ _ _ _ (hel i x hx)⟩
  have := Nat.mul_le_mul_right t.sz hl
  omega
theorem OwnD.rep {w : World} : ∀ {t : Ty} {S : Nat → Prop} {x : t.D} {cs : List Value}, OwnD w t S x cs → RepD w S t x cs
  | .int _, _, _, _, h => h
  | .bool, _, _, _, h => h
  | .str, _, _, _, h => h
  | .pair a b, S, _, _, ⟨f, c1, c2, h, h1, h2⟩ => ⟨c1, c2, h,
      h1.rep.mono (fun _ hk _ ho => ⟨ho, hk.1⟩), h2.rep.mono (fun _ hk _ ho => ⟨ho, hk.1⟩)⟩
  | .row el, S, _, _, ⟨v, f, h, hr⟩ => by
    subst h
    exact hr.rep fun _ _ _ _ he => he.rep.mono (fun _ hk _ ho => ⟨ho, hk.1⟩)
/-- Without rows inside, cells alone tell the data. -/
theorem flat_any {w w' : World} : ∀ {t : Ty} {S S' : Nat → Prop} {x : t.D} {cs : List Value}, t.flat = true → RepD w S t x cs → OwnD w' t S' x cs
  | .int _, _, _, _, _, _, h => h
  | .bool, _, _, _, _, _, h => h
  | .str, _, _, _, _, _, h => h
  | .pair a b, S, S', _, _, hf, ⟨c1, c2, h, h1, h2⟩ => by
    simp only [Ty.flat, Bool.and_eq_true] at hf
    exact ⟨fun _ => 0, c1, c2, h, flat_any hf.1 h1, flat_any hf.2 h2⟩
  | .row _, _, _, _, _, hf, _ => by simp [Ty.flat] at hf
theorem flat_rep {w w' : World} {t : Ty} {S S' : Nat → Prop} {x : t.D} {cs : List Value} (hf : t.flat = true) (h : RepD w S t x cs) : RepD w' S' t x cs := (flat_any hf h).rep
theorem RepD.one {w : World} {S : Nat → Prop} : ∀ {t : Ty} {x : t.D} {cs : List Value}, RepD w S t x cs → ∀ u ∈ cs, u.oneCell' = true
  | .int _, _, _, h, u, hu => by rw [h] at hu; simp at hu; rw [hu]; rfl
  | .bool, _, _, h, u, hu => by rw [h] at hu; simp at hu; rw [hu]; rfl
  | .str, _, _, h, u, hu => by rw [h] at hu; simp at hu; rw [hu]; rfl
  | .pair a b, _, _, ⟨c1, c2, h, h1, h2⟩, u, hu => by
    rw [h, List.mem_append] at hu
    exact hu.elim (h1.one u) (h2.one u)
  | .row _, _, _, ⟨_, _, h, _⟩, u, hu => by rw [h] at hu; simp at hu; rw [hu]; rfl
/-! ### a function's invocation, and what its state says of memory -/
/-- What holds of the memory that nobody owns, and so stays. -/
structure Glob where
  I : World → (Nat → Option Nat) → Prop
  st : ∀ {w w' : World} {o o' : Nat → Option Nat}, I w o → (∀ b, b < w.heap.size → o b = none → o' b = none ∧ w'.heap[b]? = w.heap[b]?) → I w' o'
def Glob.any : Glob := ⟨fun _ _ => True, fun _ _ => trivial⟩
structure Cx where
  P : Program
  w0 : World
  o0 : Nat → Option Nat
  A : Nat → Prop
  n0 : Nat
  μ0 : Nat → Value
  J : Glob
  inv : J.I w0 o0
structure Cc where
  w : World
  μ : Nat → Value
  o : Nat → Option Nat
def Cx.sh (X : Cx) (o : Nat → Option Nat) (b : Nat) : Prop := o b = none ∧ (X.A b ∨ X.w0.heap.size ≤ b ∨ X.o0 b ≠ none)
def lbS (X : Cx) (o : Nat → Option Nat) (ls : List Lb) (b : Nat) : Prop := X.sh o b ∨ ∃ l ∈ ls, o b = some l.1
def ownS (o : Nat → Option Nat) (id b : Nat) : Prop := o b = some id
def innerOwn {t : Ty} (X : Cx) (C : Cc) (id : Nat) : Option (List Lb) → List t.D → Value → Prop
  | none, xs, v => OwnD C.w (.row t) (ownS C.o id) xs [v]
  | some ls, xs, v => RowR C.w (ownS C.o id) t (fun b _ => RepD C.w (fun k => (lbS X C.o ls k ∨ C.o k = some id) ∧ k ≠ b) t) xs v
def okL (hp : Hp) (nx : Nat) (l : Lb) : Prop := l.1 < nx ∧ ∀ v t xs inner, hget hp l.1 = .row v t xs inner → l.2 ≤ v
mutual
def RepA (X : Cx) (C : Cc) (hp : Hp) (nx : Nat) : AV → Value → Prop
  | .int k n, v => v = .int k n
  | .bool b, v => v = .bool b
  | .tt, v => v = .bool true
  | .ff, v => v = .bool false
  | .prop p d, v => v = .bool (@decide p d)
  | .str s, v => v = .string s
  | .lst t xs ls, v => (∀ l ∈ ls, okL hp nx l) ∧ v.oneCell' = true ∧ (lvs hp ls = true → RepD C.w (lbS X C.o ls) (.row t) xs [v])
  | .sub id ver t xs, v => okL hp nx (id, ver) ∧ v.oneCell' = true ∧ (∀ u us inner, hget hp id = .row ver u us inner → lvs hp (innerL inner) = true → u = t ∧ innerOwn (t := t) X C id inner xs v)
  | .own id, v => id < nx ∧ v.oneCell' = true ∧ (∀ ver t xs inner, hget hp id = .row ver t xs inner → v = C.μ id)
  | .inn id ver i off, v => okL hp nx (id, ver) ∧ v.oneCell' = true ∧ (∀ t xs, hget hp id = .row ver t xs none → 0 ≤ i ∧ i.toNat < xs.length ∧
      ∃ b ao len cap arr e fr, C.μ id = .slice (some ⟨b, ao, none⟩) len cap ∧ C.w.heap[b]? = some (.cells arr e fr) ∧ off < t.sz ∧ arr[ao + i.toNat * t.sz + off]? = some v)
  | .ptr id off, v => id < nx ∧ v.oneCell' = true ∧ (∀ l, hget hp id = .cells l → ∃ b, C.μ id = .pointer (some ⟨b, 0, none⟩) ∧ v = .pointer (some ⟨b, off, none⟩))
  | .spn id n, v => id < nx ∧ v.oneCell' = true ∧ (∀ l, hget hp id = .cells l → ∃ b, C.μ id = .pointer (some ⟨b, 0, none⟩) ∧ v = .slice (some ⟨b, 0, none⟩) n n)
  | .elp id i off, v => id < nx ∧ v.oneCell' = true ∧ (∀ ver t xs inner, hget hp id = .row ver t xs inner → 0 ≤ i ∧ i.toNat < xs.length ∧
      ∃ b ao len cap, C.μ id = .slice (some ⟨b, ao, none⟩) len cap ∧ v = .pointer (some ⟨b, ao + i.toNat * t.sz + off, none⟩))
  | .rop t x off ls, v => (∀ l ∈ ls, okL hp nx l) ∧ v.oneCell' = true ∧ (lvs hp ls = true → ∃ b ao arr e fr, v = .pointer (some ⟨b, ao + off, none⟩) ∧ lbS X C.o ls b ∧
      C.w.heap[b]? = some (.cells arr e fr) ∧ ao + t.sz ≤ arr.size ∧ RepD C.w (lbS X C.o ls) t x (sl arr ao t.sz))
  | .agg l, v => ∃ arr, v = .agg arr ∧ RepL X C hp nx l arr.toList
  | .tup l, v => ∃ arr, v = .tuple arr ∧ RepL X C hp nx l arr.toList
  | .fn f l, v => ∃ arr, v = .func (.func f) #[] arr ∧ RepL X C hp nx l arr.toList
  | .nil, v => v = .slice none 0 0
  | .nptr, v => v = .pointer none
  | .junk, _ => True
def RepL (X : Cx) (C : Cc) (hp : Hp) (nx : Nat) : List AV → List Value → Prop
  | [], vs => vs = []
  | a :: l, vs => ∃ v r, vs = v :: r ∧ RepA X C hp nx a v ∧ RepL X C hp nx l r
end
def blkOk (X : Cx) (C : Cc) (hp : Hp) (nx id : Nat) : Blk → Prop
  | .dead => True
  | .cells l => id < nx ∧ ∃ b arr e, C.μ id = .pointer (some ⟨b, 0, none⟩) ∧ C.o b = some id ∧ C.w.heap[b]? = some (.cells arr e (0, 0)) ∧ RepL X C hp nx l arr.toList
  | .row _ t xs inner => id < nx ∧ (lvs hp (innerL inner) = true → innerOwn (t := t) X C id inner xs (C.μ id)) ∧ (∃ A cap, C.μ id = .slice A xs.length cap) ∧ ∀ l ∈ innerL inner, okL hp nx l
def HpOk (X : Cx) (C : Cc) (hp : Hp) (nx : Nat) : Prop := ∀ id, blkOk X C hp nx id (hget hp id)
/-- What an invocation leaves as it was. -/
structure Fr (X : Cx) (C : Cc) : Prop where
  os : C.w.os = X.w0.os
  tape : C.w.tape = X.w0.tape
  output : C.w.output = X.w0.output
  size : X.w0.heap.size ≤ C.w.heap.size
  block : ∀ b, b < X.w0.heap.size → X.o0 b = none → C.w.heap[b]? = X.w0.heap[b]?
  own : ∀ b id, C.o b = some id → b < C.w.heap.size ∧ (X.w0.heap.size ≤ b ∨ X.o0 b ≠ none)
theorem Fr.inv {X : Cx} {C : Cc} (h : Fr X C) : X.J.I C.w C.o := X.J.st X.inv fun b hb ho => by
  refine ⟨?_, h.block b hb ho⟩
  cases e : C.o b with
  | none => rfl
  | some id => exact ((h.own b id e).2.elim (fun q => absurd q (by omega)) fun q => absurd ho q)
structure Rel (X : Cx) (C : Cc) (s : St) (ntm : Nat) (a : Act) : Prop where
  defers : a.defers = []
  size : a.tmps.size = ntm
  tm : ∀ t, RepA X C s.hp s.nx (tget s.tm t) (a.tmps.getD t undef)
  hp : HpOk X C s.hp s.nx
  fr : Fr X C
  n0 : X.n0 ≤ s.nx
  mu0 : ∀ i, i < X.n0 → hget s.hp i ≠ .dead → C.μ i = X.μ0 i
/-! ### a step of the world -/
structure Evo (X : Cx) (C C' : Cc) (hp hp' : Hp) (nx nx' : Nat) : Prop where
  le : nx ≤ nx'
  row : ∀ id, id < nx → ∀ v' t xs' inner', hget hp' id = .row v' t xs' inner' → C'.μ id = C.μ id ∧ ∃ v xs inner, hget hp id = .row v t xs inner ∧ xs'.length = xs.length ∧ v ≤ v' ∧
    (v = v' → hget hp' id = hget hp id ∧ ∀ b, C.o b = some id → C'.o b = some id ∧ C'.w.heap[b]? = C.w.heap[b]?)
  cells : ∀ id, id < nx → ∀ l', hget hp' id = .cells l' → C'.μ id = C.μ id ∧ ∃ l, hget hp id = .cells l
  free : ∀ b, b < C.w.heap.size → C.o b = none → C'.o b = none ∧ C'.w.heap[b]? = C.w.heap[b]?
theorem lv_row {hp : Hp} {l : Lb} (h : lv hp l = true) : ∃ t xs inner, hget hp l.1 = .row l.2 t xs inner := by
  unfold lv at h
  split at h
  · rename_i v t xs inner e
    have := Nat.eq_of_beq_eq_true h
    exact ⟨t, xs, inner, by rw [e, this]⟩
  · simp at h
theorem lv_of_row {hp : Hp} {id v : Nat} {t : Ty} {xs : List t.D} {inner : Option (List Lb)} (h : hget hp id = .row v t xs inner) : lv hp (id, v) = true := by
  unfold lv; simp [h]
theorem lvs_mem {hp : Hp} : ∀ {ls : List Lb}, lvs hp ls = true → ∀ l ∈ ls, lv hp l = true
  | [], _, l, hl => by simp at hl
  | a :: r, h, l, hl => by
    simp only [lvs, Bool.and_eq_true] at h
    cases hl with
    | head => exact h.1
    | tail _ hl => exact lvs_mem h.2 l hl
theorem lvs_of_mem {hp : Hp} : ∀ {ls : List Lb}, (∀ l ∈ ls, lv hp l = true) → lvs hp ls = true
  | [], _ => rfl
  | a :: r, h => by
    simp only [lvs, Bool.and_eq_true]
    exact ⟨h a (by simp), lvs_of_mem fun l hl => h l (by simp [hl])⟩
section
variable {X : Cx} {C C' : Cc} {hp hp' : Hp} {nx nx' : Nat}
theorem heap_lt {w : World} {b : Nat} {o : Obj} (h : w.heap[b]? = some o) : b < w.heap.size := by
  rcases Nat.lt_or_ge b w.heap.size with h' | h'
  · exact h'
  · simp [Array.getElem?_eq_none h'] at h
theorem Evo.okL (h : Evo X C C' hp hp' nx nx') {l : Lb} (hl : okL hp nx l) : okL hp' nx' l := by
  refine ⟨Nat.lt_of_lt_of_le hl.1 h.le, fun v' t xs' inner' e => ?_⟩
  obtain ⟨_, v, xs, inner, e0, _, hv, _⟩ := h.row _ hl.1 _ _ _ _ e
  exact Nat.le_trans (hl.2 _ _ _ _ e0) hv
/-- A label that lives still lived before, and its block is as it was. -/
theorem Evo.lv (h : Evo X C C' hp hp' nx nx') {l : Lb} (hn : Vm.okL hp nx l) (hl : lv hp' l = true) :
    lv hp l = true ∧ hget hp' l.1 = hget hp l.1 ∧ ∀ b, C.o b = some l.1 → C'.o b = some l.1 ∧ C'.w.heap[b]? = C.w.heap[b]? := by
  obtain ⟨t, xs, inner, e⟩ := lv_row hl
  obtain ⟨_, v, xs0, inner0, e0, _, hv, hs⟩ := h.row l.1 hn.1 _ _ _ _ e
  have hv' : v = l.2 := Nat.le_antisymm hv (hn.2 _ _ _ _ e0)
  subst hv'
  obtain ⟨h1, h2⟩ := hs rfl
  exact ⟨lv_of_row e0, h1, h2⟩
theorem Evo.lvs (h : Evo X C C' hp hp' nx nx') {ls : List Lb} (hn : ∀ l ∈ ls, Vm.okL hp nx l) (hl : lvs hp' ls = true) : lvs hp ls = true :=
  lvs_of_mem fun l hm => (h.lv (hn l hm) (lvs_mem hl l hm)).1
theorem Evo.stays (h : Evo X C C' hp hp' nx nx') {ls : List Lb} (hn : ∀ l ∈ ls, Vm.okL hp nx l) (hl : Vm.lvs hp' ls = true) : Stays C.w C'.w (lbS X C.o ls) (lbS X C'.o ls) := by
  intro b hb ob ho
  rcases hb with ⟨h0, h1⟩ | ⟨l, hm, hb⟩
  · obtain ⟨h2, h3⟩ := h.free b (heap_lt ho) h0
    exact ⟨h3.trans ho, .inl ⟨h2, h1⟩⟩
  · obtain ⟨_, _, h3⟩ := h.lv (hn l hm) (lvs_mem hl l hm)
    obtain ⟨h4, h5⟩ := h3 b hb
    exact ⟨h5.trans ho, .inr ⟨l, hm, h4⟩⟩
theorem Evo.own (h : Evo X C C' hp hp' nx nx') {l : Lb} (hn : Vm.okL hp nx l) (hl : Vm.lv hp' l = true) : Stays C.w C'.w (ownS C.o l.1) (ownS C'.o l.1) := by
  intro b hb ob ho
  obtain ⟨h4, h5⟩ := (h.lv hn hl).2.2 b hb
  exact ⟨h5.trans ho, h4⟩
theorem innerOwn_evo (h : Evo X C C' hp hp' nx nx') {id ver : Nat} (hn : Vm.okL hp nx (id, ver)) (hl : Vm.lv hp' (id, ver) = true) {t : Ty} {inner : Option (List Lb)} {xs : List t.D} {v : Value}
    (hi : ∀ l ∈ innerL inner, Vm.okL hp nx l) (hv : Vm.lvs hp' (innerL inner) = true) (ho : innerOwn X C id inner xs v) : innerOwn X C' id inner xs v := by
  cases inner with
  | none => exact OwnD.mono (t := .row t) (h.own hn hl) ho
  | some ls =>
    refine RowR.mono (h.own hn hl) (fun _ _ _ _ he => he.mono ?_) ho
    intro k hk o hob
    rcases hk.1 with h1 | h1
    · obtain ⟨h2, h3⟩ := h.stays hi hv k h1 o hob
      exact ⟨h2, .inl h3, hk.2⟩
    · obtain ⟨h2, h3⟩ := h.own hn hl k h1 o hob
      exact ⟨h2, .inr h3, hk.2⟩
mutual
theorem RepA.evo (h : Evo X C C' hp hp' nx nx') (hh : HpOk X C hp nx) : ∀ {a : AV} {v : Value}, RepA X C hp nx a v → RepA X C' hp' nx' a v
  | .int _ _, _, r => by simpa only [RepA] using r
  | .bool _, _, r => by simpa only [RepA] using r
  | .tt, _, r => by simpa only [RepA] using r
  | .ff, _, r => by simpa only [RepA] using r
  | .prop _ _, _, r => by simpa only [RepA] using r
  | .str _, _, r => by simpa only [RepA] using r
  | .lst t xs ls, v, r => by
    simp only [RepA] at r ⊢
    exact ⟨fun l hl => h.okL (r.1 l hl), r.2.1, fun hl => (r.2.2 (h.lvs r.1 hl)).mono (h.stays r.1 hl)⟩
  | .sub id ver t xs, v, r => by
    simp only [RepA] at r ⊢
    refine ⟨h.okL r.1, r.2.1, fun u us inner e hi => ?_⟩
    have hlv := lv_of_row e
    obtain ⟨h1, h2, h3⟩ := h.lv r.1 hlv
    have e0 : hget hp id = .row ver u us inner := by rw [← h2]; exact e
    have hk := hh id
    rw [e0] at hk
    have hin : ∀ l ∈ innerL inner, Vm.okL hp nx l := hk.2.2.2
    obtain ⟨hu, ho⟩ := r.2.2 u us inner e0 (h.lvs hin hi)
    exact ⟨hu, innerOwn_evo h r.1 hlv hin hi ho⟩
  | .own id, v, r => by
    simp only [RepA] at r ⊢
    refine ⟨Nat.lt_of_lt_of_le r.1 h.le, r.2.1, fun ver t xs inner e => ?_⟩
    obtain ⟨hm, v0, xs0, inner0, e0, _⟩ := h.row id r.1 _ _ _ _ e
    rw [hm]; exact r.2.2 _ _ _ _ e0
  | .inn id ver i off, v, r => by
    simp only [RepA] at r ⊢
    refine ⟨h.okL r.1, r.2.1, fun t xs e => ?_⟩
    have hlv := lv_of_row e
    obtain ⟨h1, h2, h3⟩ := h.lv r.1 hlv
    have e0 : hget hp id = .row ver t xs none := by rw [← h2]; exact e
    obtain ⟨g1, g2, b, ao, len, cap, arr, ee, fr, hm, hb, ho, ha⟩ := r.2.2 t xs e0
    have hk := hh id
    rw [e0] at hk
    have hown : OwnD C.w (.row t) (ownS C.o id) xs [C.μ id] := hk.2.1 rfl
    obtain ⟨w1, f, hw, A, cp, hw1, hle, hr⟩ := hown
    have hmu := (h.row id r.1.1 _ _ _ _ e).1
    have hcap : 0 < cp := by omega
    obtain ⟨b', off', arr', e', fr', hA, hS, hb', _⟩ := hr hcap
    have : b' = b := by
      have h5 : C.μ id = w1 := by simpa using hw
      rw [hm, hw1, hA] at h5
      simp at h5
      omega
    subst this
    obtain ⟨h6, h7⟩ := h3 b' hS
    exact ⟨g1, g2, b', ao, len, cap, arr, ee, fr, hmu.trans hm, h7.trans hb, ho, ha⟩
  | .ptr id off, v, r => by
    simp only [RepA] at r ⊢
    refine ⟨Nat.lt_of_lt_of_le r.1 h.le, r.2.1, fun l e => ?_⟩
    obtain ⟨hm, l0, e0⟩ := h.cells id r.1 _ e
    obtain ⟨b, h1, h2⟩ := r.2.2 l0 e0
    exact ⟨b, hm.trans h1, h2⟩
  | .spn id n, v, r => by
    simp only [RepA] at r ⊢
    refine ⟨Nat.lt_of_lt_of_le r.1 h.le, r.2.1, fun l e => ?_⟩
    obtain ⟨hm, l0, e0⟩ := h.cells id r.1 _ e
    obtain ⟨b, h1, h2⟩ := r.2.2 l0 e0
    exact ⟨b, hm.trans h1, h2⟩
  | .elp id i off, v, r => by
    simp only [RepA] at r ⊢
    refine ⟨Nat.lt_of_lt_of_le r.1 h.le, r.2.1, fun ver t xs inner e => ?_⟩
    obtain ⟨hm, v0, xs0, inner0, e0, hlen, _⟩ := h.row id r.1 _ _ _ _ e
    obtain ⟨g1, g2, b, ao, len, cap, h1, h2⟩ := r.2.2 v0 t xs0 inner0 e0
    exact ⟨g1, by omega, b, ao, len, cap, hm.trans h1, h2⟩
  | .rop t x off ls, v, r => by
    simp only [RepA] at r ⊢
    refine ⟨fun l hl => h.okL (r.1 l hl), r.2.1, fun hl => ?_⟩
    obtain ⟨b, ao, arr, e, fr, h1, h2, h3, h4, h5⟩ := r.2.2 (h.lvs r.1 hl)
    obtain ⟨h6, h7⟩ := h.stays r.1 hl b h2 _ h3
    exact ⟨b, ao, arr, e, fr, h1, h7, h6, h4, h5.mono (h.stays r.1 hl)⟩
  | .agg l, v, r => by
    simp only [RepA] at r ⊢
    obtain ⟨arr, h1, h2⟩ := r
    exact ⟨arr, h1, RepL.evo h hh h2⟩
  | .tup l, v, r => by
    simp only [RepA] at r ⊢
    obtain ⟨arr, h1, h2⟩ := r
    exact ⟨arr, h1, RepL.evo h hh h2⟩
  | .fn f l, v, r => by
    simp only [RepA] at r ⊢
    obtain ⟨arr, h1, h2⟩ := r
    exact ⟨arr, h1, RepL.evo h hh h2⟩
  | .nil, _, r => by simpa only [RepA] using r
  | .nptr, _, r => by simpa only [RepA] using r
  | .junk, _, _ => by simp only [RepA]
theorem RepL.evo (h : Evo X C C' hp hp' nx nx') (hh : HpOk X C hp nx) : ∀ {l : List AV} {vs : List Value}, RepL X C hp nx l vs → RepL X C' hp' nx' l vs
  | [], _, r => by simpa only [RepL] using r
  | a :: l, vs, r => by
    simp only [RepL] at r ⊢
    obtain ⟨v, r', h1, h2, h3⟩ := r
    exact ⟨v, r', h1, RepA.evo h hh h2, RepL.evo h hh h3⟩
end
end
end Go.Vm
namespace Go.Vm
open Go Go.RowKit
set_option linter.unusedVariables false
set_option linter.unusedSimpArgs false
theorem get?_append {α : Type} : ∀ (a b : List (Nat × α)) (k : Nat), get? (a ++ b) k = match get? a k with | some v => some v | none => get? b k
  | [], b, k => rfl
  | (i, v) :: a, b, k => by
    simp only [List.cons_append, get?]
    cases Nat.beq i k with
    | true => rfl
    | false => exact get?_append a b k
theorem hget_append (a b : Hp) (k : Nat) : hget (a ++ b) k = match get? a k with | some v => v | none => hget b k := by
  unfold hget
  rw [get?_append]
  cases get? a k <;> rfl
theorem get?_cons {α : Type} (i : Nat) (v : α) (l : List (Nat × α)) (k : Nat) : get? ((i, v) :: l) k = if i = k then some v else get? l k := by
  simp only [get?]
  by_cases h : i = k
  · subst h; simp
  · have : Nat.beq i k = false := by
      cases e : Nat.beq i k with
      | false => rfl
      | true => exact absurd (Nat.eq_of_beq_eq_true e) h
    simp [this, h]
theorem tget_cons (d : Nat) (v : AV) (l : Tm) (t : Nat) : tget ((d, v) :: l) t = if d = t then v else tget l t := by
  unfold tget
  rw [get?_cons]
  by_cases h : d = t
  · simp [h]
  · simp [h]
structure Pre (X : Cx) (C C' : Cc) (hp eff : Hp) (nx nx' : Nat) : Prop where
  le : nx ≤ nx'
  mu : ∀ id, get? eff id = none → id < nx → C'.μ id = C.μ id
  own : ∀ b id, C.o b = some id → get? eff id = none → C'.o b = some id ∧ C'.w.heap[b]? = C.w.heap[b]?
  free : ∀ b, b < C.w.heap.size → C.o b = none → C'.o b = none ∧ C'.w.heap[b]? = C.w.heap[b]?
  old : ∀ id, id < nx → (∀ v' t xs' inner', get? eff id = some (.row v' t xs' inner') → C'.μ id = C.μ id ∧ ∃ v xs inner, hget hp id = .row v t xs inner ∧ xs'.length = xs.length ∧ v < v') ∧
    (∀ l', get? eff id = some (.cells l') → C'.μ id = C.μ id ∧ ∃ l, hget hp id = .cells l)
structure Step (X : Cx) (C C' : Cc) (hp eff : Hp) (nx nx' : Nat) : Prop where
  pre : Pre X C C' hp eff nx nx'
  new : ∀ id B, get? eff id = some B → blkOk X C' (eff ++ hp) nx' id B
section
variable {X : Cx} {C C' : Cc} {hp eff : Hp} {nx nx' : Nat}
theorem Pre.evo (h : Pre X C C' hp eff nx nx') : Evo X C C' hp (eff ++ hp) nx nx' where
  le := h.le
  row := by
    intro id hid v' t xs' inner' e
    rw [hget_append] at e
    cases hg : get? eff id with
    | some B =>
      rw [hg] at e
      simp only at e
      subst e
      obtain ⟨h1, v, xs, inner, h2, h3, h4⟩ := (h.old id hid).1 _ _ _ _ hg
      exact ⟨h1, v, xs, inner, h2, h3, Nat.le_of_lt h4, fun hv => absurd hv (Nat.ne_of_lt h4)⟩
    | none =>
      rw [hg] at e
      simp only at e
      refine ⟨h.mu id hg hid, v', xs', inner', e, rfl, Nat.le_refl _, fun _ => ⟨?_, fun b hb => h.own b id hb hg⟩⟩
      rw [hget_append, hg]
  cells := by
    intro id hid l' e
    rw [hget_append] at e
    cases hg : get? eff id with
    | some B =>
      rw [hg] at e
      simp only at e
      subst e
      exact (h.old id hid).2 _ hg
    | none =>
      rw [hg] at e
      simp only at e
      exact ⟨h.mu id hg hid, l', e⟩
  free := h.free
theorem Step.evo (h : Step X C C' hp eff nx nx') : Evo X C C' hp (eff ++ hp) nx nx' := h.pre.evo
theorem Step.hpOk (h : Step X C C' hp eff nx nx') (hh : HpOk X C hp nx) : HpOk X C' (eff ++ hp) nx' := by
  intro id
  rw [hget_append]
  cases hg : get? eff id with
  | some B => exact h.new id B hg
  | none =>
    have hk := hh id
    have hev := h.evo
    simp only
    have hEq : hget (eff ++ hp) id = hget hp id := by rw [hget_append, hg]
    cases hb : hget hp id with
    | dead => trivial
    | cells l =>
      rw [hb] at hk
      obtain ⟨h1, b, arr, e, hm, ho, hw, hr⟩ := hk
      obtain ⟨h2, h3⟩ := h.pre.own b id ho hg
      exact ⟨Nat.lt_of_lt_of_le h1 h.pre.le, b, arr, e, (h.pre.mu id hg h1).trans hm, h2, h3.trans hw, hr.evo hev hh⟩
    | row v t xs inner =>
      rw [hb] at hk
      obtain ⟨h1, ho, ⟨A, cap, hs⟩, hl⟩ := hk
      have hmu := h.pre.mu id hg h1
      refine ⟨Nat.lt_of_lt_of_le h1 h.pre.le, fun hin => ?_, ⟨A, cap, hmu.trans hs⟩, fun l hl' => hev.okL (hl l hl')⟩
      rw [hmu]
      have hok : okL hp nx (id, v) := ⟨h1, fun v' t' xs' inner' e => by rw [hb] at e; cases e; exact Nat.le_refl _⟩
      exact innerOwn_evo hev hok (lv_of_row (hEq.trans hb)) hl hin (ho (hev.lvs hl hin))
theorem Step.refl (X : Cx) (C : Cc) (hp : Hp) (nx : Nat) : Step X C C hp [] nx nx where
  pre := ⟨Nat.le_refl _, fun _ _ _ => rfl, fun _ _ h _ => ⟨h, rfl⟩, fun _ _ h => ⟨h, rfl⟩, fun _ _ => ⟨fun _ _ _ _ e => by simp [get?] at e, fun _ e => by simp [get?] at e⟩⟩
  new := fun _ _ e => by simp [get?] at e
end
/-- The operation comes to a value, and to a world. -/
def OpGoes (P : Program) (o : Oper) (a : Act) (w : World) (φ : Value → World → Prop) : Prop :=
  ∀ (next : Act → World → Prop) (Q : Exit → Act → World → Prop), (∀ v w', φ v w' → next (a.put o.dst v) w') → o.wp P a w next Q
theorem OpGoes.value {P : Program} {o : Oper} {a : Act} {w w' : World} {φ : Value → World → Prop} {v : Value} (h : (execOp a.eval o).run P w = .ok (.value v) w') (hv : φ v w') : OpGoes P o a w φ := by
  intro next Q hn
  simp only [Oper.wp, h, Oper.upon_value]
  exact hn _ _ hv
theorem OpGoes.skip {P : Program} {o : Oper} {a : Act} {w w' : World} {φ : Value → World → Prop} (h : (execOp a.eval o).run P w = .ok .skip w') (hv : φ undef w') : OpGoes P o a w φ := by
  intro next Q hn
  simp only [Oper.wp, h, Oper.upon_skip]
  exact hn _ _ hv
theorem OpGoes.enter {P : Program} {o : Oper} {a : Act} {w w' : World} {φ : Value → World → Prop} {f : FuncId} {args : Array Value} (h : (execOp a.eval o).run P w = .ok (.enter f args) w')
    (hc : Calls P f args w' fun e w'' => ∃ v, e = .returned v ∧ φ v w'') : OpGoes P o a w φ := by
  intro next Q hn
  simp only [Oper.wp, h, Oper.upon_enter]
  refine hc.mono ?_
  rintro e w'' ⟨v, rfl, hv⟩
  exact hn _ _ hv
structure Fin (X : Cx) (C : Cc) (s : St) (out : Out) (v : Value) (C' : Cc) : Prop where
  evo : Evo X C C' s.hp (out.eff ++ s.hp) s.nx out.nx
  hp : HpOk X C' (out.eff ++ s.hp) out.nx
  val : RepA X C' (out.eff ++ s.hp) out.nx out.v v
  fr : Fr X C'
theorem Fin.of {X : Cx} {C C' : Cc} {s : St} {out : Out} {v : Value} (hh : HpOk X C s.hp s.nx) (h : Step X C C' s.hp out.eff s.nx out.nx) (hv : RepA X C' (out.eff ++ s.hp) out.nx out.v v) (hf : Fr X C') : Fin X C s out v C' := ⟨h.evo, h.hpOk hh, hv, hf⟩
def Done {R : Type} (X : Cx) (C : Cc) (s : St) (κ : Out → Option R) (r : R) (v : Value) (w' : World) : Prop :=
  ∃ out C', C'.w = w' ∧ κ out = some r ∧ Fin X C s out v C'
theorem Evo.refl (X : Cx) (C : Cc) (hp : Hp) (nx : Nat) : Evo X C C hp hp nx nx :=
  ⟨Nat.le_refl _, fun id _ v t xs inner e => ⟨rfl, v, xs, inner, e, rfl, Nat.le_refl _, fun _ => ⟨rfl, fun _ h => ⟨h, rfl⟩⟩⟩, fun id _ l e => ⟨rfl, l, e⟩, fun _ _ h => ⟨h, rfl⟩⟩
theorem Done.pure {R : Type} {X : Cx} {C : Cc} {s : St} {κ : Out → Option R} {r : R} {v : Value} {av : AV} (hh : HpOk X C s.hp s.nx) (hf : Fr X C) (hr : κ ⟨av, [], s.nx⟩ = some r) (hv : RepA X C s.hp s.nx av v) : Done X C s κ r v C.w :=
  ⟨⟨av, [], s.nx⟩, C, rfl, hr, Evo.refl _ _ _ _, hh, hv, hf⟩
theorem Rel.put {X : Cx} {C C' : Cc} {s : St} {ntm : Nat} {a : Act} {out : Out} {v : Value} {dst : Option Tmp} (h : Rel X C s ntm a) (hd : dstOk ntm dst = true) (hf : Fin X C s out v C') : Rel X C' (s.put dst out) ntm (a.put dst v) := by
  have hev := hf.evo
  have hmu : ∀ i, i < X.n0 → hget (out.eff ++ s.hp) i ≠ .dead → C'.μ i = X.μ0 i := by
    intro i hi hne
    have hlt := Nat.lt_of_lt_of_le hi h.n0
    cases hg : hget (out.eff ++ s.hp) i with
    | dead => exact absurd hg hne
    | cells l =>
      obtain ⟨h1, l', h2⟩ := hev.cells i hlt _ hg
      rw [h1]; exact h.mu0 i hi (by rw [h2]; simp)
    | row v t xs inner =>
      obtain ⟨h1, v', xs', inner', h2, _⟩ := hev.row i hlt _ _ _ _ hg
      rw [h1]; exact h.mu0 i hi (by rw [h2]; simp)
  have hold : ∀ t, RepA X C' (out.eff ++ s.hp) out.nx (tget s.tm t) (a.tmps.getD t undef) := fun t => (h.tm t).evo hev h.hp
  cases dst with
  | none => exact ⟨h.defers, h.size, hold, hf.hp, hf.fr, Nat.le_trans h.n0 hev.le, hmu⟩
  | some d =>
    have hdn : d < ntm := by
      have h2 : Nat.ble (d + 1) ntm = true := hd
      exact Nat.le_of_ble_eq_true h2
    refine ⟨h.defers, by simp only [Act.put, Array.size_setIfInBounds]; exact h.size, fun t => ?_, hf.hp, hf.fr, Nat.le_trans h.n0 hev.le, hmu⟩
    show RepA X C' (out.eff ++ s.hp) out.nx (tget ((d, out.v) :: s.tm) t) ((a.tmps.setIfInBounds d v).getD t undef)
    rw [tget_cons]
    by_cases ht : d = t
    · subst ht
      rw [if_pos rfl]
      have : (a.tmps.setIfInBounds d v).getD d undef = v := by
        rw [Array.getD_eq_getD_getElem?]
        simp [Array.getElem?_setIfInBounds, h.size, hdn]
      rw [this]
      exact hf.val
    · rw [if_neg ht]
      have : (a.tmps.setIfInBounds d v).getD t undef = a.tmps.getD t undef := by
        simp [Array.getD_eq_getD_getElem?, Array.getElem?_setIfInBounds, ht]
      rw [this]
      exact hold t
/-! ### the tables -/
def zeroV : Ty → List Value
  | .int k => [.int k 0]
  | .bool => [.bool false]
  | .str => [.string ByteArray.empty]
  | .row _ => [.slice none 0 0]
  | .pair a b => zeroV a ++ zeroV b
def kindFits (ty : Ty) : TypeDesc → Bool → Prop
  | .struct _, b => b = true
  | .array _ _, b => b = true
  | .int k, b => b = false ∧ ty = .int k
  | .bool, b => b = false ∧ ty = .bool
  | .string, b => b = false ∧ ty = .str
  | .slice _, b => b = false ∧ ∃ el, ty = .row el
  | _, _ => False
structure TiOk (P : Program) (t : TypeId) (ti : TI) : Prop where
  info : ∃ i, P.info? t = some i ∧ i.size = ti.ty.sz ∧ i.bytes = ti.bytes ∧ ∃ z, i.zero = some z ∧ z.cells.toList = zeroV ti.ty
  kind : ∃ d, P.underlying t = some d ∧ kindFits ti.ty d ti.agg
def fldsOk (P : Program) (fs : Array Field) (l : List (Nat × Nat)) : Prop :=
  l.length = fs.size ∧ ∀ (i o t : Nat), l[i]? = some (o, t) → ∃ (f : Field) (j : TypeInfo), fs[i]? = some f ∧ f.offset = o ∧ f.type = t ∧ P.info? t = some j ∧ j.size ≠ 0 ∧ f.name ≠ "_"
/-- A pointer type: one cell. -/
structure PtrOk (P : Program) (e : TypeId) : Prop where
  info : ∃ i z, P.info? e = some i ∧ i.size = 1 ∧ i.zero = some z
  kind : ∃ b, P.underlying e = some (.pointer b)
structure EnvOk (E : Env) (P : Program) : Prop where
  ti : ∀ t ti, get? E.ti t = some ti → TiOk P t ti
  el : ∀ t e, get? E.el t = some e → P.underlying t = some (.slice e)
  fl : ∀ t l, get? E.fl t = some l → ∃ fs, P.underlying t = some (.struct fs) ∧ fldsOk P fs l
  fn : ∀ g fn, get? E.fn g = some fn → P.funcs[g]? = some fn ∧ fn.name ≠ "runtime.NumGoroutine"
  mixed : P.follows .mixedOrders = true
  ps : ∀ t e, get? E.ps t = some e → P.underlying t = some (.slice e) ∧ PtrOk P e
  pe : ∀ e b, get? E.pe e = some b → PtrOk P e
  ar : ∀ t p, get? E.ar t = some p → P.underlying t = some (.array p.2 p.1)
  guard : ∀ t ti, get? E.ti t = some ti → ti.agg = true → P.eqGuardType P.depth t = false ∧ P.stoodInHeld t = false
theorem Ty.sz_pos : ∀ t : Ty, 0 < t.sz
  | .int _ => Nat.one_pos
  | .bool => Nat.one_pos
  | .str => Nat.one_pos
  | .row _ => Nat.one_pos
  | .pair a b => Nat.lt_of_lt_of_le a.sz_pos (Nat.le_add_right _ _)
theorem run_isAgg {P : Program} {t : TypeId} {ti : TI} (h : TiOk P t ti) (w : World) : (isAgg t).run P w = .ok ti.agg w := by
  obtain ⟨d, hd, hk⟩ := h.kind
  cases d <;> simp only [kindFits] at hk <;> first | exact hk.elim | skip
  all_goals simp [isAgg, underlying, hd]
  all_goals first | (rw [hk]) | (rw [hk.1])
theorem run_sizeOf {P : Program} {t : TypeId} {ti : TI} (h : TiOk P t ti) (w : World) : (sizeOf t).run P w = .ok ti.ty.sz w := by
  obtain ⟨i, hi, hs, _⟩ := h.info
  simp [sizeOf, typeInfo, hi, hs]
theorem run_zeroValue {P : Program} {t : TypeId} {ti : TI} (h : TiOk P t ti) (w : World) : ∃ z, (zeroValue t).run P w = .ok z w ∧ z.cells.toList = zeroV ti.ty := by
  obtain ⟨i, hi, hs, _, z, hz, hc⟩ := h.info
  exact ⟨z, by simp [zeroValue, typeInfo, hi, hz], hc⟩
/-! ### values and their cells -/
theorem RepL.length {X : Cx} {C : Cc} {hp : Hp} {nx : Nat} : ∀ {l : List AV} {vs : List Value}, RepL X C hp nx l vs → vs.length = l.length
  | [], vs, h => by simp only [RepL] at h; simp [h]
  | a :: l, vs, h => by
    simp only [RepL] at h
    obtain ⟨v, r, rfl, _, h⟩ := h
    simp [h.length]
theorem RepL.get {X : Cx} {C : Cc} {hp : Hp} {nx : Nat} : ∀ {l : List AV} {vs : List Value}, RepL X C hp nx l vs → ∀ {i : Nat} {a : AV}, l[i]? = some a → ∃ v, vs[i]? = some v ∧ RepA X C hp nx a v
  | [], vs, h, i, a, e => by simp at e
  | b :: l, vs, h, i, a, e => by
    simp only [RepL] at h
    obtain ⟨v, r, rfl, h1, h2⟩ := h
    cases i with
    | zero => simp at e; subst e; exact ⟨v, rfl, h1⟩
    | succ i => simp at e; simpa using h2.get e
theorem RepL.append {X : Cx} {C : Cc} {hp : Hp} {nx : Nat} : ∀ {l l' : List AV} {vs vs' : List Value}, RepL X C hp nx l vs → RepL X C hp nx l' vs' → RepL X C hp nx (l ++ l') (vs ++ vs')
  | [], l', vs, vs', h, h' => by simp only [RepL] at h; subst h; simpa using h'
  | a :: l, l', vs, vs', h, h' => by
    simp only [RepL] at h
    obtain ⟨v, r, rfl, h1, h2⟩ := h
    simp only [List.cons_append, RepL]
    exact ⟨v, r ++ vs', rfl, h1, h2.append h'⟩
theorem RepL.drop {X : Cx} {C : Cc} {hp : Hp} {nx : Nat} : ∀ {l : List AV} {vs : List Value} (n : Nat), RepL X C hp nx l vs → RepL X C hp nx (l.drop n) (vs.drop n)
  | _, _, 0, h => by simpa using h
  | [], vs, n + 1, h => by simp only [RepL] at h; subst h; simp [RepL]
  | a :: l, vs, n + 1, h => by
    simp only [RepL] at h
    obtain ⟨v, r, rfl, h1, h2⟩ := h
    simpa using h2.drop n
theorem RepL.take {X : Cx} {C : Cc} {hp : Hp} {nx : Nat} : ∀ {l : List AV} {vs : List Value} (n : Nat), RepL X C hp nx l vs → RepL X C hp nx (l.take n) (vs.take n)
  | _, _, 0, h => by simp [RepL]
  | [], vs, n + 1, h => by simp only [RepL] at h; subst h; simp [RepL]
  | a :: l, vs, n + 1, h => by
    simp only [RepL] at h
    obtain ⟨v, r, rfl, h1, h2⟩ := h
    simp only [List.take_succ_cons, RepL]
    exact ⟨v, r.take n, rfl, h1, h2.take n⟩
theorem cells_of {X : Cx} {C : Cc} {hp : Hp} {nx : Nat} {a : AV} {v : Value} (h : RepA X C hp nx a v) (hp' : plainV a = true) : RepL X C hp nx (cellsOf a) v.cells.toList := by
  cases a with
  | agg l =>
    simp only [RepA] at h
    obtain ⟨arr, rfl, h⟩ := h
    exact h
  | junk => simp [plainV] at hp'
  | tup l => simp [plainV] at hp'
  | _ =>
    simp only [cellsOf, RepL]
    refine ⟨v, [], ?_, h, rfl⟩
    simp only [RepA] at h
    first
      | (subst h; rfl)
      | (obtain ⟨_, h, _⟩ := h; subst h; rfl)
      | (have h1 := h.2.1; cases v <;> first | rfl | simp [Value.oneCell'] at h1)
theorem one_of {X : Cx} {C : Cc} {hp : Hp} {nx : Nat} {a : AV} {v : Value} (h : RepA X C hp nx a v) (ho : oneV a = true) : v.oneCell' = true := by
  cases a with
  | agg l => simp [oneV] at ho
  | junk => simp [oneV] at ho
  | tup l => simp [oneV] at ho
  | _ =>
    simp only [RepA] at h
    first
      | (subst h; rfl)
      | (obtain ⟨_, h, _⟩ := h; subst h; rfl)
      | exact h.2.1
theorem ones_of {X : Cx} {C : Cc} {hp : Hp} {nx : Nat} : ∀ {l : List AV} {vs : List Value}, RepL X C hp nx l vs → onesV l = true → ∀ u ∈ vs, u.oneCell' = true
  | [], vs, h, _, u, hu => by simp only [RepL] at h; subst h; simp at hu
  | a :: l, vs, h, ho, u, hu => by
    simp only [RepL] at h
    obtain ⟨v, r, rfl, h1, h2⟩ := h
    simp only [onesV, Bool.and_eq_true] at ho
    cases hu with
    | head => exact one_of h1 ho.1
    | tail _ hu => exact ones_of h2 ho.2 u hu
theorem eval_opnd {X : Cx} {C : Cc} {s : St} {ntm : Nat} {a : Act} (h : Rel X C s ntm a) (x : Operand) : RepA X C s.hp s.nx (opnd s.tm x) (a.eval x) := by
  cases x with
  | tmp t => exact h.tm t
  | func f => simp only [opnd, Act.eval, RepA]; exact ⟨#[], rfl, by simp [RepL]⟩
  | global g => simp only [opnd, RepA]
  | const v =>
    simp only [opnd, Act.eval]
    unfold constAV
    split <;> simp only [RepA]
end Go.Vm
namespace Go.Vm
open Go Go.RowKit
set_option linter.unusedVariables false
set_option linter.unusedSimpArgs false
section
variable {X : Cx} {C C' : Cc} {hp hp' : Hp} {nx nx' : Nat}
theorem okL_nil {l : Lb} (h : l ∈ ([] : List Lb)) : okL hp nx l := by simp at h
/-- The cells of shared data. -/
theorem avs_rep {ls : List Lb} (hl : ∀ l ∈ ls, okL hp nx l) (hv : lvs hp ls = true) : ∀ {t : Ty} {x : t.D} {cs : List Value}, RepD C.w (lbS X C.o ls) t x cs → RepL X C hp nx (t.avs ls x) cs
  | .int k, n, cs, h => by simp only [RepD] at h; subst h; simp [Ty.avs, RepL, RepA]
  | .bool, n, cs, h => by simp only [RepD] at h; subst h; simp [Ty.avs, RepL, RepA]
  | .str, n, cs, h => by simp only [RepD] at h; subst h; simp [Ty.avs, RepL, RepA]
  | .pair a b, x, cs, h => by
    obtain ⟨c1, c2, rfl, h1, h2⟩ := h
    exact (avs_rep hl hv h1).append (avs_rep hl hv h2)
  | .row el, xs, cs, h => by
    have h0 := h
    obtain ⟨A, cap, h1, h2, h3⟩ := h
    subst h1
    simp only [Ty.avs, RepL, RepA]
    exact ⟨_, [], rfl, ⟨hl, rfl, fun _ => h0⟩, rfl⟩
/-- The cells of an element of a row of one's own. -/
theorem avsI_rep {id ver : Nat} {i : Int} {T : Ty} {XS : List T.D} (hok : okL hp nx (id, ver)) (hr : hget hp id = .row ver T XS none) (h0 : 0 ≤ i) (hi : i.toNat < XS.length)
    {b ao len cap : Nat} {arr : Array Value} {e : TypeId} {fr : Nat × Nat} (hm : C.μ id = .slice (some ⟨b, ao, none⟩) len cap) (hb : C.w.heap[b]? = some (.cells arr e fr)) :
    ∀ {t : Ty} {x : t.D} {S : Nat → Prop} {off : Nat} {cs : List Value}, OwnD C.w t S x cs → off + t.sz ≤ T.sz → (∀ j v, cs[j]? = some v → arr[ao + i.toNat * T.sz + off + j]? = some v) →
      RepL X C hp nx (t.avsI id ver i off x) cs
  | .int k, n, S, off, cs, h, _, _ => by simp only [OwnD] at h; subst h; simp [Ty.avsI, RepL, RepA]
  | .bool, n, S, off, cs, h, _, _ => by simp only [OwnD] at h; subst h; simp [Ty.avsI, RepL, RepA]
  | .str, n, S, off, cs, h, _, _ => by simp only [OwnD] at h; subst h; simp [Ty.avsI, RepL, RepA]
  | .pair a c, x, S, off, cs, h, ho, hc => by
    obtain ⟨f, c1, c2, rfl, h1, h2⟩ := h
    simp only [Ty.sz] at ho
    have hl1 := h1.len
    refine (avsI_rep hok hr h0 hi hm hb h1 (by omega) (fun j v hj => hc j v ?_)).append (avsI_rep hok hr h0 hi hm hb h2 (by omega) (fun j v hj => ?_))
    · have : j < c1.length := (List.getElem?_eq_some_iff.1 hj).1
      rw [List.getElem?_append_left this]; exact hj
    · have := hc (c1.length + j) v (by rw [List.getElem?_append_right (by omega)]; simpa using hj)
      rw [hl1] at this
      rwa [show ao + i.toNat * T.sz + (off + a.sz) + j = ao + i.toNat * T.sz + off + (a.sz + j) by omega]
  | .row el, xs, S, off, cs, h, ho, hc => by
    obtain ⟨v, f, rfl, A, cp, hv, _⟩ := h
    simp only [Ty.sz] at ho
    simp only [Ty.avsI, RepL, RepA]
    refine ⟨v, [], rfl, ⟨hok, by rw [hv]; rfl, fun t xs' e' => ?_⟩, rfl⟩
    rw [hr] at e'
    cases e'
    exact ⟨h0, hi, b, ao, len, cap, arr, e, fr, hm, hb, by omega, by simpa using hc 0 v rfl⟩
/-- The inner row at a cell. -/
theorem cellRow_own {w : World} : ∀ {t : Ty} {S : Nat → Prop} {x : t.D} {cs : List Value} {off : Nat} {el : Ty} {ys : List el.D}, OwnD w t S x cs → t.cellRow x off = some ⟨el, ys⟩ →
    off < t.sz ∧ ∃ v, cs[off]? = some v ∧ OwnD w (.row el) S ys [v]
  | .row el, S, xs, cs, 0, el', ys, h, e => by
    simp only [Ty.cellRow, Option.some.injEq, Sigma.mk.injEq] at e
    obtain ⟨h1, h2⟩ := e
    subst h1
    simp only [heq_eq_eq] at h2
    subst h2
    have h' := h
    obtain ⟨v, f, rfl, _⟩ := h
    exact ⟨Nat.one_pos, v, rfl, h'⟩
  | .row el, S, xs, cs, n + 1, el', ys, h, e => by simp [Ty.cellRow] at e
  | .int k, S, xs, cs, n, el', ys, h, e => by cases n <;> simp [Ty.cellRow] at e
  | .bool, S, xs, cs, n, el', ys, h, e => by cases n <;> simp [Ty.cellRow] at e
  | .str, S, xs, cs, n, el', ys, h, e => by cases n <;> simp [Ty.cellRow] at e
  | .pair a b, S, x, cs, off, el', ys, h, e => by
    obtain ⟨f, c1, c2, rfl, h1, h2⟩ := h
    have hl1 := h1.len
    simp only [Ty.cellRow] at e
    cases hb : Nat.ble a.sz off with
    | true =>
      rw [hb] at e
      have hle := Nat.le_of_ble_eq_true hb
      obtain ⟨g1, v, g2, g3⟩ := cellRow_own h2 e
      refine ⟨by simp only [Ty.sz]; omega, v, by rw [List.getElem?_append_right (by omega), hl1]; exact g2, OwnD.mono (t := .row el') (fun k hk o ho => ⟨ho, hk.1⟩) g3⟩
    | false =>
      rw [hb] at e
      obtain ⟨g1, v, g2, g3⟩ := cellRow_own h1 e
      refine ⟨by simp only [Ty.sz]; omega, v, by rw [List.getElem?_append_left (by omega)]; exact g2, OwnD.mono (t := .row el') (fun k hk o ho => ⟨ho, hk.1⟩) g3⟩
theorem rd_get {t : Ty} {xs : List t.D} {i : Int} (h : i.toNat < xs.length) : xs[i.toNat]? = some (rd t xs i) := by
  unfold rd
  rw [List.getD_eq_getElem?_getD, List.getElem?_eq_getElem h]
  rfl
/-- A row of one's own, opened at an element. -/
theorem own_elem {t : Ty} {S : Nat → Prop} {xs : List t.D} {v : Value} {b ao len cap : Nat} {arr : Array Value} {e : TypeId} {fr : Nat × Nat} {w : World}
    (h : OwnD w (.row t) S xs [v]) (hv : v = .slice (some ⟨b, ao, none⟩) len cap) (hb : w.heap[b]? = some (.cells arr e fr)) {i : Nat} {x : t.D} (hx : xs[i]? = some x) :
    S b ∧ ao + cap * t.sz ≤ arr.size ∧ len = xs.length ∧ len ≤ cap ∧ FrOk t fr arr.size ∧ ∃ f : Nat → Nat, OwnD w t (fun k => S k ∧ k ≠ b ∧ f k = i) x (sl arr (ao + i * t.sz) t.sz) := by
  obtain ⟨w1, f, hw, A, cp, hw1, hle, hr⟩ := h
  have hi : i < xs.length := (List.getElem?_eq_some_iff.1 hx).1
  obtain ⟨b', off', arr', e', fr', hA, hS, hb', hfr, hcp, hel⟩ := hr (by omega)
  have h5 : v = w1 := by simpa using hw
  subst h5
  rw [hv, hA] at hw1
  simp only [Value.slice.injEq, Option.some.injEq, Addr.mk.injEq] at hw1
  obtain ⟨⟨rfl, rfl, _⟩, rfl, rfl⟩ := hw1
  rw [hb] at hb'
  cases hb'
  exact ⟨hS, hcp, rfl, hle, hfr, f, hel i x hx⟩
theorem rowOf_rep (hh : HpOk X C hp nx) {a : AV} {v : Value} (h : RepA X C hp nx a v) {r : RowV} (e : rowOf hp a = some r) :
    RepD C.w (lbS X C.o r.ls) (.row r.t) r.xs [v] ∧ (∀ l ∈ r.ls, okL hp nx l) ∧ lvs hp r.ls = true := by
  cases a with
  | lst t xs ls =>
    simp only [RepA] at h
    simp only [rowOf] at e
    split at e
    · rename_i hl
      cases e
      exact ⟨h.2.2 hl, h.1, hl⟩
    · cases e
  | sub id ver t xs =>
    simp only [RepA] at h
    simp only [rowOf] at e
    split at e
    · rename_i v' u us inner hg
      split at e
      · rename_i hl
        cases e
        simp only [Bool.and_eq_true] at hl
        have hv := Nat.eq_of_beq_eq_true hl.1
        subst hv
        have hk := hh id
        rw [hg] at hk
        obtain ⟨hu, ho⟩ := h.2.2 u us inner hg hl.2
        have hall : lvs hp ((id, v') :: innerL inner) = true := by
          simp only [lvs, Bool.and_eq_true]
          exact ⟨lv_of_row hg, hl.2⟩
        refine ⟨?_, ?_, hall⟩
        · cases inner with
          | none => exact (OwnD.rep (t := .row t) ho).mono fun k hk o ho => ⟨ho, .inr ⟨(id, v'), by simp, hk⟩⟩
          | some ls =>
            refine RowR.rep (EP := fun _ _ => RepD C.w (lbS X C.o ((id, v') :: ls)) t) (fun _ _ _ _ h => h) (RowR.mono ?_ (fun _ _ _ _ he => he.mono ?_) ho)
            · exact fun k hk o ho => ⟨ho, .inr ⟨(id, v'), by simp, hk⟩⟩
            · intro k hk o ho
              refine ⟨ho, hk.1.elim (fun h => h.elim .inl fun ⟨l, hl, hb⟩ => .inr ⟨l, by simp [hl], hb⟩) fun h => .inr ⟨(id, v'), by simp, h⟩⟩
        · intro l hl'
          cases hl' with
          | head => exact h.1
          | tail _ hl' => exact hk.2.2.2 l hl'
      · cases e
    · cases e
  | own id =>
    simp only [RepA] at h
    simp only [rowOf] at e
    split at e
    · rename_i v' t xs inner hg
      split at e
      · rename_i hl
        cases e
        have hk := hh id
        rw [hg] at hk
        have ho := hk.2.1 hl
        have hv := h.2.2 _ _ _ _ hg
        rw [← hv] at ho
        have hall : lvs hp ((id, v') :: innerL inner) = true := by
          simp only [lvs, Bool.and_eq_true]
          exact ⟨lv_of_row hg, hl⟩
        refine ⟨?_, ?_, hall⟩
        · cases inner with
          | none => exact (OwnD.rep (t := .row t) ho).mono fun k hk o ho => ⟨ho, .inr ⟨(id, v'), by simp, hk⟩⟩
          | some ls =>
            refine RowR.rep (EP := fun _ _ => RepD C.w (lbS X C.o ((id, v') :: ls)) t) (fun _ _ _ _ h => h) (RowR.mono ?_ (fun _ _ _ _ he => he.mono ?_) ho)
            · exact fun k hk o ho => ⟨ho, .inr ⟨(id, v'), by simp, hk⟩⟩
            · intro k hk o ho
              refine ⟨ho, hk.1.elim (fun h => h.elim .inl fun ⟨l, hl, hb⟩ => .inr ⟨l, by simp [hl], hb⟩) fun h => .inr ⟨(id, v'), by simp, h⟩⟩
        · intro l hl'
          cases hl' with
          | head => exact ⟨h.1, fun v t xs i e => by rw [hg] at e; cases e; exact Nat.le_refl _⟩
          | tail _ hl' => exact hk.2.2.2 l hl'
      · cases e
    · cases e
  | inn id ver i off =>
    simp only [RepA] at h
    simp only [rowOf] at e
    split at e
    · rename_i v' t xs hg
      split at e
      · rename_i hl
        have hv := Nat.eq_of_beq_eq_true hl
        subst hv
        split at e
        · rename_i el ys hc
          cases e
          obtain ⟨h0, hi, b, ao, len, cap, arr, ee, fr, hm, hb, hoff, hcell⟩ := h.2.2 t xs hg
          have hk := hh id
          rw [hg] at hk
          have ho := hk.2.1 rfl
          obtain ⟨hS, hcp, hlen, hlc, _, f, hel⟩ := own_elem ho hm hb (rd_get hi)
          obtain ⟨_, u, hu, hown⟩ := cellRow_own hel hc
          rw [sl_get hoff] at hu
          rw [show ao + i.toNat * t.sz + off = ao + (i.toNat * t.sz) + off by omega] at hcell
          rw [hcell] at hu
          cases hu
          refine ⟨(OwnD.rep (t := .row el) hown).mono fun k hk o ho => ⟨ho, .inr ⟨(id, v'), by simp, hk.1⟩⟩, ?_, ?_⟩
          · intro l hl'
            simp at hl'
            subst hl'
            exact h.1
          · simp only [lvs, Bool.and_eq_true]
            exact ⟨lv_of_row hg, trivial⟩
        · cases e
      · cases e
    · cases e
  | _ => simp [rowOf] at e
theorem rowCast_eq {t u : Ty} {xs : List t.D} {ys : List u.D} (h : rowCast t u xs = some ys) : ∃ e : t = u, ys = e ▸ xs := by
  unfold rowCast at h
  split at h
  · rename_i hb
    cases h
    exact ⟨Ty.beq_eq hb, rfl⟩
  · cases h
end
end Go.Vm
namespace Go.Vm
open Go Go.RowKit
set_option linter.unusedVariables false
set_option linter.unusedSimpArgs false
def inG (G : List Nat) : Option Nat → Bool
  | some j => memN G j
  | none => false
theorem memN_iff : ∀ {l : List Nat} {k : Nat}, memN l k = true ↔ k ∈ l
  | [], k => by simp [memN]
  | a :: l, k => by
    simp only [memN]
    by_cases h : a = k
    · subst h; simp
    · have : Nat.beq a k = false := by
        cases e : Nat.beq a k with
        | false => rfl
        | true => exact absurd (Nat.eq_of_beq_eq_true e) h
      rw [this]
      simp only [List.mem_cons]
      rw [memN_iff]
      constructor
      · exact .inr
      · rintro (h' | h')
        · exact absurd h'.symm h
        · exact h'
/-- The blocks of the names G, and the new ones, become k's. -/
def Cc.give (C : Cc) (G : List Nat) (k : Nat) (w' : World) (v : Value) : Cc where
  w := w'
  μ := fun i => if i = k then v else C.μ i
  o := fun b => if C.w.heap.size ≤ b ∧ b < w'.heap.size then some k else if inG G (C.o b) = true then some k else C.o b
structure Same (w w' : World) : Prop where
  os : w'.os = w.os
  tape : w'.tape = w.tape
  output : w'.output = w.output
theorem Same.refl (w : World) : Same w w := ⟨rfl, rfl, rfl⟩
section
variable {X : Cx} {C : Cc} {hp : Hp} {nx : Nat}
theorem give_o_old {G : List Nat} {k b : Nat} {w' : World} {v : Value} (h : b < C.w.heap.size) : (C.give G k w' v).o b = if inG G (C.o b) = true then some k else C.o b := by
  simp only [Cc.give]
  rw [if_neg (by omega)]
theorem give_o_new {G : List Nat} {k b : Nat} {w' : World} {v : Value} (h : C.w.heap.size ≤ b) (h' : b < w'.heap.size) : (C.give G k w' v).o b = some k := by
  simp only [Cc.give]
  rw [if_pos ⟨h, h'⟩]
theorem give_own (hf : Fr X C) {G : List Nat} {k j b : Nat} {w' : World} {v : Value} (hb : C.o b = some j) (hj : j ∈ G) : (C.give G k w' v).o b = some k := by
  rw [give_o_old (hf.own b j hb).1, if_pos (by rw [hb]; exact memN_iff.2 hj)]
theorem give_keep (hf : Fr X C) {G : List Nat} {k j b : Nat} {w' : World} {v : Value} (hb : C.o b = some j) (hj : j ∉ G) : (C.give G k w' v).o b = some j := by
  rw [give_o_old (hf.own b j hb).1, hb, if_neg]
  intro h
  exact hj (memN_iff.1 h)
theorem give_fr (hf : Fr X C) {G : List Nat} {k : Nat} {w' : World} {v : Value} (hs : Same C.w w') (hsz : C.w.heap.size ≤ w'.heap.size)
    (hw : ∀ b, b < C.w.heap.size → (∀ j, C.o b = some j → j ≠ k ∧ j ∉ G) → w'.heap[b]? = C.w.heap[b]?) : Fr X (C.give G k w' v) where
  os := hs.os.trans hf.os
  tape := hs.tape.trans hf.tape
  output := hs.output.trans hf.output
  size := Nat.le_trans hf.size hsz
  block := by
    intro b hb ho
    refine (hw b (Nat.lt_of_lt_of_le hb hf.size) fun j hj => ?_).trans (hf.block b hb ho)
    have := (hf.own b j hj).2
    exact absurd (this.resolve_left (by omega)) (by simp [ho])
  own := by
    intro b id hb
    by_cases hlt : b < C.w.heap.size
    · rw [give_o_old hlt] at hb
      split at hb
      · rename_i hg
        cases ho : C.o b with
        | none => rw [ho] at hg; simp [inG] at hg
        | some j => exact ⟨Nat.lt_of_lt_of_le hlt hsz, (hf.own b j ho).2⟩
      · exact ⟨Nat.lt_of_lt_of_le hlt hsz, (hf.own b id hb).2⟩
    · by_cases h2 : b < w'.heap.size
      · exact ⟨h2, .inl (Nat.le_trans hf.size (by omega))⟩
      · simp only [Cc.give] at hb
        rw [if_neg (by omega)] at hb
        split at hb
        · rename_i hg
          cases ho : C.o b with
          | none => rw [ho] at hg; simp [inG] at hg
          | some j => exact absurd (hf.own b j ho).1 hlt
        · exact absurd (hf.own b id hb).1 hlt
/-- The step: 'k' gets a new block or keeps its own; the names G are given away. -/
theorem give_pre (hf : Fr X C) {G : List Nat} {k nx' : Nat} {w' : World} {v : Value} {eff : Hp} {B : Blk} (hle : nx ≤ nx') (hk : get? eff k = some B) (hkG : k ∉ G)
    (hG : ∀ j, j ≠ k → get? eff j = if memN G j = true then some .dead else none)
    (hw : ∀ b, b < C.w.heap.size → (∀ j, C.o b = some j → j ≠ k ∧ j ∉ G) → w'.heap[b]? = C.w.heap[b]?)
    (hold : k < nx → v = C.μ k ∧ ((∃ l l', B = .cells l' ∧ hget hp k = .cells l) ∨ ∃ v0 v' t xs xs' i i', B = .row v' t xs' i' ∧ hget hp k = .row v0 t xs i ∧ xs'.length = xs.length ∧ v0 < v')) : Pre X C (C.give G k w' v) hp eff nx nx' where
  le := hle
  mu := by
    intro id he hid
    simp only [Cc.give]
    rw [if_neg]
    rintro rfl
    rw [hk] at he; cases he
  own := by
    intro b id hb he
    have hik : id ≠ k := by rintro rfl; rw [hk] at he; cases he
    have hiG : id ∉ G := by
      intro hm
      rw [hG id hik, if_pos (memN_iff.2 hm)] at he
      cases he
    refine ⟨give_keep hf hb hiG, hw b (hf.own b id hb).1 fun j hj => ?_⟩
    rw [hb] at hj; cases hj
    exact ⟨hik, hiG⟩
  free := by
    intro b hb ho
    refine ⟨by rw [give_o_old hb, ho]; simp [inG], hw b hb fun j hj => by rw [ho] at hj; cases hj⟩
  old := by
    intro id hid
    by_cases hik : id = k
    · subst hik
      obtain ⟨hv, hc⟩ := hold hid
      have hmu : (C.give G id w' v).μ id = C.μ id := by simp [Cc.give, hv]
      refine ⟨fun v' t xs' inner' e => ⟨hmu, ?_⟩, fun l' e => ⟨hmu, ?_⟩⟩
      · rw [hk] at e; cases e
        rcases hc with ⟨l, l', h1, h2⟩ | ⟨v0, v1, t1, xs, xs1, i, i1, h1, h2, h3, h4⟩
        · cases h1
        · cases h1
          exact ⟨v0, xs, i, h2, h3, h4⟩
      · rw [hk] at e; cases e
        rcases hc with ⟨l, l', h1, h2⟩ | ⟨v0, v1, t1, xs, xs1, i, i1, h1, h2, h3, h4⟩
        · exact ⟨l, h2⟩
        · cases h1
    · refine ⟨fun v' t xs' inner' e => ?_, fun l' e => ?_⟩
      · rw [hG id hik] at e; split at e <;> cases e
      · rw [hG id hik] at e; split at e <;> cases e
theorem give_step {G : List Nat} {k nx' : Nat} {w' : World} {v : Value} {eff : Hp} {B : Blk} (hp' : Pre X C (C.give G k w' v) hp eff nx nx') (hk : get? eff k = some B)
    (hG : ∀ j, j ≠ k → get? eff j = if memN G j = true then some .dead else none) (hnew : blkOk X (C.give G k w' v) (eff ++ hp) nx' k B) : Step X C (C.give G k w' v) hp eff nx nx' where
  pre := hp'
  new := by
    intro id B' e
    by_cases hik : id = k
    · subst hik
      rw [hk] at e; cases e
      exact hnew
    · rw [hG id hik] at e
      split at e
      · cases e; trivial
      · cases e
end
/-! ### memory -/
theorem cell_blk {w : World} {b off : Nat} {c : Array Value} {e : TypeId} {fr : Nat × Nat} (h : w.heap[b]? = some (.cells c e fr)) : w.cell? ⟨b, off, none⟩ = c[off]? := by
  simp [World.cell?, h]
theorem add_lit (b off n : Nat) : (⟨b, off, none⟩ : Addr).add n = ⟨b, off + n, none⟩ := by
  unfold Addr.add; split <;> simp_all
def spl (c : Array Value) (k : Nat) (vs : List Value) : Array Value := (c.toList.take k ++ (vs ++ c.toList.drop (k + vs.length))).toArray
theorem spl_size {c : Array Value} {k : Nat} {vs : List Value} (h : k + vs.length ≤ c.size) : (spl c k vs).size = c.size := by
  simp [spl]; omega
theorem spl_nil (c : Array Value) (k : Nat) : spl c k [] = c := by simp [spl]
theorem spl_get {c : Array Value} {k : Nat} {vs : List Value} (h : k + vs.length ≤ c.size) (j : Nat) : (spl c k vs)[j]? = if k ≤ j ∧ j < k + vs.length then vs[j - k]? else c[j]? := by
  simp only [spl, List.getElem?_toArray]
  have hk : (c.toList.take k).length = k := by simp; omega
  by_cases h1 : j < k
  · rw [List.getElem?_append_left (by omega), if_neg (by omega)]
    simp [List.getElem?_take, h1]
  · rw [List.getElem?_append_right (by omega), hk]
    by_cases h2 : j < k + vs.length
    · rw [List.getElem?_append_left (by omega), if_pos (by omega)]
    · rw [List.getElem?_append_right (by omega), if_neg (by omega)]
      simp only [List.getElem?_drop, Array.getElem?_toList]
      congr 1; omega
theorem spl_cons (c : Array Value) (k : Nat) (v : Value) (vs : List Value) (h : k + vs.length + 1 ≤ c.size) : spl (c.setIfInBounds k v) (k + 1) vs = spl c k (v :: vs) := by
  apply Array.ext_getElem?
  intro j
  rw [spl_get (by simp; omega), spl_get (by simp; omega)]
  simp only [List.length_cons]
  by_cases h1 : j = k
  · subst h1
    rw [if_neg (by omega), if_pos (by omega)]
    simp [Array.getElem?_setIfInBounds]
    omega
  · by_cases h2 : k + 1 ≤ j ∧ j < k + 1 + vs.length
    · rw [if_pos h2, if_pos (by omega)]
      obtain ⟨m, rfl⟩ : ∃ m, j = k + 1 + m := ⟨j - (k + 1), by omega⟩
      rw [show k + 1 + m - (k + 1) = m by omega, show k + 1 + m - k = m + 1 by omega]
      rfl
    · rw [if_neg h2, if_neg (by omega)]
      rw [Array.getElem?_setIfInBounds, if_neg (fun h => h1 h.symm)]
theorem run_storeCells_blk {P : Program} (b : Nat) (e : TypeId) (fr : Nat × Nat) (off : Nat) : ∀ (vs : List Value) (i : Nat) (w : World) (c : Array Value), w.heap[b]? = some (.cells c e fr) →
    (fr.2 ≤ fr.1 ∨ c.size ≤ fr.1) → off + i + vs.length ≤ c.size → (∀ v ∈ vs, v.oneCell' = true) →
    ∃ w', (storeCells ⟨b, off, none⟩ vs i).run P w = .ok () w' ∧ w'.heap = w.heap.setIfInBounds b (.cells (spl c (off + i) vs) e fr) ∧ Same w w'
  | [], i, w, c, hb, hfr, hsz, h1 => by
    refine ⟨w, rfl, ?_, Same.refl w⟩
    rw [spl_nil]
    apply Array.ext_getElem?
    intro j
    rw [Array.getElem?_setIfInBounds]
    split
    · rename_i h; subst h
      rw [hb]; simp [heap_lt hb]
    · rfl
  | v :: vs, i, w, c, hb, hfr, hsz, h1 => by
    simp only [List.length_cons] at hsz
    have hlt : off + i < c.size := by omega
    have hnf : w.frozen? ⟨b, off + i, none⟩ = false := by
      simp only [World.frozen?, hb]
      simp only [Bool.and_eq_false_iff, decide_eq_false_iff_not]
      omega
    have hst : (store ((⟨b, off, none⟩ : Addr).add i) v).run P w = .ok () (w.setCell ⟨b, off + i, none⟩ v) := by
      rw [add_lit, run_store P w _ v _ (h1 v (by simp)), cell_blk hb, Array.getElem?_eq_getElem hlt]
      simp [hnf]
    have hw1 : (w.setCell ⟨b, off + i, none⟩ v).heap = w.heap.setIfInBounds b (.cells (c.setIfInBounds (off + i) v) e fr) := by
      apply Array.ext_getElem?
      intro j
      simp only [World.setCell, Array.getElem?_modify, Array.getElem?_setIfInBounds]
      split
      · rename_i h; subst h
        rw [hb]; simp [heap_lt hb]
      · rfl
    have hb1 : (w.setCell ⟨b, off + i, none⟩ v).heap[b]? = some (.cells (c.setIfInBounds (off + i) v) e fr) := by
      rw [hw1, Array.getElem?_setIfInBounds]; simp [heap_lt hb]
    obtain ⟨w', h2, h3, h4⟩ := run_storeCells_blk (P := P) b e fr off vs (i + 1) (w.setCell ⟨b, off + i, none⟩ v) _ hb1 (by simpa using hfr) (by simp; omega) (fun u hu => h1 u (by simp [hu]))
    refine ⟨w', ?_, ?_, ⟨h4.os, h4.tape, h4.output⟩⟩
    · simp only [storeCells, Sem.run_bind, hst, Result.andThen_ok, h2]
    · rw [h3, hw1, ← spl_cons c (off + i) v vs (by omega), show off + (i + 1) = off + i + 1 by omega]
      apply Array.ext_getElem?
      intro j
      simp only [Array.getElem?_setIfInBounds, Array.size_setIfInBounds]
      split <;> rfl
theorem set_heap {w w' : World} {b : Nat} {o o' : Obj} (h : w'.heap = w.heap.setIfInBounds b o') (hb : w.heap[b]? = some o) : w'.heap[b]? = some o' ∧ w'.heap.size = w.heap.size ∧ ∀ k, k ≠ b → w'.heap[k]? = w.heap[k]? := by
  refine ⟨by rw [h, Array.getElem?_setIfInBounds]; simp [heap_lt hb], by rw [h]; simp, fun k hk => ?_⟩
  rw [h, Array.getElem?_setIfInBounds, if_neg (fun e => hk e.symm)]
theorem push_heap {w w' : World} {o' : Obj} (h : w'.heap = w.heap.push o') : w'.heap[w.heap.size]? = some o' ∧ w'.heap.size = w.heap.size + 1 ∧ ∀ k, k < w.heap.size → w'.heap[k]? = w.heap[k]? := by
  refine ⟨by rw [h]; simp, by rw [h]; simp, fun k hk => ?_⟩
  rw [h, Array.getElem?_push, if_neg (by omega)]
end Go.Vm
namespace Go.Vm
open Go Go.RowKit
set_option linter.unusedVariables false
set_option linter.unusedSimpArgs false
variable {E : Env} {R : Type} {X : Cx} {C : Cc} {s : St} {κ : Out → Option R} {r : R} {orc : Orc E}
theorem run_ret {v : AV} (h : (ret v s : Tr E Out).run orc κ = some r) : κ ⟨v, [], s.nx⟩ = some r := h
theorem run_test {p : Prop} {d : Decidable p} {t : Tr E Out} (h : (Tr.test p d t).run orc κ = some r) : p ∧ t.run orc κ = some r := by
  simp only [Tr.run] at h
  by_cases hp : p
  · rw [if_pos hp] at h; exact ⟨hp, h⟩
  · rw [if_neg hp] at h; cases h
/-- A part of a row of cells, loaded. -/
theorem load_piece {ti : TI} {t : TypeId} (hti : TiOk X.P t ti) {L : List AV} {cs : List Value} (hL : RepL X C s.hp s.nx L cs) {b o off : Nat} (hcell : ∀ j u, cs[j]? = some u → C.w.cell? ⟨b, o + j, none⟩ = some u)
    (hb : off + ti.ty.sz ≤ L.length) {v : AV} (hp : pieceOf ti L off = some v) : ∃ u, (loadVar t ⟨b, o + off, none⟩).run X.P C.w = .ok u C.w ∧ RepA X C s.hp s.nx v u := by
  have hlen := hL.length
  unfold pieceOf at hp
  split at hp
  · rename_i hag
    cases hp
    have hcs : ((cs.drop off).take ti.ty.sz).length = ti.ty.sz := by simp; omega
    have hld := run_loadCells_list (P := X.P) C.w ⟨b, o + off, none⟩ ((cs.drop off).take ti.ty.sz) (fun j u hj => by
      rw [add_lit]
      have hjl : j < ti.ty.sz := by have := (List.getElem?_eq_some_iff.1 hj).1; omega
      rw [List.getElem?_take, if_pos hjl, List.getElem?_drop] at hj
      have := hcell (off + j) u hj
      rwa [show o + (off + j) = o + off + j by omega] at this)
    rw [hcs] at hld
    refine ⟨.agg ((cs.drop off).take ti.ty.sz).toArray, ?_, ?_⟩
    · simp [loadVar, run_isAgg hti, hag, run_sizeOf hti, hld]
    · simp only [RepA]
      exact ⟨_, rfl, by simpa using (hL.drop off).take ti.ty.sz⟩
  · rename_i hag
    obtain ⟨u, hu, hr⟩ := hL.get hp
    refine ⟨u, ?_, hr⟩
    have := hcell off u hu
    simp [loadVar, run_isAgg hti, hag, this]
theorem load_sound {t : TypeId} {ti : TI} (hti : TiOk X.P t ti) (hh : HpOk X C s.hp s.nx) (hf : Fr X C) {a : AV} {v : Value} (ha : RepA X C s.hp s.nx a v) (hr : (loadOp ti s a : Tr E Out).run orc κ = some r) :
    ∃ u, (Instr.loadAt t v).run X.P C.w = .ok u C.w ∧ Done X C s κ r u C.w := by
  unfold loadOp at hr
  split at hr
  · rename_i id off
    simp only [RepA] at ha
    split at hr
    · rename_i l hg
      split at hr
      · rename_i hb
        have hb := Nat.le_of_ble_eq_true hb
        split at hr
        · rename_i av hp
          obtain ⟨b, hm, rfl⟩ := ha.2.2 l hg
          have hk := hh id
          rw [hg] at hk
          obtain ⟨_, b', arr, e, hm', ho, hw, hl⟩ := hk
          rw [hm] at hm'
          simp at hm'
          subst hm'
          obtain ⟨u, h1, h2⟩ := load_piece hti hl (o := 0) (fun j u hj => by rw [cell_blk hw]; simpa using hj) hb hp
          refine ⟨u, ?_, Done.pure hh hf (run_ret hr) h2⟩
          simpa [Instr.loadAt, Instr.sureAddr] using h1
        · cases hr
      · cases hr
    · cases hr
  · rename_i id i off
    simp only [RepA] at ha
    split at hr
    · rename_i ver T XS inner hg
      split at hr
      · rename_i hl
        split at hr
        · rename_i hb
          have hb := Nat.le_of_ble_eq_true hb
          split at hr
          · rename_i av hp
            obtain ⟨h0, hi, b, ao, len, cap, hm, rfl⟩ := ha.2.2 _ _ _ _ hg
            have hk := hh id
            rw [hg] at hk
            obtain ⟨hid, hown, _, hin⟩ := hk
            have hown := hown hl
            cases inner with
            | none =>
              have ho : OwnD C.w (.row T) (ownS C.o id) XS [C.μ id] := hown
              obtain ⟨w1, f, hw1, A, cp, hv1, hle, hrr⟩ := ho
              have hlen : XS.length ≤ cp := hle
              obtain ⟨b', off', arr, e, fr, hA, hS, hb', hfr, hcp, hel⟩ := hrr (by omega)
              have h5 : C.μ id = w1 := by simpa using hw1
              rw [← h5, hm, hA] at hv1
              simp only [Value.slice.injEq, Option.some.injEq, Addr.mk.injEq] at hv1
              obtain ⟨⟨rfl, rfl, _⟩, rfl, rfl⟩ := hv1
              have hx := hel _ _ (rd_get hi)
              have hsz : ao + i.toNat * T.sz + T.sz ≤ arr.size := by
                have := Nat.mul_le_mul_right T.sz (show i.toNat + 1 ≤ cap by omega)
                rw [Nat.add_mul, Nat.one_mul] at this
                omega
              have hcc : ∀ j u, (sl arr (ao + i.toNat * T.sz) T.sz)[j]? = some u → arr[ao + i.toNat * T.sz + j]? = some u := fun j u hj => by
                have : j < T.sz := by have := (List.getElem?_eq_some_iff.1 hj).1; rw [sl_length hsz] at this; exact this
                rwa [sl_get this] at hj
              have hL := avsI_rep (X := X) (C := C) (hp := s.hp) (nx := s.nx) (i := i) ⟨hid, fun v t xs ii e => by rw [hg] at e; cases e; exact Nat.le_refl _⟩ hg h0 hi hm hb' (off := 0) hx (by omega) (fun j v hj => by simpa using hcc j v hj)
              have hll := hL.length
              rw [sl_length hsz] at hll
              obtain ⟨u, h1, h2⟩ := load_piece hti hL (b := b) (o := ao + i.toNat * T.sz) (fun j u hj => by rw [cell_blk hb']; exact hcc j u hj) (by omega) hp
              refine ⟨u, ?_, Done.pure hh hf (run_ret hr) h2⟩
              simpa [Instr.loadAt, Instr.sureAddr] using h1
            | some ls =>
              obtain ⟨A, cp, hv1, hle, hrr⟩ := hown
              obtain ⟨b', off', arr, e, fr, hA, hS, hb', hfr, hcp, hel⟩ := hrr (by omega)
              rw [hm, hA] at hv1
              simp only [Value.slice.injEq, Option.some.injEq, Addr.mk.injEq] at hv1
              obtain ⟨⟨rfl, rfl, _⟩, rfl, rfl⟩ := hv1
              have hx := hel _ _ (rd_get hi)
              have hsz : ao + i.toNat * T.sz + T.sz ≤ arr.size := by
                have := Nat.mul_le_mul_right T.sz (show i.toNat + 1 ≤ cap by omega)
                rw [Nat.add_mul, Nat.one_mul] at this
                omega
              have hcc : ∀ j u, (sl arr (ao + i.toNat * T.sz) T.sz)[j]? = some u → arr[ao + i.toNat * T.sz + j]? = some u := fun j u hj => by
                have : j < T.sz := by have := (List.getElem?_eq_some_iff.1 hj).1; rw [sl_length hsz] at this; exact this
                rwa [sl_get this] at hj
              have hok : okL s.hp s.nx (id, ver) := ⟨hid, fun v t xs ii e => by rw [hg] at e; cases e; exact Nat.le_refl _⟩
              have hL := avs_rep (X := X) (C := C) (hp := s.hp) (nx := s.nx) (ls := (id, ver) :: ls) (fun l hl' => by
                  cases hl' with
                  | head => exact hok
                  | tail _ hl' => exact hin l hl') (by
                  simp only [lvs, Bool.and_eq_true]
                  exact ⟨lv_of_row hg, hl⟩) (hx.mono fun k hk o ho => ⟨ho, hk.1.elim (fun h => h.elim .inl fun ⟨l, hl, hb⟩ => .inr ⟨l, by simp [hl], hb⟩) fun h => .inr ⟨(id, ver), by simp, h⟩⟩)
              have hll := hL.length
              rw [sl_length hsz] at hll
              obtain ⟨u, h1, h2⟩ := load_piece hti hL (b := b) (o := ao + i.toNat * T.sz) (fun j u hj => by rw [cell_blk hb']; exact hcc j u hj) (by omega) hp
              refine ⟨u, ?_, Done.pure hh hf (run_ret hr) h2⟩
              simpa [Instr.loadAt, Instr.sureAddr] using h1
          · cases hr
        · cases hr
      · cases hr
    · cases hr
  · rename_i T x off ls
    simp only [RepA] at ha
    split at hr
    · rename_i hl
      split at hr
      · rename_i hb
        have hb := Nat.le_of_ble_eq_true hb
        split at hr
        · rename_i av hp
          obtain ⟨b, ao, arr, e, fr, rfl, hS, hb', hsz, hx⟩ := ha.2.2 hl
          have hcc : ∀ j u, (sl arr ao T.sz)[j]? = some u → arr[ao + j]? = some u := fun j u hj => by
            have : j < T.sz := by have := (List.getElem?_eq_some_iff.1 hj).1; rw [sl_length hsz] at this; exact this
            rwa [sl_get this] at hj
          have hL := avs_rep (X := X) (C := C) (hp := s.hp) (nx := s.nx) ha.1 hl hx
          have hll := hL.length
          rw [sl_length hsz] at hll
          obtain ⟨u, h1, h2⟩ := load_piece hti hL (b := b) (o := ao) (fun j u hj => by rw [cell_blk hb']; exact hcc j u hj) (by omega) hp
          refine ⟨u, ?_, Done.pure hh hf (run_ret hr) h2⟩
          simpa [Instr.loadAt, Instr.sureAddr] using h1
        · cases hr
      · cases hr
    · cases hr
  · cases hr
/-! ### stores -/
theorem splice_length : ∀ {l : List AV} {off : Nat} {vs : List AV}, off + vs.length ≤ l.length → (splice l off vs).length = l.length
  | l, 0, vs, h => by simp [splice]; omega
  | a :: l, off + 1, vs, h => by simp only [List.length_cons] at h; simp [splice, splice_length (l := l) (off := off) (vs := vs) (by omega)]
  | [], off + 1, vs, h => by simp at h
theorem splice_rep {hp : Hp} {nx : Nat} : ∀ {l : List AV} {cs : List Value} {off : Nat} {vs : List AV} {us : List Value}, RepL X C hp nx l cs → RepL X C hp nx vs us → off + vs.length ≤ l.length →
    RepL X C hp nx (splice l off vs) (cs.take off ++ (us ++ cs.drop (off + us.length)))
  | l, cs, 0, vs, us, h, h', hl => by
    simp only [splice, List.take_zero, List.nil_append, Nat.zero_add]
    rw [h'.length]
    exact h'.append (h.drop _)
  | a :: l, cs, off + 1, vs, us, h, h', hl => by
    simp only [RepL] at h
    obtain ⟨v, q, rfl, h1, h2⟩ := h
    simp only [List.length_cons] at hl
    simp only [splice, List.take_succ_cons, List.cons_append, RepL]
    refine ⟨v, _, rfl, h1, ?_⟩
    have := splice_rep (off := off) h2 h' (by omega)
    rwa [show off + 1 + us.length = (off + us.length) + 1 by omega, List.drop_succ_cons]
  | [], cs, off + 1, vs, us, h, h', hl => by simp at hl
theorem give_refl_o {G : List Nat} {k : Nat} {w' : World} {v : Value} (hG : G = []) (hsz : w'.heap.size = C.w.heap.size) (b : Nat) : (C.give G k w' v).o b = C.o b := by
  subst hG
  simp only [Cc.give]
  rw [if_neg (by omega)]
  cases C.o b <;> simp [inG, memN]
/-- A block of cells of one's own gets other cells. -/
theorem cells_fin {out : Out} {id b : Nat} {arr arr' : Array Value} {e : TypeId} {l l' : List AV} {w' : World} {v : Value} (hh : HpOk X C s.hp s.nx) (hf : Fr X C) (hg : hget s.hp id = .cells l)
    (hm : C.μ id = .pointer (some ⟨b, 0, none⟩)) (ho : C.o b = some id) (hw : C.w.heap[b]? = some (.cells arr e (0, 0))) (hs : Same C.w w') (hw' : w'.heap = C.w.heap.setIfInBounds b (.cells arr' e (0, 0)))
    (hout : out = ⟨.junk, [(id, .cells l')], s.nx⟩) (hl : RepL X C s.hp s.nx l' arr'.toList) : Fin X C s out v (C.give [] id w' (C.μ id)) := by
  obtain ⟨hb1, hsz, hoth⟩ := set_heap hw' hw
  have hid : id < s.nx := by
    have := hh id
    rw [hg] at this
    exact this.1
  have hwk : ∀ b', b' < C.w.heap.size → (∀ j, C.o b' = some j → j ≠ id ∧ j ∉ ([] : List Nat)) → w'.heap[b']? = C.w.heap[b']? := fun b' hb' hj => by
    refine hoth b' ?_
    rintro rfl
    exact (hj id ho).1 rfl
  have heff : get? [(id, Blk.cells l')] id = some (.cells l') := by rw [get?_cons, if_pos rfl]
  have hG : ∀ j, j ≠ id → get? [(id, Blk.cells l')] j = if memN [] j = true then some .dead else none := fun j hj => by rw [get?_cons, if_neg (fun h => hj h.symm)]; rfl
  have hpre := give_pre (nx' := s.nx) hf (Nat.le_refl _) heff (by simp) hG hwk (fun _ => ⟨rfl, .inl ⟨l, l', rfl, hg⟩⟩)
  have hstep := give_step hpre heff hG ⟨hid, b, arr', e, by simp [Cc.give, hm], by rw [give_refl_o rfl hsz]; exact ho, hb1, hl.evo hpre.evo hh⟩
  subst hout
  refine Fin.of hh hstep (by simp only [RepA]) (give_fr hf hs (by rw [hsz]; exact Nat.le_refl _) hwk)
end Go.Vm
namespace Go.Vm
open Go Go.RowKit
set_option linter.unusedVariables false
set_option linter.unusedSimpArgs false
variable {E : Env} {R : Type} {X : Cx} {C : Cc} {s : St} {κ : Out → Option R} {r : R} {orc : Orc E}
def splL (cs : List Value) (off : Nat) (us : List Value) : List Value := cs.take off ++ (us ++ cs.drop (off + us.length))
theorem splL_nil (cs : List Value) (off : Nat) : splL cs off [] = cs := by simp [splL]
theorem splL_get {cs : List Value} {off : Nat} {us : List Value} (h : off + us.length ≤ cs.length) (j : Nat) : (splL cs off us)[j]? = if off ≤ j ∧ j < off + us.length then us[j - off]? else cs[j]? := by
  have := spl_get (c := cs.toArray) (k := off) (vs := us) (by simpa using h) j
  simpa [spl, splL] using this
theorem splL_cons {cs : List Value} {off : Nat} {u : Value} {us : List Value} (h : off + us.length + 1 ≤ cs.length) : splL (cs.set off u) (off + 1) us = splL cs off (u :: us) := by
  apply List.ext_getElem?
  intro j
  rw [splL_get (by simp; omega), splL_get (by simp; omega)]
  simp only [List.length_cons]
  by_cases h1 : j = off
  · subst h1
    rw [if_neg (by omega), if_pos (by omega)]
    simp [List.getElem?_set]
    omega
  · by_cases h2 : off + 1 ≤ j ∧ j < off + 1 + us.length
    · rw [if_pos h2, if_pos (by omega)]
      obtain ⟨m, rfl⟩ : ∃ m, j = off + 1 + m := ⟨j - (off + 1), by omega⟩
      rw [show off + 1 + m - (off + 1) = m by omega, show off + 1 + m - off = m + 1 by omega]
      rfl
    · rw [if_neg h2, if_neg (by omega), List.getElem?_set_ne (fun h => h1 h.symm)]
theorem sl_spl_in {arr : Array Value} {p n off : Nat} {us : List Value} (h : off + us.length ≤ n) (hs : p + n ≤ arr.size) : sl (spl arr (p + off) us) p n = splL (sl arr p n) off us := by
  have hl := sl_length hs
  apply List.ext_getElem?
  intro j
  rw [splL_get (by omega)]
  by_cases hj : j < n
  · rw [sl_get hj, spl_get (by omega), sl_get hj]
    by_cases h2 : off ≤ j ∧ j < off + us.length
    · rw [if_pos (by omega), if_pos h2]
      congr 1; omega
    · rw [if_neg (by omega), if_neg h2]
  · have h3 : (sl (spl arr (p + off) us) p n).length ≤ j := by
      rw [sl_length (by rw [spl_size (by omega)]; exact hs)]; omega
    rw [List.getElem?_eq_none h3, if_neg (by omega), List.getElem?_eq_none (by omega)]
theorem sl_spl_out {arr : Array Value} {p n k : Nat} {us : List Value} (h : k + us.length ≤ arr.size) (hs : p + n ≤ k ∨ k + us.length ≤ p) : sl (spl arr k us) p n = sl arr p n := by
  apply List.ext_getElem?
  intro j
  by_cases hj : j < n
  · rw [sl_get hj, sl_get hj, spl_get h, if_neg (by omega)]
  · simp only [sl, List.getElem?_take, if_neg hj]
/-- One cell's value, as data; a row of one's own in blocks of J. -/
def cellRep (w : World) (J : Nat → Prop) (ct : Ty) (d : DV) (u : Value) : Prop :=
  match d with
  | .int n => ∃ k, ct = .int k ∧ u = .int k n
  | .bool b => ct = .bool ∧ u = .bool b
  | .str x => ct = .str ∧ u = .string x
  | .row el ys => ct = .row el ∧ OwnD w (.row el) J ys [u]
open Classical in
theorem setCell_own {w : World} : ∀ {t : Ty} {S J : Nat → Prop} {x y : t.D} {cs : List Value} {off : Nat} {d : DV} {u : Value} {ct : Ty}, t.cellTy off = some ct → cellRep w J ct d u → t.setCell x off d = some y →
    OwnD w t S x cs → (∀ b, J b → ¬ S b) → OwnD w t (fun b => S b ∨ J b) y (cs.set off u)
  | .int k, S, J, x, y, cs, off, d, u, ct, hc, hr, hs, ho, hd => by
    cases off with
    | succ n => cases d <;> simp [Ty.setCell] at hs
    | zero =>
      simp only [Ty.cellTy, Option.some.injEq] at hc
      cases d <;> simp only [Ty.setCell, Option.some.injEq, reduceCtorEq] at hs
      subst hs hc
      obtain ⟨k', h1, h2⟩ := hr
      cases h1
      simp only [OwnD] at ho ⊢
      rw [ho, h2]; rfl
  | .bool, S, J, x, y, cs, off, d, u, ct, hc, hr, hs, ho, hd => by
    cases off with
    | succ n => cases d <;> simp [Ty.setCell] at hs
    | zero =>
      cases d <;> simp only [Ty.setCell, Option.some.injEq, reduceCtorEq] at hs
      subst hs
      simp only [OwnD] at ho ⊢
      rw [ho, hr.2]; rfl
  | .str, S, J, x, y, cs, off, d, u, ct, hc, hr, hs, ho, hd => by
    cases off with
    | succ n => cases d <;> simp [Ty.setCell] at hs
    | zero =>
      cases d <;> simp only [Ty.setCell, Option.some.injEq, reduceCtorEq] at hs
      subst hs
      simp only [OwnD] at ho ⊢
      rw [ho, hr.2]; rfl
  | .row el, S, J, x, y, cs, off, d, u, ct, hc, hr, hs, ho, hd => by
    cases off with
    | succ n => cases d <;> simp [Ty.setCell] at hs
    | zero =>
      cases d with
      | row el' ys =>
        simp only [Ty.setCell] at hs
        obtain ⟨he, hy⟩ := rowCast_eq hs
        subst he
        simp only at hy
        subst hy
        obtain ⟨v, f, rfl, _⟩ := ho
        simpa using OwnD.mono (t := .row el') (fun b hb o hob => ⟨hob, .inr hb⟩) hr.2
      | _ => simp [Ty.setCell] at hs
  | .pair a b, S, J, x, y, cs, off, d, u, ct, hc, hr, hs, ho, hd => by
    obtain ⟨f, c1, c2, rfl, h1, h2⟩ := ho
    have hl1 := h1.len
    simp only [Ty.setCell] at hs
    simp only [Ty.cellTy] at hc
    cases hb : Nat.ble a.sz off with
    | true =>
      rw [hb] at hs hc
      have hle := Nat.le_of_ble_eq_true hb
      simp only at hs hc
      split at hs
      · rename_i y2 hy
        cases hs
        have ih := setCell_own (S := fun k => S k ∧ f k = 1) hc hr hy h2 (fun k hk hs => hd k hk hs.1)
        refine ⟨fun k => if J k then 1 else f k, c1, c2.set (off - a.sz) u, ?_, h1.mono fun k hk o ho => ⟨ho, .inl hk.1, ?_⟩, ih.mono fun k hk o ho => ⟨ho, ?_, ?_⟩⟩
        · rw [List.set_append_right _ _ (by omega), hl1]
        · dsimp only; rw [if_neg (fun hj => hd k hj hk.1)]; exact hk.2
        · exact hk.imp And.left id
        · rcases hk with hk | hk
          · dsimp only; rw [if_neg (fun hj => hd k hj hk.1)]; exact hk.2
          · dsimp only; rw [if_pos hk]
      · cases hs
    | false =>
      rw [hb] at hs hc
      have hlt : off < a.sz := by
        rcases Nat.lt_or_ge off a.sz with h | h
        · exact h
        · rw [Nat.ble_eq_true_of_le h] at hb; cases hb
      simp only at hs hc
      split at hs
      · rename_i y1 hy
        cases hs
        have ih := setCell_own (S := fun k => S k ∧ f k = 0) hc hr hy h1 (fun k hk hs => hd k hk hs.1)
        refine ⟨fun k => if J k then 0 else f k, c1.set off u, c2, ?_, ih.mono fun k hk o ho => ⟨ho, ?_, ?_⟩, h2.mono fun k hk o ho => ⟨ho, .inl hk.1, ?_⟩⟩
        · rw [List.set_append_left _ _ (by omega)]
        · exact hk.imp And.left id
        · rcases hk with hk | hk
          · dsimp only; rw [if_neg (fun hj => hd k hj hk.1)]; exact hk.2
          · dsimp only; rw [if_pos hk]
        · dsimp only; rw [if_neg (fun hj => hd k hj hk.1)]; exact hk.2
      · cases hs
def idsOf (e : Hp) : List Nat := e.map (·.1)
def allDead (e : Hp) : Prop := ∀ p ∈ e, p.2 = Blk.dead
theorem noDupN_cons {α : Type} {i : Nat} {a : α} {l : List (Nat × α)} {seen : List Nat} (h : noDupN ((i, a) :: l) seen = true) : i ∉ seen ∧ noDupN l (i :: seen) = true := by
  simp only [noDupN] at h
  split at h
  · cases h
  · rename_i hm
    exact ⟨(fun h' => by rw [memN_iff.2 h'] at hm; cases hm), h⟩
theorem noDupN_seen {α : Type} : ∀ {l : List (Nat × α)} {seen : List Nat}, noDupN l seen = true → ∀ p ∈ l, p.1 ∉ seen
  | [], _, _, p, hp => by simp at hp
  | (i, a) :: l, seen, h, p, hp => by
    obtain ⟨h1, h2⟩ := noDupN_cons h
    cases hp with
    | head => exact h1
    | tail _ hp => exact fun hs => noDupN_seen h2 p hp (by simp [hs])
theorem boolDV_rep {a : AV} {d : DV} {v : Value} {hp : Hp} {nx : Nat} (e : boolDV a = some d) (h : RepA X C hp nx a v) : ∃ b, d = .bool b ∧ v = .bool b := by
  cases a <;> simp only [boolDV, Option.some.injEq, reduceCtorEq] at e <;> subst e <;> simp only [RepA] at h <;> exact ⟨_, rfl, h⟩
theorem cellDV_rep {hp : Hp} {nx : Nat} (hh : HpOk X C hp nx) {ct : Ty} {v : AV} {u : Value} {d : DV} {e : Hp} (h : cellDV hp (some ct) v = some (d, e)) (hr : RepA X C hp nx v u)
    (hk : ∀ k n, v = .int k n → ∀ k', ct = .int k' → k = k') (hd : (∃ n, d = .int n) → ∃ k, ct = .int k) (hd2 : (∃ n, d = .bool n) → ct = .bool) (hd3 : (∃ n, d = .str n) → ct = .str) (hd4 : ∀ el ys, d = .row el ys → ct = .row el) :
    cellRep C.w (fun b => inG (idsOf e) (C.o b) = true) ct d u ∧ allDead e ∧ (∀ p ∈ e, ∃ vv t xs, hget hp p.1 = .row vv t xs none) := by
  cases v with
  | int k n =>
    simp only [cellDV, Option.some.injEq, Prod.mk.injEq] at h
    obtain ⟨rfl, rfl⟩ := h
    simp only [RepA] at hr
    obtain ⟨k', hk'⟩ := hd ⟨n, rfl⟩
    refine ⟨⟨k', hk', ?_⟩, by simp [allDead], by simp⟩
    rw [hr, hk k n rfl k' hk']
  | str x =>
    simp only [cellDV, Option.some.injEq, Prod.mk.injEq] at h
    obtain ⟨rfl, rfl⟩ := h
    simp only [RepA] at hr
    exact ⟨⟨hd3 ⟨_, rfl⟩, hr⟩, by simp [allDead], by simp⟩
  | own j =>
    simp only [cellDV] at h
    split at h
    · rename_i vv t xs hg
      simp only [Option.some.injEq, Prod.mk.injEq] at h
      obtain ⟨rfl, rfl⟩ := h
      simp only [RepA] at hr
      have hk' := hh j
      rw [hg] at hk'
      have ho : OwnD C.w (.row t) (ownS C.o j) xs [C.μ j] := hk'.2.1 rfl
      have hv := hr.2.2 _ _ _ _ hg
      subst hv
      refine ⟨⟨hd4 t xs rfl, OwnD.mono (t := .row t) (fun b hb o hob => ⟨hob, ?_⟩) ho⟩, by simp [allDead], ?_⟩
      · rw [hb]; simp [inG, idsOf, memN]
      · intro p hp
        simp at hp
        subst hp
        exact ⟨vv, t, xs, hg⟩
    · cases h
  | nil =>
    simp only [cellDV] at h
    split at h
    · rename_i el hel
      simp only [Option.some.injEq, Prod.mk.injEq] at h
      obtain ⟨rfl, rfl⟩ := h
      simp only [RepA] at hr
      subst hr
      refine ⟨⟨hd4 el [] rfl, .slice none 0 0, fun _ => 0, rfl, none, 0, rfl, Nat.le_refl _, fun h => absurd h (by decide)⟩, by simp [allDead], by simp⟩
    · cases h
  | bool b =>
    simp only [cellDV, boolDV, Option.some.injEq, Prod.mk.injEq] at h
    obtain ⟨rfl, rfl⟩ := h
    simp only [RepA] at hr
    exact ⟨⟨hd2 ⟨_, rfl⟩, hr⟩, by simp [allDead], by simp⟩
  | tt =>
    simp only [cellDV, boolDV, Option.some.injEq, Prod.mk.injEq] at h
    obtain ⟨rfl, rfl⟩ := h
    simp only [RepA] at hr
    exact ⟨⟨hd2 ⟨_, rfl⟩, hr⟩, by simp [allDead], by simp⟩
  | ff =>
    simp only [cellDV, boolDV, Option.some.injEq, Prod.mk.injEq] at h
    obtain ⟨rfl, rfl⟩ := h
    simp only [RepA] at hr
    exact ⟨⟨hd2 ⟨_, rfl⟩, hr⟩, by simp [allDead], by simp⟩
  | prop p dd =>
    simp only [cellDV, boolDV, Option.some.injEq, Prod.mk.injEq] at h
    obtain ⟨rfl, rfl⟩ := h
    simp only [RepA] at hr
    exact ⟨⟨hd2 ⟨_, rfl⟩, hr⟩, by simp [allDead], by simp⟩
  | _ => simp [cellDV, boolDV] at h
/-- What may be written into a cell fits the cell's kind. -/
theorem setCell_fits : ∀ {t : Ty} {x y : t.D} {off : Nat} {d : DV}, t.setCell x off d = some y → ∃ ct, t.cellTy off = some ct ∧ off < t.sz ∧ ((∃ n, d = .int n) → ∃ k, ct = .int k) ∧ ((∃ n, d = .bool n) → ct = .bool) ∧ ((∃ n, d = .str n) → ct = .str) ∧ (∀ el ys, d = .row el ys → ct = .row el)
  | .int k, x, y, off, d, h => by
    cases off with
    | succ n => cases d <;> simp [Ty.setCell] at h
    | zero =>
      cases d <;> simp only [Ty.setCell, Option.some.injEq, reduceCtorEq] at h
      exact ⟨.int k, rfl, Nat.one_pos, fun _ => ⟨k, rfl⟩, by simp, by simp, by simp⟩
  | .bool, x, y, off, d, h => by
    cases off with
    | succ n => cases d <;> simp [Ty.setCell] at h
    | zero =>
      cases d <;> simp only [Ty.setCell, Option.some.injEq, reduceCtorEq] at h
      exact ⟨.bool, rfl, Nat.one_pos, by simp, by simp, by simp, by simp⟩
  | .str, x, y, off, d, h => by
    cases off with
    | succ n => cases d <;> simp [Ty.setCell] at h
    | zero =>
      cases d <;> simp only [Ty.setCell, Option.some.injEq, reduceCtorEq] at h
      exact ⟨.str, rfl, Nat.one_pos, by simp, by simp, by simp, by simp⟩
  | .row el, x, y, off, d, h => by
    cases off with
    | succ n => cases d <;> simp [Ty.setCell] at h
    | zero =>
      cases d with
      | row el' ys =>
        obtain ⟨he, _⟩ := rowCast_eq (show rowCast el' el ys = some y from h)
        subst he
        exact ⟨.row el', rfl, Nat.one_pos, by simp, by simp, by simp, fun e z he => by cases he; rfl⟩
      | _ => simp [Ty.setCell] at h
  | .pair a b, x, y, off, d, h => by
    simp only [Ty.setCell] at h
    simp only [Ty.cellTy]
    cases hb : Nat.ble a.sz off with
    | true =>
      rw [hb] at h
      have hle := Nat.le_of_ble_eq_true hb
      simp only at h
      split at h
      · rename_i y2 hy
        obtain ⟨ct, h1, h2, h3⟩ := setCell_fits hy
        exact ⟨ct, h1, by simp only [Ty.sz]; omega, h3⟩
      · cases h
    | false =>
      rw [hb] at h
      simp only at h
      split at h
      · rename_i y2 hy
        obtain ⟨ct, h1, h2, h3⟩ := setCell_fits hy
        exact ⟨ct, h1, by simp only [Ty.sz]; omega, h3⟩
      · cases h
theorem inG_append {a b : List Nat} {o : Option Nat} : inG (a ++ b) o = true ↔ inG a o = true ∨ inG b o = true := by
  cases o with
  | none => simp [inG]
  | some j => simp [inG, memN_iff]
theorem setCells_own {hp : Hp} {nx : Nat} (hh : HpOk X C hp nx) : ∀ {vs : List AV} {t : Ty} {S : Nat → Prop} {x y : t.D} {cs us : List Value} {off : Nat} {e : Hp} {seen : List Nat}, setCells hp t x off vs = some (y, e) → kindOk t off vs = true →
    RepL X C hp nx vs us → OwnD C.w t S x cs → noDupN e seen = true → (∀ b, S b → inG seen (C.o b) = true) →
    OwnD C.w t (fun b => S b ∨ inG (idsOf e) (C.o b) = true) y (splL cs off us) ∧ allDead e ∧ (∀ p ∈ e, ∃ vv t xs, hget hp p.1 = .row vv t xs none)
  | [], t, S, x, y, cs, us, off, e, seen, h, hk, hr, ho, hn, hs => by
    simp only [setCells, Option.some.injEq, Prod.mk.injEq] at h
    obtain ⟨rfl, rfl⟩ := h
    simp only [RepL] at hr
    subst hr
    rw [splL_nil]
    exact ⟨ho.mono fun b hb o hob => ⟨hob, .inl hb⟩, by simp [allDead], by simp⟩
  | v :: vs, t, S, x, y, cs, us, off, e, seen, h, hk, hr, ho, hn, hs => by
    simp only [RepL] at hr
    obtain ⟨u, us', rfl, hr1, hr2⟩ := hr
    simp only [setCells] at h
    split at h
    · rename_i d e1 hd
      split at h
      · rename_i y1 hy1
        split at h
        · rename_i z e2 hz
          simp only [Option.some.injEq, Prod.mk.injEq] at h
          obtain ⟨rfl, rfl⟩ := h
          obtain ⟨ct, hct, hoff, f1, f2, f3, f4⟩ := setCell_fits hy1
          rw [hct] at hd
          simp only [kindOk, Bool.and_eq_true] at hk
          have hkk : ∀ k n, v = .int k n → ∀ k', ct = .int k' → k = k' := by
            intro k n hv k' hc
            have := hk.1
            rw [hv, hct, hc] at this
            exact kindEq_eq this
          obtain ⟨c1, c2, c3⟩ := cellDV_rep hh hd hr1 hkk f1 f2 f3 f4
          -- the names of e1 were not seen
          have hlen : e1 = [] ∨ ∃ j, e1 = [(j, .dead)] := by
            cases v <;> simp only [cellDV, boolDV] at hd <;> first
              | (simp only [Option.some.injEq, Prod.mk.injEq] at hd; exact .inl hd.2.symm)
              | (split at hd <;> first | (simp only [Option.some.injEq, Prod.mk.injEq] at hd; first | exact .inl hd.2.symm | exact .inr ⟨_, hd.2.symm⟩) | cases hd)
              | cases hd
          have hdis : ∀ b, inG (idsOf e1) (C.o b) = true → ¬ S b := by
            intro b hb hSb
            have h2 := hs b hSb
            rcases hlen with rfl | ⟨j, rfl⟩
            · cases ho2 : C.o b <;> simp [inG, idsOf, memN, ho2] at hb
            · have hj : j ∉ seen := noDupN_seen hn (j, .dead) (by simp)
              cases ho2 : C.o b with
              | none => rw [ho2] at hb; simp [inG] at hb
              | some i =>
                rw [ho2] at hb h2
                simp only [inG, idsOf, memN_iff, List.map_cons, List.map_nil, List.mem_singleton] at hb
                simp only [inG, memN_iff] at h2
                subst hb
                exact hj h2
          have hown := setCell_own hct c1 hy1 ho hdis
          have hn2 : ∃ seen', noDupN e2 seen' = true ∧ ∀ b, (S b ∨ inG (idsOf e1) (C.o b) = true) → inG seen' (C.o b) = true := by
            rcases hlen with rfl | ⟨j, rfl⟩
            · refine ⟨seen, by simpa using hn, fun b hb => hb.elim (hs b) fun h => ?_⟩
              cases ho2 : C.o b <;> simp [inG, idsOf, memN, ho2] at h
            · obtain ⟨_, hn'⟩ := noDupN_cons (l := e2) (by simpa using hn)
              refine ⟨j :: seen, hn', fun b hb => ?_⟩
              rcases hb with hb | hb
              · have := hs b hb
                cases ho2 : C.o b with
                | none => rw [ho2] at this; simp [inG] at this
                | some i => rw [ho2] at this; simp only [inG, memN_iff] at this ⊢; simp [this]
              · cases ho2 : C.o b with
                | none => rw [ho2] at hb; simp [inG] at hb
                | some i => rw [ho2] at hb; simp only [inG, memN_iff, idsOf, List.map_cons, List.map_nil, List.mem_singleton] at hb ⊢; simp [hb]
          obtain ⟨seen', hn3, hs3⟩ := hn2
          obtain ⟨g1, g2, g3⟩ := setCells_own hh hz hk.2 hr2 hown hn3 hs3
          have hoffs : off + us'.length + 1 ≤ cs.length := by
            have l1 := ho.len
            rcases setCells_len hz hr2.length with rfl | h5
            · have := hr2.length
              simp at this
              subst this
              simp; omega
            · omega
          refine ⟨?_, fun p hp => ?_, fun p hp => ?_⟩
          · rw [splL_cons hoffs] at g1
            refine g1.mono fun b hb o hob => ⟨hob, ?_⟩
            rcases hb with (hb | hb) | hb
            · exact .inl hb
            · exact .inr (by rw [show idsOf (e1 ++ e2) = idsOf e1 ++ idsOf e2 by simp [idsOf]]; exact inG_append.2 (.inl hb))
            · exact .inr (by rw [show idsOf (e1 ++ e2) = idsOf e1 ++ idsOf e2 by simp [idsOf]]; exact inG_append.2 (.inr hb))
          · rcases List.mem_append.1 hp with hp | hp
            · exact c2 p hp
            · exact g2 p hp
          · rcases List.mem_append.1 hp with hp | hp
            · exact c3 p hp
            · exact g3 p hp
        · cases h
      · cases h
    · cases h
where
  setCells_len {hp : Hp} : ∀ {vs : List AV} {t : Ty} {x y : t.D} {off : Nat} {e : Hp} {us : List Value}, setCells hp t x off vs = some (y, e) → us.length = vs.length → vs = [] ∨ off + us.length ≤ t.sz := by
    intro vs
    induction vs with
    | nil => intros; exact .inl rfl
    | cons v vs ih =>
      intro t x y off e us h hl
      right
      simp only [setCells] at h
      split at h
      · split at h
        · rename_i y1 hy1
          split at h
          · rename_i z e2 hz
            obtain ⟨ct, _, hoff, _⟩ := setCell_fits hy1
            cases us with
            | nil => simp at hl
            | cons u us =>
              simp only [List.length_cons] at hl ⊢
              rcases ih (us := us) hz (by omega) with rfl | h2
              · simp at hl; subst hl; simp; omega
              · omega
          · cases h
        · cases h
      · cases h
end Go.Vm
namespace Go.Vm
open Go Go.RowKit
set_option linter.unusedVariables false
set_option linter.unusedSimpArgs false
variable {E : Env} {R : Type} {X : Cx} {C : Cc} {s : St} {κ : Out → Option R} {r : R} {orc : Orc E}
theorem run_storeVar {P : Program} {t : TypeId} {ti : TI} (hti : TiOk P t ti) {w : World} {a : Addr} {v : Value} (hv : v.cells.size = ti.ty.sz) : (storeVar t a v).run P w = (storeCells a v.cells.toList).run P w := by
  simp [storeVar, run_sizeOf hti, hv]
/-- The steps of a row that gets other contents: 'k' is new, or keeps its place. -/
theorem row_fin {out : Out} {G : List Nat} {k ver : Nat} {t : Ty} {xs : List t.D} {inner : Option (List Lb)} {w' : World} {v' : Value} {u : Value} (hh : HpOk X C s.hp s.nx) (hf : Fr X C) (hs : Same C.w w')
    (hsz : C.w.heap.size ≤ w'.heap.size) (hle : s.nx ≤ out.nx) (hkn : k < out.nx) (hk : get? out.eff k = some (.row ver t xs inner)) (hkG : k ∉ G)
    (hG : ∀ j, j ≠ k → get? out.eff j = if memN G j = true then some .dead else none)
    (hw : ∀ b, b < C.w.heap.size → (∀ j, C.o b = some j → j ≠ k ∧ j ∉ G) → w'.heap[b]? = C.w.heap[b]?)
    (hold : k < s.nx → v' = C.μ k ∧ ∃ v0 xs0 i0, hget s.hp k = .row v0 t xs0 i0 ∧ xs.length = xs0.length ∧ v0 < ver)
    (hin : ∀ l ∈ innerL inner, okL s.hp s.nx l) (hval : ∃ A cap, v' = .slice A xs.length cap)
    (hown : Evo X C (C.give G k w' v') s.hp (out.eff ++ s.hp) s.nx out.nx → lvs (out.eff ++ s.hp) (innerL inner) = true → innerOwn (t := t) X (C.give G k w' v') k inner xs v')
    (hout : Evo X C (C.give G k w' v') s.hp (out.eff ++ s.hp) s.nx out.nx → RepA X (C.give G k w' v') (out.eff ++ s.hp) out.nx out.v u) : Fin X C s out u (C.give G k w' v') := by
  have hpre := give_pre (v := v') hf hle hk hkG hG hw (fun h => by
    obtain ⟨h1, v0, xs0, i0, h2, h3, h4⟩ := hold h
    exact ⟨h1, .inr ⟨v0, ver, t, xs0, xs, i0, inner, rfl, h2, h3, h4⟩⟩)
  have hmu : (C.give G k w' v').μ k = v' := by simp [Cc.give]
  obtain ⟨A, cap, hv⟩ := hval
  refine Fin.of hh (give_step hpre hk hG ⟨hkn, fun hl => ?_, ⟨A, cap, hmu.trans hv⟩, fun l hl => hpre.evo.okL (hin l hl)⟩) (hout hpre.evo) (give_fr hf hs hsz hw)
  rw [hmu]
  exact hown hpre.evo hl
/-- A row that was given away: nothing is known of it but its length. -/
def Zom (hp : Hp) (k ver j : Nat) (B : Blk) : Prop := B = .dead ∨ ∃ v t xs i0 v0, B = .row (v + 1) t xs (some [(k, v0)]) ∧ hget hp j = .row v t xs i0 ∧ v0 < ver
theorem give_preZ (hf : Fr X C) {hp eff : Hp} {nx nx' : Nat} {G : List Nat} {k ver : Nat} {w' : World} {v : Value} {B : Blk} (hle : nx ≤ nx') (hk : get? eff k = some B) (hkG : k ∉ G)
    (hG : ∀ j, j ≠ k → (memN G j = true ∧ ∃ B, get? eff j = some B ∧ Zom hp k ver j B) ∨ (memN G j = false ∧ get? eff j = none))
    (hw : ∀ b, b < C.w.heap.size → (∀ j, C.o b = some j → j ≠ k ∧ j ∉ G) → w'.heap[b]? = C.w.heap[b]?)
    (hold : k < nx → v = C.μ k ∧ ((∃ l l', B = .cells l' ∧ hget hp k = .cells l) ∨ ∃ v0 v' t xs xs' i i', B = .row v' t xs' i' ∧ hget hp k = .row v0 t xs i ∧ xs'.length = xs.length ∧ v0 < v')) : Pre X C (C.give G k w' v) hp eff nx nx' where
  le := hle
  mu := by
    intro id he hid
    simp only [Cc.give]
    rw [if_neg]
    rintro rfl
    rw [hk] at he; cases he
  own := by
    intro b id hb he
    have hik : id ≠ k := by rintro rfl; rw [hk] at he; cases he
    have hiG : id ∉ G := by
      intro hm
      rcases hG id hik with ⟨_, B', h1, _⟩ | ⟨h1, _⟩
      · rw [h1] at he; cases he
      · rw [memN_iff.2 hm] at h1; cases h1
    refine ⟨give_keep hf hb hiG, hw b (hf.own b id hb).1 fun j hj => ?_⟩
    rw [hb] at hj; cases hj
    exact ⟨hik, hiG⟩
  free := by
    intro b hb ho
    refine ⟨by rw [give_o_old hb, ho]; simp [inG], hw b hb fun j hj => by rw [ho] at hj; cases hj⟩
  old := by
    intro id hid
    by_cases hik : id = k
    · subst hik
      obtain ⟨hv, hc⟩ := hold hid
      have hmu : (C.give G id w' v).μ id = C.μ id := by simp [Cc.give, hv]
      refine ⟨fun v' t xs' inner' e => ⟨hmu, ?_⟩, fun l' e => ⟨hmu, ?_⟩⟩
      · rw [hk] at e; cases e
        rcases hc with ⟨l, l', h1, h2⟩ | ⟨v0, v1, t1, xs, xs1, i, i1, h1, h2, h3, h4⟩
        · cases h1
        · cases h1
          exact ⟨v0, xs, i, h2, h3, h4⟩
      · rw [hk] at e; cases e
        rcases hc with ⟨l, l', h1, h2⟩ | ⟨v0, v1, t1, xs, xs1, i, i1, h1, h2, h3, h4⟩
        · exact ⟨l, h2⟩
        · cases h1
    · have hmu : (C.give G k w' v).μ id = C.μ id := by simp only [Cc.give]; rw [if_neg hik]
      refine ⟨fun v' t xs' inner' e => ⟨hmu, ?_⟩, fun l' e => ?_⟩
      · rcases hG id hik with ⟨_, B', h1, h2 | ⟨v1, t1, xs1, i1, v0, h2, h3, _⟩⟩ | ⟨_, h1⟩
        · rw [h1, h2] at e; cases e
        · rw [h1, h2] at e; cases e
          exact ⟨v1, _, i1, h3, rfl, Nat.lt_succ_self _⟩
        · rw [h1] at e; cases e
      · rcases hG id hik with ⟨_, B', h1, h2 | ⟨v1, t1, xs1, i1, v0, h2, h3, _⟩⟩ | ⟨_, h1⟩
        · rw [h1, h2] at e; cases e
        · rw [h1, h2] at e; cases e
        · rw [h1] at e; cases e
theorem row_finZ {out : Out} {G : List Nat} {k ver : Nat} {t : Ty} {xs : List t.D} {inner : Option (List Lb)} {w' : World} {v' : Value} {u : Value} (hh : HpOk X C s.hp s.nx) (hf : Fr X C) (hs : Same C.w w')
    (hsz : C.w.heap.size ≤ w'.heap.size) (hle : s.nx ≤ out.nx) (hkn : k < out.nx) (hk : get? out.eff k = some (.row ver t xs inner)) (hkG : k ∉ G)
    (hG : ∀ j, j ≠ k → (memN G j = true ∧ ∃ B, get? out.eff j = some B ∧ Zom s.hp k ver j B) ∨ (memN G j = false ∧ get? out.eff j = none))
    (hw : ∀ b, b < C.w.heap.size → (∀ j, C.o b = some j → j ≠ k ∧ j ∉ G) → w'.heap[b]? = C.w.heap[b]?)
    (hold : k < s.nx → v' = C.μ k ∧ ∃ v0 xs0 i0, hget s.hp k = .row v0 t xs0 i0 ∧ xs.length = xs0.length ∧ v0 < ver)
    (hin : ∀ l ∈ innerL inner, okL s.hp s.nx l) (hval : ∃ A cap, v' = .slice A xs.length cap)
    (hown : Evo X C (C.give G k w' v') s.hp (out.eff ++ s.hp) s.nx out.nx → lvs (out.eff ++ s.hp) (innerL inner) = true → innerOwn (t := t) X (C.give G k w' v') k inner xs v')
    (hout : Evo X C (C.give G k w' v') s.hp (out.eff ++ s.hp) s.nx out.nx → RepA X (C.give G k w' v') (out.eff ++ s.hp) out.nx out.v u) : Fin X C s out u (C.give G k w' v') := by
  have hpre := give_preZ (v := v') hf hle hk hkG hG hw (fun h => by
    obtain ⟨h1, v0, xs0, i0, h2, h3, h4⟩ := hold h
    exact ⟨h1, .inr ⟨v0, ver, t, xs0, xs, i0, inner, rfl, h2, h3, h4⟩⟩)
  have hmu : (C.give G k w' v').μ k = v' := by simp [Cc.give]
  obtain ⟨A, cap, hv⟩ := hval
  have hkk : hget (out.eff ++ s.hp) k = .row ver t xs inner := by rw [hget_append, hk]
  refine Fin.of hh ⟨hpre, fun id B e => ?_⟩ (hout hpre.evo) (give_fr hf hs hsz hw)
  by_cases hik : id = k
  · subst hik
    rw [hk] at e
    cases e
    refine ⟨hkn, fun hl => ?_, ⟨A, cap, hmu.trans hv⟩, fun l hl => hpre.evo.okL (hin l hl)⟩
    rw [hmu]
    exact hown hpre.evo hl
  · rcases hG id hik with ⟨_, B', h1, h2 | ⟨v1, t1, xs1, i1, v0, h2, h3, h4⟩⟩ | ⟨_, h1⟩
    · rw [h1, h2] at e; cases e; trivial
    · rw [h1, h2] at e
      cases e
      have hb := hh id
      rw [h3] at hb
      obtain ⟨b1, _, ⟨A1, c1, b3⟩, _⟩ := hb
      refine ⟨Nat.lt_of_lt_of_le b1 hle, fun hl => ?_, ⟨A1, c1, ?_⟩, fun l hl => ?_⟩
      · simp only [innerL, lvs, Bool.and_eq_true] at hl
        obtain ⟨t2, xs2, i2, h5⟩ := lv_row hl.1
        rw [hkk] at h5
        cases h5
        exact absurd h4 (Nat.lt_irrefl _)
      · simp only [Cc.give]
        rw [if_neg hik]
        exact b3
      · simp only [innerL, List.mem_singleton] at hl
        subst hl
        refine ⟨hkn, fun v' t' xs' inner' h5 => ?_⟩
        rw [hkk] at h5
        cases h5
        exact Nat.le_of_lt h4
    · rw [h1] at e; cases e
theorem get?_dead : ∀ {e : Hp}, allDead e → ∀ j, get? e j = if memN (idsOf e) j = true then some .dead else none
  | [], _, j => rfl
  | (i, B) :: e, h, j => by
    have h1 : B = .dead := h (i, B) (by simp)
    subst h1
    rw [get?_cons]
    simp only [idsOf, List.map_cons, memN]
    by_cases hij : i = j
    · subst hij; simp
    · rw [if_neg hij]
      have : Nat.beq i j = false := by
        cases e : Nat.beq i j with
        | false => rfl
        | true => exact absurd (Nat.eq_of_beq_eq_true e) hij
      rw [this]
      exact get?_dead (fun p hp => h p (by simp [hp])) j
theorem get?_zom {hp : Hp} (id ver : Nat) : ∀ {e : Hp}, allDead e → ∀ j, (memN (idsOf e) j = true ∧ ∃ B, get? (zom hp (id, ver) e) j = some B ∧ Zom hp id (ver + 1) j B) ∨ (memN (idsOf e) j = false ∧ get? (zom hp (id, ver) e) j = none)
  | [], _, j => .inr ⟨rfl, rfl⟩
  | (i, B) :: e, h, j => by
    have h1 : B = .dead := h (i, B) (by simp)
    subst h1
    simp only [zom]
    rw [get?_cons]
    simp only [idsOf, List.map_cons, memN]
    by_cases hij : i = j
    · subst hij
      rw [if_pos rfl]
      refine .inl ⟨by simp, _, rfl, ?_⟩
      split
      · rename_i v t xs inner hg
        exact .inr ⟨v, t, xs, inner, ver, rfl, hg, Nat.lt_succ_self _⟩
      · exact .inl rfl
    · rw [if_neg hij]
      have : Nat.beq i j = false := by
        cases e : Nat.beq i j with
        | false => rfl
        | true => exact absurd (Nat.eq_of_beq_eq_true e) hij
      rw [this]
      exact get?_zom id ver (fun p hp => h p (by simp [hp])) j
open Classical in
/-- One element of a row of one's own gets other contents, in place. -/
theorem elem_own {w w' : World} {t : Ty} {S S' J : Nat → Prop} {xs : List t.D} {y : t.D} {v : Value} {b ao len cap : Nat} {arr arr' : Array Value} {e : TypeId} {fr : Nat × Nat} {i : Nat}
    (h : OwnD w (.row t) S xs [v]) (hv : v = .slice (some ⟨b, ao, none⟩) len cap) (hb : w.heap[b]? = some (.cells arr e fr)) (hi : i < xs.length)
    (hb' : w'.heap[b]? = some (.cells arr' e fr)) (hsz : arr'.size = arr.size) (hoth : ∀ k, k ≠ b → w'.heap[k]? = w.heap[k]?)
    (hS : ∀ k, (S k ∨ J k) → S' k) (hJ : ∀ k, J k → ¬ S k)
    (hcells : ∀ j, j ≠ i → j < xs.length → sl arr' (ao + j * t.sz) t.sz = sl arr (ao + j * t.sz) t.sz)
    (hy : ∀ f : Nat → Nat, OwnD w t (fun k => S k ∧ k ≠ b ∧ f k = i) (xs[i]'hi) (sl arr (ao + i * t.sz) t.sz) → OwnD w t (fun k => (S k ∧ k ≠ b ∧ f k = i) ∨ J k) y (sl arr' (ao + i * t.sz) t.sz)) :
    OwnD w' (.row t) S' (xs.set i y) [v] := by
  obtain ⟨w1, f, hw, A, cp, hw1, hle, hr⟩ := h
  obtain ⟨b', off', arr0, e', fr', hA, hSb, hb0, hfr, hcp, hel⟩ := hr (by omega)
  have h5 : v = w1 := by simpa using hw
  subst h5
  rw [hv, hA] at hw1
  simp only [Value.slice.injEq, Option.some.injEq, Addr.mk.injEq] at hw1
  obtain ⟨⟨rfl, rfl, _⟩, rfl, rfl⟩ := hw1
  rw [hb] at hb0
  cases hb0
  refine ⟨v, fun k => if J k then i else f k, rfl, some ⟨b, ao, none⟩, cap, by rw [hv]; simp, by simpa using hle, fun _ => ⟨b, ao, arr', e, fr, rfl, hS b (.inl hSb), hb', by rw [hsz]; exact hfr, by rw [hsz]; exact hcp, ?_⟩⟩
  intro j x hx
  by_cases hj : j = i
  · subst hj
    rw [List.getElem?_set_self hi] at hx
    cases hx
    have h0 := hel j _ (List.getElem?_eq_getElem hi)
    refine (hy f h0).mono fun k hk o ho => ?_
    rcases hk with hk | hk
    · refine ⟨(hoth k hk.2.1).trans ho, hS k (.inl hk.1), hk.2.1, ?_⟩
      dsimp only
      rw [if_neg (fun hj => hJ k hj hk.1)]
      exact hk.2.2
    · have hkb : k ≠ b := by rintro rfl; exact hJ _ hk hSb
      refine ⟨(hoth k hkb).trans ho, hS k (.inr hk), hkb, ?_⟩
      dsimp only
      rw [if_pos hk]
  · rw [List.getElem?_set_ne (fun h => hj h.symm)] at hx
    have hjl := (List.getElem?_eq_some_iff.1 hx).1
    have h0 := hel j x hx
    rw [hcells j hj hjl]
    refine h0.mono fun k hk o ho => ⟨(hoth k hk.2.1).trans ho, hS k (.inl hk.1), hk.2.1, ?_⟩
    dsimp only
    rw [if_neg (fun hj => hJ k hj hk.1)]
    exact hk.2.2
theorem elem_arith {a i j n : Nat} (sz : Nat) (hij : j ≠ i) : a + j * sz + sz ≤ a + i * sz ∨ a + i * sz + sz ≤ a + j * sz := by
  rcases Nat.lt_or_ge j i with h | h
  · left
    have := Nat.mul_le_mul_right sz (show j + 1 ≤ i by omega)
    rw [Nat.add_mul, Nat.one_mul] at this
    omega
  · right
    have := Nat.mul_le_mul_right sz (show i + 1 ≤ j by omega)
    rw [Nat.add_mul, Nat.one_mul] at this
    omega
theorem store_sound {t : TypeId} {ti : TI} (hti : TiOk X.P t ti) (hh : HpOk X C s.hp s.nx) (hf : Fr X C) {a av : AV} {ad v : Value} (ha : RepA X C s.hp s.nx a ad) (hv : RepA X C s.hp s.nx av v)
    (hr : (storeOp ti s av a : Tr E Out).run orc κ = some r) : ∃ w', (Instr.storeAt t ad v).run X.P C.w = .ok () w' ∧ Done X C s κ r undef w' := by
  unfold storeOp at hr
  split at hr
  · rename_i id off
    simp only [RepA] at ha
    split at hr
    · rename_i l hg
      split at hr
      · rename_i hb
        simp only [Bool.and_eq_true] at hb
        obtain ⟨hpl, hon, hbl, hbs⟩ := hb
        have hbl := Nat.eq_of_beq_eq_true hbl
        have hbs := Nat.le_of_ble_eq_true hbs
        obtain ⟨b, hm, rfl⟩ := ha.2.2 l hg
        have hk := hh id
        rw [hg] at hk
        obtain ⟨hid, b', arr, e, hm', ho, hw, hl⟩ := hk
        rw [hm] at hm'
        simp at hm'
        subst hm'
        have hc := cells_of hv hpl
        have hcl := hc.length
        have hll := hl.length
        have h1 := ones_of hc hon
        have harr : arr.toList.length = arr.size := by simp
        obtain ⟨w', h2, h3, h4⟩ := run_storeCells_blk (P := X.P) b e (0, 0) off v.cells.toList 0 C.w arr hw (.inl (Nat.le_refl _)) (by omega) h1
        refine ⟨w', ?_, ⟨_, C.give [] id w' (C.μ id), rfl, hr, ?_⟩⟩
        · simp only [Instr.storeAt, Instr.sureAddr, Sem.run_bind, Sem.run_pure, Result.andThen_ok]
          rw [run_storeVar hti (by have : v.cells.toList.length = v.cells.size := by simp
                                   omega)]
          exact h2
        · refine cells_fin hh hf hg hm ho hw h4 h3 rfl ?_
          simp only [Nat.add_zero, spl]
          exact splice_rep hl hc (by omega)
      · cases hr
    · cases hr
  · rename_i id i off
    simp only [RepA] at ha
    split at hr
    · rename_i ver T XS inner hg
      split at hr
      · rename_i hb
        simp only [Bool.and_eq_true] at hb
        obtain ⟨⟨hpl, hlv, hbl⟩, hbs, hko, hfl⟩ := hb
        have hbl := Nat.eq_of_beq_eq_true hbl
        have hbs := Nat.le_of_ble_eq_true hbs
        split at hr
        · rename_i y e hsc
          split at hr
          · rename_i hnd
            obtain ⟨h0, hi, b, ao, len, cap, hm, rfl⟩ := ha.2.2 _ _ _ _ hg
            have hk := hh id
            rw [hg] at hk
            obtain ⟨hid, hown, hshape, hin⟩ := hk
            have hown := hown hlv
            have hc := cells_of hv hpl
            have hcl := hc.length
            -- the row, as one of one's own
            have hown' : OwnD C.w (.row T) (ownS C.o id) XS [C.μ id] := by
              cases inner with
              | none => exact hown
              | some ls => exact ⟨C.μ id, fun _ => 0, rfl, hown.mono (fun k hk o ho => ⟨ho, hk⟩) (fun _ _ _ _ he => flat_any hfl he)⟩
            have hrow : ∃ arr eT fr, C.w.heap[b]? = some (.cells arr eT fr) ∧ ownS C.o id b ∧ FrOk T fr arr.size ∧ ao + cap * T.sz ≤ arr.size ∧ XS.length ≤ cap := by
              obtain ⟨w1, f, hw, A, cp, hw1, hle, hrr⟩ := hown'
              obtain ⟨b', off', arr0, e', fr', hA, hSb, hb0, hfr, hcp, hel⟩ := hrr (by omega)
              have h5 : C.μ id = w1 := by simpa using hw
              rw [← h5, hm, hA] at hw1
              simp only [Value.slice.injEq, Option.some.injEq, Addr.mk.injEq] at hw1
              obtain ⟨⟨rfl, rfl, _⟩, rfl, rfl⟩ := hw1
              exact ⟨arr0, e', fr', hb0, hSb, hfr, hcp, hle⟩
            obtain ⟨arr, eT, fr, hb0, hSb, hfr, hcp, hle⟩ := hrow
            have hsz : ao + i.toNat * T.sz + T.sz ≤ arr.size := by
              have := Nat.mul_le_mul_right T.sz (show i.toNat + 1 ≤ cap by omega)
              rw [Nat.add_mul, Nat.one_mul] at this
              omega
            obtain ⟨hid', hnd'⟩ := noDupN_cons hnd
            have hxi := rd_get (t := T) hi
            have hxi2 : XS[i.toNat]'hi = rd T XS i := by rw [List.getElem?_eq_getElem hi] at hxi; exact Option.some.inj hxi
            obtain ⟨_, _, _, _, _, f0, hel0⟩ := own_elem hown' hm hb0 hxi
            have hdead : allDead e ∧ (∀ p ∈ e, ∃ vv t xs, hget s.hp p.1 = .row vv t xs none) := by
              obtain ⟨_, g2, g3⟩ := setCells_own hh hsc hko hc hel0 hnd' (fun b' hb' => by
                have : C.o b' = some id := hb'.1
                rw [this]; simp [inG, memN])
              exact ⟨g2, g3⟩
            have hone : ∀ u ∈ v.cells.toList, u.oneCell' = true := by
              obtain ⟨g1, _, _⟩ := setCells_own hh hsc hko hc hel0 hnd' (fun b' hb' => by
                have : C.o b' = some id := hb'.1
                rw [this]; simp [inG, memN])
              intro u hu
              refine g1.rep.one u ?_
              simp only [splL]
              simp [hu]
            have hvl : v.cells.toList.length = ti.ty.sz := by rw [hcl, hbl]
            obtain ⟨w', h2, h3, h4⟩ := run_storeCells_blk (P := X.P) b eT fr (ao + i.toNat * T.sz + off) v.cells.toList 0 C.w arr hb0 hfr.weak (by omega) hone
            obtain ⟨hb1, hsz1, hoth⟩ := set_heap h3 hb0
            have hwk : ∀ b', b' < C.w.heap.size → (∀ j, C.o b' = some j → j ≠ id ∧ j ∉ idsOf e) → w'.heap[b']? = C.w.heap[b']? := fun b' hb' hj => by
              refine hoth b' ?_
              rintro rfl
              exact (hj id hSb).1 rfl
            have hidE : id ∉ idsOf e := by
              intro h
              obtain ⟨p, hp, rfl⟩ := List.mem_map.1 h
              exact noDupN_seen hnd' p hp (by simp)
            have hrowOwn : OwnD w' (.row T) (fun k => C.o k = some id ∨ inG (idsOf e) (C.o k) = true) (XS.set i.toNat y) [C.μ id] := by
              refine elem_own (S := ownS C.o id) (J := fun k => inG (idsOf e) (C.o k) = true) hown' hm hb0 hi hb1 (spl_size (by omega)) hoth (fun k hk => hk) ?_ ?_ ?_
              · intro k hk hS
                have hS' : C.o k = some id := hS
                rw [hS'] at hk
                exact hidE (memN_iff.1 hk)
              · intro j hj hjl
                refine sl_spl_out (by omega) ?_
                rcases elem_arith (a := ao) (i := i.toNat) (j := j) (n := 0) T.sz hj with h | h
                · left; omega
                · right; omega
              · intro f hf0
                rw [hxi2] at hf0
                obtain ⟨g1, _, _⟩ := setCells_own hh hsc hko hc hf0 hnd' (fun b' hb' => by
                  have : C.o b' = some id := hb'.1
                  rw [this]; simp [inG, memN])
                rw [show ao + i.toNat * T.sz + off + 0 = ao + i.toNat * T.sz + off by omega, sl_spl_in (by omega) hsz]
                exact g1
            refine ⟨w', ?_, ⟨_, C.give (idsOf e) id w' (C.μ id), rfl, hr, ?_⟩⟩
            · simp only [Instr.storeAt, Instr.sureAddr, Sem.run_bind, Sem.run_pure, Result.andThen_ok]
              rw [run_storeVar hti (by have : v.cells.toList.length = v.cells.size := by simp
                                       omega)]
              exact h2
            · refine row_finZ (t := T) (xs := XS.set i.toNat y) (ver := ver + 1) (inner := inner) (u := undef) hh hf h4 (by rw [hsz1]; exact Nat.le_refl _) (Nat.le_refl _) hid (by rw [get?_cons, if_pos rfl]) hidE (fun j hj => ?_) hwk
                (fun _ => ⟨rfl, ver, XS, inner, hg, by simp, Nat.lt_succ_self _⟩) hin ?_ (fun hev hl => ?_) (fun _ => by simp only [RepA])
              · rw [get?_cons, if_neg (fun h => hj h.symm)]
                exact get?_zom id ver hdead.1 j
              · obtain ⟨A, cp, hs⟩ := hshape
                exact ⟨A, cp, by rw [hs]; simp⟩
              · have hlt : ∀ k, (C.o k = some id ∨ inG (idsOf e) (C.o k) = true) → (C.give (idsOf e) id w' (C.μ id)).o k = some id := by
                  intro k hk
                  have hks : k < C.w.heap.size := by
                    rcases hk with hk | hk
                    · exact (hf.own k id hk).1
                    · cases ho : C.o k with
                      | none => rw [ho] at hk; simp [inG] at hk
                      | some j => exact (hf.own k j ho).1
                  rw [give_o_old hks]
                  rcases hk with hk | hk
                  · split
                    · rfl
                    · exact hk
                  · rw [if_pos hk]
                have hfin : OwnD w' (.row T) (ownS (C.give (idsOf e) id w' (C.μ id)).o id) (XS.set i.toNat y) [C.μ id] := OwnD.mono (t := .row T) (fun k hk o ho => ⟨ho, hlt k hk⟩) hrowOwn
                cases inner with
                | none => exact hfin
                | some ls =>
                  obtain ⟨w1, f, hw, hrr⟩ := hfin
                  have h5 : C.μ id = w1 := by simpa using hw
                  subst h5
                  exact hrr.mono (fun k hk o ho => ⟨ho, hk⟩) (fun _ _ _ _ he => flat_rep hfl he.rep)
          · cases hr
        · cases hr
      · cases hr
    · cases hr
  · cases hr
end Go.Vm
namespace Go.Vm
open Go Go.RowKit
set_option linter.unusedVariables false
set_option linter.unusedSimpArgs false
variable {E : Env} {R : Type} {X : Cx} {C : Cc} {s : St} {κ : Out → Option R} {r : R} {orc : Orc E}
theorem hp_lt {hp : Hp} {nx k : Nat} (hh : HpOk X C hp nx) (h : hget hp k ≠ .dead) : k < nx := by
  have := hh k
  cases hg : hget hp k with
  | dead => exact absurd hg h
  | cells l => rw [hg] at this; exact this.1
  | row v t xs i => rw [hg] at this; exact this.1
/-- A new variable. -/
theorem new_cells {out : Out} {arr : Array Value} {e : TypeId} {l : List AV} {w' : World} (hh : HpOk X C s.hp s.nx) (hf : Fr X C) (hs : Same C.w w') (hw' : w'.heap = C.w.heap.push (.cells arr e))
    (hout : out = ⟨.ptr s.nx 0, [(s.nx, .cells l)], s.nx + 1⟩) (hl : RepL X C s.hp s.nx l arr.toList) :
    Fin X C s out (.pointer (some ⟨C.w.heap.size, 0, none⟩)) (C.give [] s.nx w' (.pointer (some ⟨C.w.heap.size, 0, none⟩))) := by
  obtain ⟨hb1, hsz, hoth⟩ := push_heap hw'
  have heff : get? [(s.nx, Blk.cells l)] s.nx = some (.cells l) := by rw [get?_cons, if_pos rfl]
  have hG : ∀ j, j ≠ s.nx → get? [(s.nx, Blk.cells l)] j = if memN [] j = true then some .dead else none := fun j hj => by rw [get?_cons, if_neg (fun h => hj h.symm)]; rfl
  have hwk : ∀ b, b < C.w.heap.size → (∀ j, C.o b = some j → j ≠ s.nx ∧ j ∉ ([] : List Nat)) → w'.heap[b]? = C.w.heap[b]? := fun b hb _ => hoth b hb
  have hpre := give_pre (hp := s.hp) (nx' := s.nx + 1) (v := .pointer (some ⟨C.w.heap.size, 0, none⟩)) hf (Nat.le_succ _) heff (by simp) hG hwk (fun h => absurd h (Nat.lt_irrefl _))
  have hmu : (C.give [] s.nx w' (.pointer (some ⟨C.w.heap.size, 0, none⟩))).μ s.nx = .pointer (some ⟨C.w.heap.size, 0, none⟩) := by simp [Cc.give]
  subst hout
  refine Fin.of hh (give_step hpre heff hG ⟨Nat.lt_succ_self _, C.w.heap.size, arr, e, hmu, give_o_new (Nat.le_refl _) (by omega), hb1, hl.evo hpre.evo hh⟩) ?_ (give_fr hf hs (by omega) hwk)
  simp only [RepA]
  exact ⟨Nat.lt_succ_self _, rfl, fun l hl => ⟨_, hmu, rfl⟩⟩
def ElemsL (t : Ty) (EP : Nat → t.D → List Value → Prop) (xs : List t.D) (L : List Value) : Prop :=
  L.length = xs.length * t.sz ∧ ∀ i x, xs[i]? = some x → EP i x ((L.drop (i * t.sz)).take t.sz)
theorem ElemsL.nil {t : Ty} {EP : Nat → t.D → List Value → Prop} : ElemsL t EP [] [] := ⟨by simp, by simp⟩
theorem ElemsL.mono {t : Ty} {EP EP' : Nat → t.D → List Value → Prop} {xs : List t.D} {L : List Value} (h : ElemsL t EP xs L) (he : ∀ i x cs, i < xs.length → EP i x cs → EP' i x cs) : ElemsL t EP' xs L :=
  ⟨h.1, fun i x hx => he _ _ _ (List.getElem?_eq_some_iff.1 hx).1 (h.2 i x hx)⟩
theorem ElemsL.append {t : Ty} {EP EP' : Nat → t.D → List Value → Prop} {xs ys : List t.D} {L M : List Value} (h : ElemsL t EP xs L) (h' : ElemsL t EP' ys M) :
    ElemsL t (fun i x cs => (i < xs.length ∧ EP i x cs) ∨ (xs.length ≤ i ∧ EP' (i - xs.length) x cs)) (xs ++ ys) (L ++ M) := by
  refine ⟨by rw [List.length_append, List.length_append, h.1, h'.1, Nat.add_mul], fun i x hx => ?_⟩
  by_cases hi : i < xs.length
  · rw [List.getElem?_append_left hi] at hx
    left
    refine ⟨hi, ?_⟩
    have := h.2 i x hx
    have hle := Nat.mul_le_mul_right t.sz (show i + 1 ≤ xs.length by omega)
    rw [Nat.add_mul, Nat.one_mul] at hle
    have hl := h.1
    rw [List.drop_append_of_le_length (by omega), List.take_append_of_le_length (by simp; omega)]
    exact this
  · rw [List.getElem?_append_right (by omega)] at hx
    right
    refine ⟨by omega, ?_⟩
    have := h'.2 _ x hx
    have e1 : i * t.sz = L.length + (i - xs.length) * t.sz := by
      rw [h.1, ← Nat.add_mul]; congr 1; omega
    rw [e1, List.drop_append, List.drop_eq_nil_of_le (by omega), List.nil_append, Nat.add_sub_cancel_left]
    exact this
theorem sl_toArray (L M : List Value) (p n : Nat) (h : p + n ≤ L.length) : sl (L ++ M).toArray p n = (L.drop p).take n := by
  simp only [sl]
  rw [List.drop_append_of_le_length (by omega), List.take_append_of_le_length (by simp; omega)]
/-- A row's cells, as a list: shared rows. -/
theorem rep_elems {w : World} {S : Nat → Prop} {t : Ty} {xs : List t.D} {v : Value} (h : RepD w S (.row t) xs [v]) :
    ∃ A cap L, v = .slice A xs.length cap ∧ xs.length ≤ cap ∧ ElemsL t (fun _ => RepD w S t) xs L ∧ (0 < xs.length → ∃ a, A = some a ∧ ∀ j u, L[j]? = some u → w.cell? (a.add j) = some u) := by
  obtain ⟨A, cap, h1, h2, h3⟩ := h
  have hv : v = .slice A xs.length cap := by simpa using h1
  by_cases hx : 0 < xs.length
  · obtain ⟨b, off, arr, e, fr, hA, hb, hw, hsz, hel⟩ := h3 hx
    refine ⟨A, cap, sl arr off (xs.length * t.sz), hv, h2, ⟨sl_length hsz, fun i x hi => ?_⟩, fun _ => ⟨_, hA, fun j u hj => ?_⟩⟩
    · have := hel i x hi
      have hil := (List.getElem?_eq_some_iff.1 hi).1
      have hle := Nat.mul_le_mul_right t.sz (show i + 1 ≤ xs.length by omega)
      rw [Nat.add_mul, Nat.one_mul] at hle
      have e1 : (List.drop (i * t.sz) (sl arr off (xs.length * t.sz))).take t.sz = sl arr (off + i * t.sz) t.sz := by
        simp only [sl, List.drop_take, List.drop_drop, List.take_take]
        congr 1; omega
      rw [e1]; exact this
    · have hj' : j < xs.length * t.sz := by have := (List.getElem?_eq_some_iff.1 hj).1; rw [sl_length hsz] at this; exact this
      rw [add_lit, cell_blk hw]
      rwa [sl_get hj'] at hj
  · have : xs = [] := List.length_eq_zero_iff.1 (by omega)
    subst this
    exact ⟨A, cap, [], hv, h2, ElemsL.nil, fun h => absurd h (by simp)⟩
open Classical in
/-- A new row of one's own, in a new block. -/
theorem new_row {out : Out} {G : List Nat} {arr : Array Value} {e : TypeId} {fr : Nat × Nat} {t : Ty} {xs : List t.D} {inner : Option (List Lb)} {w' : World} {eff : Hp} {cap : Nat} {L : List Value} (hh : HpOk X C s.hp s.nx) (hf : Fr X C)
    (hs : Same C.w w') (hw' : w'.heap = C.w.heap.push (.cells arr e fr)) (hfr : FrOk t fr arr.size) (hcap : xs.length ≤ cap) (hsz : cap * t.sz ≤ arr.size) (hL : ∃ M, arr.toList = L ++ M)
    (hout : out = ⟨.own s.nx, eff, s.nx + 1⟩) (hk : get? eff s.nx = some (.row 0 t xs inner)) (hGl : ∀ j ∈ G, j < s.nx) (hG : ∀ j, j ≠ s.nx → get? eff j = if memN G j = true then some .dead else none)
    (hin : ∀ l ∈ innerL inner, okL s.hp s.nx l)
    (hel : match (generalizing := false) inner with
      | none => ∃ f : Nat → Nat, ElemsL t (fun i => OwnD C.w t (fun b => inG G (C.o b) = true ∧ f b = i)) xs L
      | some ls => ElemsL t (fun _ => RepD C.w (fun b => lbS X C.o ls b ∨ inG G (C.o b) = true) t) xs L) :
    Fin X C s out (.slice (some ⟨C.w.heap.size, 0, none⟩) xs.length cap) (C.give G s.nx w' (.slice (some ⟨C.w.heap.size, 0, none⟩) xs.length cap)) := by
  obtain ⟨hb1, hsz1, hoth⟩ := push_heap hw'
  obtain ⟨M, hM⟩ := hL
  have hkG : s.nx ∉ G := fun h => Nat.lt_irrefl _ (hGl _ h)
  have hwk : ∀ b, b < C.w.heap.size → (∀ j, C.o b = some j → j ≠ s.nx ∧ j ∉ G) → w'.heap[b]? = C.w.heap[b]? := fun b hb _ => hoth b hb
  subst hout
  have hslc : ∀ i, i < xs.length → L.length = xs.length * t.sz → sl arr (0 + i * t.sz) t.sz = (L.drop (i * t.sz)).take t.sz := by
    intro i hi hl
    have hle := Nat.mul_le_mul_right t.sz (show i + 1 ≤ xs.length by omega)
    rw [Nat.add_mul, Nat.one_mul] at hle
    simp only [sl, hM, Nat.zero_add]
    rw [List.drop_append_of_le_length (by omega), List.take_append_of_le_length (by simp; omega)]
  have hgo : ∀ b, inG G (C.o b) = true → b < C.w.heap.size ∧ (C.give G s.nx w' (.slice (some ⟨C.w.heap.size, 0, none⟩) xs.length cap)).o b = some s.nx := by
    intro b hb
    cases ho : C.o b with
    | none => rw [ho] at hb; simp [inG] at hb
    | some j =>
      have hlt := (hf.own b j ho).1
      refine ⟨hlt, ?_⟩
      rw [give_o_old hlt, if_pos hb]
  refine row_fin (t := t) hh hf hs (by omega) (Nat.le_succ _) (Nat.lt_succ_self _) hk hkG hG hwk (fun h => absurd h (Nat.lt_irrefl _)) hin ⟨_, _, rfl⟩ (fun hev hl => ?_) (fun hev => ?_)
  · cases inner with
    | none =>
      obtain ⟨f, hel⟩ := hel
      refine ⟨_, f, rfl, _, cap, rfl, hcap, fun _ => ⟨C.w.heap.size, 0, arr, e, fr, rfl, give_o_new (Nat.le_refl _) (by omega), hb1, hfr, by omega, fun i x hx => ?_⟩⟩
      have hi := (List.getElem?_eq_some_iff.1 hx).1
      rw [hslc i hi hel.1]
      refine (hel.2 i x hx).mono fun b hb o ho => ?_
      obtain ⟨h1, h2⟩ := hgo b hb.1
      exact ⟨(hoth b h1).trans ho, h2, by omega, hb.2⟩
    | some ls =>
      refine ⟨_, cap, rfl, hcap, fun _ => ⟨C.w.heap.size, 0, arr, e, fr, rfl, give_o_new (Nat.le_refl _) (by omega), hb1, hfr, by omega, fun i x hx => ?_⟩⟩
      have hi := (List.getElem?_eq_some_iff.1 hx).1
      rw [hslc i hi hel.1]
      refine (hel.2 i x hx).mono fun b hb o ho => ?_
      rcases hb with hb | hb
      · obtain ⟨h1, h2⟩ := hev.stays hin hl b hb o ho
        exact ⟨h1, .inl h2, by have := heap_lt ho; omega⟩
      · obtain ⟨h1, h2⟩ := hgo b hb
        exact ⟨(hoth b h1).trans ho, .inr h2, by omega⟩
  · simp only [RepA]
    refine ⟨Nat.lt_succ_self _, rfl, fun ver t xs inner _ => ?_⟩
    simp [Cc.give]
end Go.Vm
namespace Go.Vm
open Go Go.RowKit
set_option linter.unusedVariables false
set_option linter.unusedSimpArgs false
variable {E : Env} {R : Type} {X : Cx} {C : Cc} {s : St} {κ : Out → Option R} {r : R} {orc : Orc E}
section
variable {P : Program} (w : World)
def rowish (P : Program) (tx : TypeId) : Prop := P.underlying tx = some .string ∨ ∃ e', P.underlying tx = some (.slice e')
set_option maxHeartbeats 1000000 in
theorem run_append_fit (t tx ty e : TypeId) (i : TypeInfo) (ht : P.underlying t = some (.slice e)) (hi : P.info? e = some i) (hd : rowish P tx)
    (A : Option Addr) (n cap m : Nat) (x : Value) (news : List Value) (hl : ∀ w', (Builtin.lenOf x).run P w' = .ok m w') (hx : (Builtin.firstCells i.size m x).run P w = .ok news.toArray w) (hroom : n + m ≤ cap) (w' : World)
    (hst : match A with | some a => (storeCells (a.add (n * i.size)) news).run P w = .ok () w' | none => w' = w) :
    (Builtin.append_ #[t, tx] ty #[.slice A n cap, x]).run P w = .ok (.slice A (n + m) cap) w' := by
  cases A with
  | none =>
    simp only at hst
    subst hst
    rcases hd with hd | ⟨e', hd⟩ <;> simp [Builtin.append_, run_underlying ht, run_underlying hd, sizeOf, typeInfo, hi, hl, hx, hroom]
  | some a =>
    simp only at hst
    rcases hd with hd | ⟨e', hd⟩ <;> simp [Builtin.append_, run_underlying ht, run_underlying hd, sizeOf, typeInfo, hi, hl, hx, hroom, hst]
set_option maxHeartbeats 1000000 in
theorem run_append_grows (t tx ty e : TypeId) (i : TypeInfo) (z : Value) (ht : P.underlying t = some (.slice e)) (hi : P.info? e = some i) (hz : i.zero = some z) (hd : rowish P tx)
    (hb0 : i.bytes ≠ 0) (A : Option Addr) (n cap m : Nat) (x : Value) (olds news : List Value) (hl : ∀ w', (Builtin.lenOf x).run P w' = .ok m w') (hx : ∀ w', w'.heap = w.heap → (Builtin.firstCells i.size m x).run P w' = .ok news.toArray w')
    (ho : ∀ w', w'.heap = w.heap → (Builtin.firstCells i.size n (.slice A n cap)).run P w' = .ok olds.toArray w') (hg : cap < n + m) (hfit : Builtin.nextslicecap (n + m) cap * i.bytes ≤ 281474976710656) :
    (Builtin.append_ #[t, tx] ty #[.slice A n cap, x]).run P w = .ok (.slice (some ⟨w.heap.size, 0, none⟩) (n + m) (grownCap w (n + m) cap e))
        (w.drew.alloc (.cells ((olds ++ news).toArray ++ Builtin.zeroCells z.cells (grownCap w (n + m) cap e - (n + m))) e)) := by
  have hn : ¬ (n + m ≤ cap) := by omega
  have h48' : ¬ (281474976710656 < Builtin.nextslicecap (n + m) cap * i.bytes) := by omega
  have hx' := hx w.drew rfl
  have ho' := ho w.drew rfl
  rcases hd with hd | ⟨e', hd⟩ <;> simp [Builtin.append_, run_underlying ht, run_underlying hd, sizeOf, typeInfo, zeroValue, hi, hz, hl, hn, hb0, h48', Question.forced, hx', ho', newRow, grownCap]
  all_goals (congr 2; apply Array.ext'; simp [List.append_assoc])
end
theorem innerOwn_conv {j : Nat} {t : Ty} {xs : List t.D} {v : Value} {a fin : Option (List Lb)} (h : innerOwn X C j a xs v) (hc : (a = none ∧ fin = none) ∨ (t.flat = true ∧ fin = none) ∨ ∃ ls, fin = some ls ∧ ∀ l ∈ innerL a, l ∈ ls) : innerOwn X C j fin xs v := by
  rcases hc with ⟨rfl, rfl⟩ | ⟨hf, rfl⟩ | ⟨ls, rfl, hl⟩
  · exact h
  · cases a with
    | none => exact h
    | some la => exact ⟨v, fun _ => 0, rfl, h.mono (fun k hk o ho => ⟨ho, hk⟩) (fun _ _ _ _ he => flat_any hf he)⟩
  · cases a with
    | none =>
      obtain ⟨w1, f, hw, hr⟩ := h
      have : v = w1 := by simpa using hw
      subst this
      exact hr.mono (fun k hk o ho => ⟨ho, hk⟩) (fun _ _ _ _ he => he.rep.mono fun k hk o ho => ⟨ho, .inr hk.1, hk.2.1⟩)
    | some la =>
      refine RowR.mono (fun k hk o ho => ⟨ho, hk⟩) (fun _ _ _ _ he => he.mono fun k hk o ho => ⟨ho, ?_, hk.2⟩) h
      rcases hk.1 with h1 | h1
      · exact .inl (h1.elim .inl fun ⟨l, hm, hb⟩ => .inr ⟨l, hl l hm, hb⟩)
      · exact .inr h1
/-- What is appended, as elements. -/
def srcEl (X : Cx) (C : Cc) (t : Ty) (ids : List Nat) (fin : Option (List Lb)) (ys : List t.D) (news : List Value) : Prop :=
  match fin with
  | none => ∃ g : Nat → Nat, ElemsL t (fun i => OwnD C.w t (fun b => inG ids (C.o b) = true ∧ g b = i)) ys news
  | some ls => ElemsL t (fun _ => RepD C.w (fun b => lbS X C.o ls b ∨ inG ids (C.o b) = true) t) ys news
/-- The elements of a row of one's own, as a list. -/
theorem own_elems {j : Nat} {t : Ty} {xs : List t.D} {v : Value} {fin : Option (List Lb)} (h : innerOwn X C j fin xs v) :
    ∃ A cap L, v = .slice A xs.length cap ∧ xs.length ≤ cap ∧ (0 < cap → ∃ b off arr e fr, A = some ⟨b, off, none⟩ ∧ C.o b = some j ∧ C.w.heap[b]? = some (.cells arr e fr) ∧ FrOk t fr arr.size ∧ off + cap * t.sz ≤ arr.size ∧ L = sl arr off (xs.length * t.sz)) ∧ (cap = 0 → L = []) ∧
      (match (generalizing := false) fin with
      | none => ∃ f : Nat → Nat, ElemsL t (fun i => OwnD C.w t (fun k => C.o k = some j ∧ (∀ b off, A = some ⟨b, off, none⟩ → 0 < cap → k ≠ b) ∧ f k = i)) xs L
      | some ls => ElemsL t (fun _ => RepD C.w (fun k => (lbS X C.o ls k ∨ C.o k = some j) ∧ (∀ b off, A = some ⟨b, off, none⟩ → 0 < cap → k ≠ b)) t) xs L) := by
  have hsl : ∀ {arr : Array Value} {off cap : Nat}, off + cap * t.sz ≤ arr.size → xs.length ≤ cap → (sl arr off (xs.length * t.sz)).length = xs.length * t.sz ∧ ∀ i, i < xs.length → ((sl arr off (xs.length * t.sz)).drop (i * t.sz)).take t.sz = sl arr (off + i * t.sz) t.sz := by
    intro arr off cap hs hle
    have h1 := Nat.mul_le_mul_right t.sz hle
    refine ⟨sl_length (by omega), fun i hi => ?_⟩
    have h2 := Nat.mul_le_mul_right t.sz (show i + 1 ≤ xs.length by omega)
    rw [Nat.add_mul, Nat.one_mul] at h2
    simp only [sl, List.drop_take, List.drop_drop, List.take_take]
    congr 1; omega
  cases fin with
  | none =>
    obtain ⟨w1, f, hw, A, cap, hv, hle, hr⟩ := h
    have : v = w1 := by simpa using hw
    subst this
    by_cases hc : 0 < cap
    · obtain ⟨b, off, arr, e, fr, hA, hS, hb, hfr, hsz, hel⟩ := hr hc
      obtain ⟨h1, h2⟩ := hsl hsz hle
      refine ⟨A, cap, _, hv, hle, fun _ => ⟨b, off, arr, e, fr, hA, hS, hb, hfr, hsz, rfl⟩, fun h => by omega, f, h1, fun i x hx => ?_⟩
      rw [h2 i (List.getElem?_eq_some_iff.1 hx).1]
      refine (hel i x hx).mono fun k hk o ho => ⟨ho, hk.1, fun b' off' hA' _ => ?_, hk.2.2⟩
      rw [hA] at hA'
      cases hA'
      exact hk.2.1
    · have : xs = [] := List.length_eq_zero_iff.1 (by omega)
      subst this
      exact ⟨A, cap, [], hv, hle, fun h => absurd h hc, fun _ => rfl, f, ElemsL.nil⟩
  | some ls =>
    obtain ⟨A, cap, hv, hle, hr⟩ := h
    by_cases hc : 0 < cap
    · obtain ⟨b, off, arr, e, fr, hA, hS, hb, hfr, hsz, hel⟩ := hr hc
      obtain ⟨h1, h2⟩ := hsl hsz hle
      refine ⟨A, cap, _, hv, hle, fun _ => ⟨b, off, arr, e, fr, hA, hS, hb, hfr, hsz, rfl⟩, fun h => by omega, h1, fun i x hx => ?_⟩
      rw [h2 i (List.getElem?_eq_some_iff.1 hx).1]
      refine (hel i x hx).mono fun k hk o ho => ⟨ho, hk.1, fun b' off' hA' _ => ?_⟩
      rw [hA] at hA'
      cases hA'
      exact hk.2
    · have : xs = [] := List.length_eq_zero_iff.1 (by omega)
      subst this
      exact ⟨A, cap, [], hv, hle, fun h => absurd h hc, fun _ => rfl, ElemsL.nil⟩
end Go.Vm
namespace Go.Vm
open Go Go.RowKit
set_option linter.unusedVariables false
set_option linter.unusedSimpArgs false
variable {E : Env} {R : Type} {X : Cx} {C : Cc} {s : St} {κ : Out → Option R} {r : R} {orc : Orc E}
theorem run_firstCells_of {P : Program} {size n cap : Nat} {A : Option Addr} {L : List Value} (hl : L.length = n * size) (w : World) (hA : 0 < n → ∃ a, A = some a ∧ ∀ j u, L[j]? = some u → w.cell? (a.add j) = some u) :
    (Builtin.firstCells size n (.slice A n cap)).run P w = .ok L.toArray w := by
  cases A with
  | none =>
    have hn : n = 0 := by
      rcases Nat.eq_zero_or_pos n with h | h
      · exact h
      · obtain ⟨a, ha, _⟩ := hA h; cases ha
    subst hn
    have : L = [] := List.length_eq_zero_iff.1 (by omega)
    subst this
    simp [Builtin.firstCells]
  | some a =>
    have hc : ∀ j u, L[j]? = some u → w.cell? (a.add j) = some u := by
      intro j u hj
      rcases Nat.eq_zero_or_pos n with h | h
      · subst h
        have : L = [] := List.length_eq_zero_iff.1 (by omega)
        subst this
        simp at hj
      · obtain ⟨a', ha, hc⟩ := hA h
        cases ha
        exact hc j u hj
    have := run_loadCells_list (P := P) w a L hc
    rw [hl] at this
    simpa [Builtin.firstCells] using this
/-- What is appended to: nothing, or a row of one's own. -/
structure Base (X : Cx) (C : Cc) (t : Ty) (Gj : List Nat) (fin : Option (List Lb)) (xs : List t.D) (A : Option Addr) (cap : Nat) (L : List Value) : Prop where
  le : xs.length ≤ cap
  blk : 0 < cap → ∃ b off arr e fr, A = some ⟨b, off, none⟩ ∧ inG Gj (C.o b) = true ∧ C.w.heap[b]? = some (.cells arr e fr) ∧ FrOk t fr arr.size ∧ off + cap * t.sz ≤ arr.size ∧ L = sl arr off (xs.length * t.sz)
  zero : cap = 0 → L = []
  len : L.length = xs.length * t.sz
  el : match (generalizing := false) fin with
      | none => ∃ f : Nat → Nat, ElemsL t (fun i => OwnD C.w t (fun k => inG Gj (C.o k) = true ∧ (∀ b off, A = some ⟨b, off, none⟩ → 0 < cap → k ≠ b) ∧ f k = i)) xs L
      | some ls => ElemsL t (fun _ => RepD C.w (fun k => (lbS X C.o ls k ∨ inG Gj (C.o k) = true) ∧ (∀ b off, A = some ⟨b, off, none⟩ → 0 < cap → k ≠ b)) t) xs L
theorem inG_one {j : Nat} {o : Option Nat} : inG [j] o = true ↔ o = some j := by
  cases o with
  | none => simp [inG]
  | some i => simp [inG, memN_iff]
theorem base_own {j : Nat} {t : Ty} {xs : List t.D} {v : Value} {fin : Option (List Lb)} (h : innerOwn X C j fin xs v) : ∃ A cap L, v = .slice A xs.length cap ∧ Base X C t [j] fin xs A cap L := by
  obtain ⟨A, cap, L, h1, h2, h3, h4, h5⟩ := own_elems h
  refine ⟨A, cap, L, h1, ⟨h2, fun hc => ?_, h4, ?_, ?_⟩⟩
  · obtain ⟨b, off, arr, e, fr, g1, g2, g3⟩ := h3 hc
    exact ⟨b, off, arr, e, fr, g1, inG_one.2 g2, g3⟩
  · cases fin with
    | none => obtain ⟨f, h5⟩ := h5; exact h5.1
    | some ls => exact h5.1
  · cases fin with
    | none =>
      obtain ⟨f, h5⟩ := h5
      exact ⟨f, h5.mono fun i x cs _ he => he.mono fun k hk o ho => ⟨ho, inG_one.2 hk.1, hk.2⟩⟩
    | some ls => exact h5.mono fun i x cs _ he => he.mono fun k hk o ho => ⟨ho, hk.1.imp id inG_one.2, hk.2⟩
theorem base_nil {t : Ty} {fin : Option (List Lb)} : Base X C t [] fin [] none 0 [] := by
  refine ⟨Nat.le_refl _, fun h => absurd h (by decide), fun _ => rfl, by simp, ?_⟩
  cases fin with
  | none => exact ⟨fun _ => 0, ElemsL.nil⟩
  | some ls => exact ElemsL.nil
open Classical in
theorem append_core {ti : TI} {ts tx ty e : TypeId} (hti : TiOk X.P e ti) (ht : X.P.underlying ts = some (.slice e)) (hd : rowish X.P tx) (hb0 : 1 ≤ ti.bytes) (hb1 : ti.bytes ≤ 1024) (hh : HpOk X C s.hp s.nx) (hf : Fr X C)
    {out : Out} {Gj ids : List Nat} {fin : Option (List Lb)} {xs ys : List ti.ty.D} {A : Option Addr} {cap : Nat} {L news : List Value} {x : Value} {eff : Hp} (hbase : Base X C ti.ty Gj fin xs A cap L)
    (hl : ∀ w', (Builtin.lenOf x).run X.P w' = .ok ys.length w') (hx : ∀ w', w'.heap = C.w.heap → (Builtin.firstCells ti.ty.sz ys.length x).run X.P w' = .ok news.toArray w')
    (hsrc : srcEl X C ti.ty ids fin ys news) (hdis : ∀ i, i ∈ Gj → i ∉ ids) (hmax : xs.length + ys.length < maxRow)
    (hout : out = ⟨.own s.nx, eff, s.nx + 1⟩) (hk : get? eff s.nx = some (.row 0 ti.ty (xs ++ ys) fin)) (hGl : ∀ j ∈ Gj ++ ids, j < s.nx) (hG : ∀ j, j ≠ s.nx → get? eff j = if memN (Gj ++ ids) j = true then some .dead else none)
    (hin : ∀ l ∈ innerL fin, okL s.hp s.nx l) :
    ∃ v' w', (Builtin.append_ #[ts, tx] ty #[.slice A xs.length cap, x]).run X.P C.w = .ok v' w' ∧ Fin X C s out v' (C.give (Gj ++ ids) s.nx w' v') := by
  obtain ⟨i, hi, hisz, hiby, z, hiz, hzc⟩ := hti.info
  have hnl : news.length = ys.length * ti.ty.sz := by
    cases fin with
    | none => obtain ⟨g, h⟩ := hsrc; exact h.1
    | some ls => exact hsrc.1
  have hone : ∀ u ∈ news, u.oneCell' = true := by
    -- each cell is a cell of an element
    have hall : ∀ (EP : Nat → ti.ty.D → List Value → Prop), (∀ i x cs, EP i x cs → ∀ u ∈ cs, u.oneCell' = true) → ElemsL ti.ty EP ys news → ∀ u ∈ news, u.oneCell' = true := by
      intro EP hEP h u hu
      obtain ⟨p, hp⟩ := List.getElem?_of_mem hu
      have hpl : p < news.length := (List.getElem?_eq_some_iff.1 hp).1
      have hsz := ti.ty.sz_pos
      have hq : p / ti.ty.sz < ys.length := by
        rw [Nat.div_lt_iff_lt_mul hsz]; omega
      refine hEP _ _ _ (h.2 (p / ti.ty.sz) _ (List.getElem?_eq_getElem hq)) u ?_
      refine List.mem_of_getElem? (i := p % ti.ty.sz) ?_
      rw [List.getElem?_take, if_pos (Nat.mod_lt _ hsz), List.getElem?_drop]
      rw [Nat.mul_comm, Nat.div_add_mod]
      exact hp
    cases fin with
    | none => obtain ⟨g, h⟩ := hsrc; exact hall _ (fun _ _ _ he => he.rep.one) h
    | some ls => exact hall _ (fun _ _ _ he => RepD.one he) hsrc
  have hsub : xs.length * ti.ty.sz + news.length = (xs ++ ys).length * ti.ty.sz := by rw [hnl, List.length_append, Nat.add_mul]
  have hlt : ∀ b, inG (Gj ++ ids) (C.o b) = true → b < C.w.heap.size := by
    intro b hb
    cases ho : C.o b with
    | none => rw [ho] at hb; simp [inG] at hb
    | some j => exact (hf.own b j ho).1
  by_cases hroom : xs.length + ys.length ≤ cap
  · -- in place
    by_cases hc : 0 < cap
    · obtain ⟨b, off, arr, eT, fr, rfl, hob, hbh, hfr, hsz, rfl⟩ := hbase.blk hc
      have h1 := Nat.mul_le_mul_right ti.ty.sz hroom
      rw [Nat.add_mul] at h1
      obtain ⟨w', h2, h3, h4⟩ := run_storeCells_blk (P := X.P) b eT fr (off + xs.length * ti.ty.sz) news 0 C.w arr hbh hfr.weak (by omega) hone
      obtain ⟨hb1', hsz1, hoth⟩ := set_heap h3 hbh
      have hrun := run_append_fit (P := X.P) C.w ts tx ty e i ht hi hd (some ⟨b, off, none⟩) xs.length cap ys.length x news hl (by rw [hisz]; exact hx C.w rfl) hroom w' (by
        simp only
        rw [hisz, add_lit]; exact h2)
      refine ⟨_, w', hrun, ?_⟩
      have hbj : ∃ j, C.o b = some j ∧ j ∈ Gj := by
        cases ho : C.o b with
        | none => rw [ho] at hob; simp [inG] at hob
        | some j => rw [ho] at hob; exact ⟨j, rfl, memN_iff.1 hob⟩
      obtain ⟨j, hoj, hjG⟩ := hbj
      have hwk : ∀ b', b' < C.w.heap.size → (∀ j, C.o b' = some j → j ≠ s.nx ∧ j ∉ Gj ++ ids) → w'.heap[b']? = C.w.heap[b']? := fun b' hb' hj => by
        refine hoth b' ?_
        rintro rfl
        exact (hj j hoj).2 (by simp [hjG])
      have hkG : s.nx ∉ Gj ++ ids := fun h => Nat.lt_irrefl _ (hGl _ h)
      have hgo : ∀ k, inG (Gj ++ ids) (C.o k) = true → (C.give (Gj ++ ids) s.nx w' (.slice (some ⟨b, off, none⟩) (xs.length + ys.length) cap)).o k = some s.nx := by
        intro k hk
        rw [give_o_old (hlt k hk), if_pos hk]
      have hnb : ∀ k, inG ids (C.o k) = true → k ≠ b := by
        rintro k hk rfl
        rw [hoj] at hk
        exact hdis j hjG (memN_iff.1 hk)
      have hslold : ∀ q, q < xs.length → sl (spl arr (off + xs.length * ti.ty.sz + 0) news) (off + q * ti.ty.sz) ti.ty.sz = ((sl arr off (xs.length * ti.ty.sz)).drop (q * ti.ty.sz)).take ti.ty.sz := by
        intro q hq
        have h5 := Nat.mul_le_mul_right ti.ty.sz (show q + 1 ≤ xs.length by omega)
        rw [Nat.add_mul, Nat.one_mul] at h5
        rw [sl_spl_out (by omega) (.inl (by omega))]
        simp only [sl, List.drop_take, List.drop_drop, List.take_take]
        congr 1; omega
      have hslnew : ∀ q, xs.length ≤ q → q < xs.length + ys.length → sl (spl arr (off + xs.length * ti.ty.sz + 0) news) (off + q * ti.ty.sz) ti.ty.sz = (news.drop ((q - xs.length) * ti.ty.sz)).take ti.ty.sz := by
        intro q hq hq2
        have e1 : off + q * ti.ty.sz = off + xs.length * ti.ty.sz + (q - xs.length) * ti.ty.sz := by
          rw [Nat.add_assoc, ← Nat.add_mul]; congr 2; omega
        have h5 := Nat.mul_le_mul_right ti.ty.sz (show (q - xs.length) + 1 ≤ ys.length by omega)
        rw [Nat.add_mul, Nat.one_mul] at h5
        apply List.ext_getElem?
        intro p
        by_cases hp : p < ti.ty.sz
        · rw [sl_get hp, spl_get (by omega), if_pos (by omega), List.getElem?_take, if_pos hp, List.getElem?_drop]
          congr 1; omega
        · simp only [sl, List.getElem?_take, if_neg hp]
      subst hout
      refine row_fin (t := ti.ty) hh hf h4 (by omega) (Nat.le_succ _) (Nat.lt_succ_self _) hk hkG hG hwk (fun h => absurd h (Nat.lt_irrefl _)) hin ⟨_, _, by rw [List.length_append]⟩ (fun hev hlv => ?_) (fun hev => ?_)
      · have hel := hbase.el
        cases fin with
        | none =>
          obtain ⟨f, hel⟩ := hel
          obtain ⟨g, hsrc⟩ := hsrc
          refine ⟨_, fun k => if inG ids (C.o k) = true then xs.length + g k else f k, rfl, _, cap, by rw [List.length_append], by rw [List.length_append]; exact hroom, fun _ => ⟨b, off, _, eT, fr, rfl, hgo b (inG_append.2 (.inl hob)), hb1', by rw [spl_size (by omega)]; exact hfr, by rw [spl_size (by omega)]; exact hsz, fun q y hy => ?_⟩⟩
          have hql := (List.getElem?_eq_some_iff.1 hy).1
          rw [List.length_append] at hql
          by_cases hq : q < xs.length
          · rw [List.getElem?_append_left hq] at hy
            rw [hslold q hq]
            refine (hel.2 q y hy).mono fun k hk o ho => ?_
            have hkb := hk.2.1 b off rfl hc
            refine ⟨(hoth k hkb).trans ho, hgo k (inG_append.2 (.inl hk.1)), hkb, ?_⟩
            dsimp only
            rw [if_neg]
            · exact hk.2.2
            · intro h
              cases ho2 : C.o k with
              | none => rw [ho2] at h; simp [inG] at h
              | some j' =>
                have h6 := hk.1
                rw [ho2] at h h6
                exact hdis j' (memN_iff.1 h6) (memN_iff.1 h)
          · rw [List.getElem?_append_right (by omega)] at hy
            rw [hslnew q (by omega) hql]
            refine (hsrc.2 _ y hy).mono fun k hk o ho => ?_
            have hkb := hnb k hk.1
            refine ⟨(hoth k hkb).trans ho, hgo k (inG_append.2 (.inr hk.1)), hkb, ?_⟩
            dsimp only
            rw [if_pos hk.1, hk.2]
            omega
        | some ls =>
          refine ⟨_, cap, by rw [List.length_append], by rw [List.length_append]; exact hroom, fun _ => ⟨b, off, _, eT, fr, rfl, hgo b (inG_append.2 (.inl hob)), hb1', by rw [spl_size (by omega)]; exact hfr, by rw [spl_size (by omega)]; exact hsz, fun q y hy => ?_⟩⟩
          have hql := (List.getElem?_eq_some_iff.1 hy).1
          rw [List.length_append] at hql
          have hst := hev.stays hin hlv
          have hlbb : ¬ lbS X (C.give (Gj ++ ids) s.nx w' (.slice (some ⟨b, off, none⟩) (xs.length + ys.length) cap)).o ls b := by
            have hgb := hgo b (inG_append.2 (.inl hob))
            rintro (h | ⟨l, hm, h⟩)
            · have h0 := h.1
              rw [hgb] at h0; cases h0
            · rw [hgb] at h
              have h7 := (hin l hm).1
              simp only [Option.some.injEq] at h
              omega
          by_cases hq : q < xs.length
          · rw [List.getElem?_append_left hq] at hy
            rw [hslold q hq]
            refine (hel.2 q y hy).mono fun k hk o ho => ?_
            have hkb := hk.2 b off rfl hc
            rcases hk.1 with h | h
            · obtain ⟨h8, h9⟩ := hst k h o ho
              exact ⟨h8, .inl h9, hkb⟩
            · exact ⟨(hoth k hkb).trans ho, .inr (hgo k (inG_append.2 (.inl h))), hkb⟩
          · rw [List.getElem?_append_right (by omega)] at hy
            rw [hslnew q (by omega) hql]
            refine (hsrc.2 _ y hy).mono fun k hk o ho => ?_
            rcases hk with h | h
            · obtain ⟨h8, h9⟩ := hst k h o ho
              exact ⟨h8, .inl h9, by rintro rfl; exact hlbb h9⟩
            · have hkb := hnb k h
              exact ⟨(hoth k hkb).trans ho, .inr (hgo k (inG_append.2 (.inr h))), hkb⟩
      · simp only [RepA]
        refine ⟨Nat.lt_succ_self _, rfl, fun ver t xs inner _ => ?_⟩
        simp [Cc.give]
    · -- no capacity: nothing is appended to nothing
      have hxs : xs = [] := List.length_eq_zero_iff.1 (by have := hbase.le; omega)
      have hys : ys = [] := List.length_eq_zero_iff.1 (by omega)
      have hc0 : cap = 0 := by omega
      subst hxs hys hc0
      have hn0 : news = [] := List.length_eq_zero_iff.1 (by rw [hnl]; simp)
      subst hn0
      have hrun := run_append_fit (P := X.P) C.w ts tx ty e i ht hi hd A 0 0 0 x [] (by simpa using hl) (by rw [hisz]; exact hx C.w rfl) (Nat.le_refl _) C.w (by
        cases A with
        | none => rfl
        | some a => rfl)
      refine ⟨_, C.w, by simpa using hrun, ?_⟩
      have hkG : s.nx ∉ Gj ++ ids := fun h => Nat.lt_irrefl _ (hGl _ h)
      subst hout
      refine row_fin (t := ti.ty) hh hf (Same.refl _) (Nat.le_refl _) (Nat.le_succ _) (Nat.lt_succ_self _) hk hkG hG (fun _ _ _ => rfl) (fun h => absurd h (Nat.lt_irrefl _)) hin ⟨A, 0, rfl⟩ (fun hev hlv => ?_) (fun hev => ?_)
      · cases fin with
        | none => exact ⟨_, fun _ => 0, rfl, A, 0, rfl, Nat.le_refl _, fun h => absurd h (by decide)⟩
        | some ls => exact ⟨A, 0, rfl, Nat.le_refl _, fun h => absurd h (by decide)⟩
      · simp only [RepA]
        refine ⟨Nat.lt_succ_self _, rfl, fun ver t xs inner _ => ?_⟩
        simp [Cc.give]
  · -- a new block
    have hbig : (xs.length + ys.length) * ti.bytes ≤ 140737488355328 := by
      have h1 : (xs.length + ys.length) * ti.bytes ≤ 68719476736 * 1024 := Nat.mul_le_mul (by unfold maxRow at hmax; omega) hb1
      omega
    have ho : ∀ w', w'.heap = C.w.heap → (Builtin.firstCells i.size xs.length (.slice A xs.length cap)).run X.P w' = .ok L.toArray w' := by
      intro w' hw'
      rw [hisz]
      refine run_firstCells_of hbase.len w' fun hp => ?_
      obtain ⟨b, off, arr, eT, fr, rfl, hob, hbh, hfr, hsz, rfl⟩ := hbase.blk (by have := hbase.le; omega)
      refine ⟨_, rfl, fun p u hp => ?_⟩
      have hpl : p < xs.length * ti.ty.sz := by
        have := (List.getElem?_eq_some_iff.1 hp).1
        rw [hbase.len] at this; exact this
      rw [sl_get hpl] at hp
      rw [add_lit, cell_blk (by rw [hw']; exact hbh)]
      exact hp
    have hrun := run_append_grows (P := X.P) C.w ts tx ty e i z ht hi hiz hd (by omega) A xs.length cap ys.length x L news hl (by rw [hisz]; exact hx) ho (by omega) (by
      rw [hiby]; exact growslice_fits (by omega) hbig)
    have hcapge := grownCap_ge C.w (xs.length + ys.length) cap e
    have hzsz : z.cells.size = ti.ty.sz := by
      have : z.cells.toList.length = ti.ty.sz := by
        rw [hzc]
        exact zeroV_len ti.ty
      simpa using this
    refine ⟨_, _, hrun, ?_⟩
    have hrow := new_row (C := C) (L := L ++ news) (t := ti.ty) (xs := xs ++ ys) (inner := fin) (cap := grownCap C.w (xs.length + ys.length) cap e) (G := Gj ++ ids) (w' := C.w.drew.alloc (.cells ((L ++ news).toArray ++ Builtin.zeroCells z.cells (grownCap C.w (xs.length + ys.length) cap e - (xs.length + ys.length))) e)) (e := e) (fr := (0, 0)) hh hf
      ⟨rfl, rfl, rfl⟩ rfl (.inl (Nat.le_refl _)) (by rw [List.length_append]; exact hcapge) (by
        rw [Array.size_append, size_zeroCells, hzsz]
        simp only [List.size_toArray, List.length_append, hbase.len, hnl]
        rw [← Nat.add_mul, ← Nat.add_mul]
        exact Nat.mul_le_mul_right _ (by omega)) ⟨(Builtin.zeroCells z.cells (grownCap C.w (xs.length + ys.length) cap e - (xs.length + ys.length))).toList, by simp⟩ hout hk hGl hG hin (by
        have hel := hbase.el
        cases fin with
        | none =>
          obtain ⟨f, hel⟩ := hel
          obtain ⟨g, hsrc⟩ := hsrc
          refine ⟨fun k => if inG ids (C.o k) = true then xs.length + g k else f k, (hel.append hsrc).mono fun q y cs hq he => ?_⟩
          rcases he with ⟨h1, he⟩ | ⟨h1, he⟩
          · refine he.mono fun k hk o ho => ⟨ho, inG_append.2 (.inl hk.1), ?_⟩
            dsimp only
            rw [if_neg]
            · exact hk.2.2
            · intro h
              cases ho2 : C.o k with
              | none => rw [ho2] at h; simp [inG] at h
              | some j' =>
                have h6 := hk.1
                rw [ho2] at h h6
                exact hdis j' (memN_iff.1 h6) (memN_iff.1 h)
          · refine he.mono fun k hk o ho => ⟨ho, inG_append.2 (.inr hk.1), ?_⟩
            dsimp only
            rw [if_pos hk.1, hk.2]
            omega
        | some ls =>
          refine (hel.append hsrc).mono fun q y cs hq he => ?_
          rcases he with ⟨h1, he⟩ | ⟨h1, he⟩
          · exact he.mono fun k hk o ho => ⟨ho, hk.1.imp id fun h => inG_append.2 (.inl h)⟩
          · exact he.mono fun k hk o ho => ⟨ho, hk.imp id fun h => inG_append.2 (.inr h)⟩)
    rw [List.length_append] at hrow
    exact hrow
where
  zeroV_len : ∀ t : Ty, (zeroV t).length = t.sz
  | .int _ => rfl
  | .bool => rfl
  | .str => rfl
  | .row _ => rfl
  | .pair a b => by simp [zeroV, Ty.sz, zeroV_len a, zeroV_len b]
end Go.Vm
namespace Go.Vm
open Go Go.RowKit
set_option linter.unusedVariables false
set_option linter.unusedSimpArgs false
variable {E : Env} {R : Type} {X : Cx} {C : Cc} {s : St} {κ : Out → Option R} {r : R} {orc : Orc E}
theorem get?_eff {e : Hp} {nx : Nat} {B : Blk} (hd : allDead e) (hl : ∀ p ∈ e, p.1 < nx) : get? (e ++ [(nx, B)]) nx = some B ∧ ∀ j, j ≠ nx → get? (e ++ [(nx, B)]) j = if memN (idsOf e) j = true then some .dead else none := by
  refine ⟨?_, fun j hj => ?_⟩
  · rw [get?_append, get?_dead hd, if_neg]
    · simp [get?]
    · intro h
      obtain ⟨p, hp, he⟩ := List.mem_map.1 (memN_iff.1 h)
      have := hl p hp
      omega
  · rw [get?_append, get?_dead hd]
    split
    · rename_i v h
      split at h
      · cases h; simp_all
      · cases h
    · rename_i h
      split at h
      · cases h
      · rename_i hm
        rw [if_neg hm, get?_cons, if_neg (fun h => hj h.symm)]; rfl
/-- A source of an append. -/
structure Src' (X : Cx) (C : Cc) (s : St) (ti : TI) (x : Value) (r : RowV) (e : Hp) (inb : Option (List Lb)) : Prop where
  dead : allDead e
  lt : ∀ p ∈ e, p.1 < s.nx
  inn : ∀ l ∈ innerL inb, okL s.hp s.nx l
  src : ∀ ys, rowCast r.t ti.ty r.xs = some ys → ∃ news, (∀ P w', (Builtin.lenOf x).run P w' = .ok ys.length w') ∧ (∀ P w', w'.heap = C.w.heap → (Builtin.firstCells ti.ty.sz ys.length x).run P w' = .ok news.toArray w') ∧
    ∀ fin, ((inb = none ∧ fin = none) ∨ (ti.ty.flat = true ∧ fin = none) ∨ ∃ ls, fin = some ls ∧ ∀ l ∈ innerL inb, l ∈ ls) → srcEl X C ti.ty (idsOf e) fin ys news
theorem src_slice {ti : TI} {x : Value} {t : Ty} {xs : List t.D} {S : Nat → Prop} (h : RepD C.w S (.row t) xs [x]) (he : t = ti.ty) :
    ∃ news : List Value, (∀ P w', (Builtin.lenOf x).run P w' = .ok xs.length w') ∧ (∀ P w', w'.heap = C.w.heap → (Builtin.firstCells ti.ty.sz xs.length x).run P w' = .ok news.toArray w') ∧ ElemsL t (fun _ => RepD C.w S t) xs news := by
  subst he
  obtain ⟨A, cap, L, rfl, hle, hL, hc⟩ := rep_elems h
  refine ⟨L, fun P w' => by simp [Builtin.lenOf], fun P w' hw => ?_, hL⟩
  refine run_firstCells_of hL.1 w' fun hp => ?_
  obtain ⟨a, ha, hcc⟩ := hc hp
  refine ⟨a, ha, fun j u hj => ?_⟩
  have := hcc j u hj
  unfold World.cell? at this ⊢
  rw [hw]; exact this
theorem srcRow_ok {ti : TI} (hh : HpOk X C s.hp s.nx) {b : AV} {x : Value} (hb : RepA X C s.hp s.nx b x) {r : RowV} {e : Hp} {inb : Option (List Lb)} (h : srcRow s ti.ty.flat b = some (r, e, inb)) : Src' X C s ti x r e inb := by
  have gen : ∀ {b : AV} {x : Value} {r : RowV}, RepA X C s.hp s.nx b x → rowOf s.hp b = some r → ∀ {inb}, (inb = some r.ls ∨ (inb = none ∧ ti.ty.flat = true)) → Src' X C s ti x r [] inb := by
    intro b x r hb hr inb hi
    obtain ⟨h1, h2, h3⟩ := rowOf_rep hh hb hr
    refine ⟨by simp [allDead], by simp, fun l hl => ?_, fun ys hc => ?_⟩
    · rcases hi with rfl | ⟨rfl, _⟩
      · exact h2 l hl
      · simp [innerL] at hl
    · obtain ⟨t, xs, ls⟩ := r
      obtain ⟨he, hy⟩ := rowCast_eq hc
      simp only at he hy h1
      subst he
      simp only at hy
      subst hy
      obtain ⟨news, g1, g2, g3⟩ := src_slice (ti := ti) h1 rfl
      refine ⟨news, g1, g2, fun fin hf => ?_⟩
      rcases hf with ⟨hn, rfl⟩ | ⟨hf, rfl⟩ | ⟨ls', rfl, hl⟩
      · rcases hi with rfl | ⟨_, hf⟩
        · cases hn
        · exact ⟨fun _ => 0, ⟨g3.1, fun i x hx => flat_any hf (g3.2 i x hx)⟩⟩
      · exact ⟨fun _ => 0, ⟨g3.1, fun i x hx => flat_any hf (g3.2 i x hx)⟩⟩
      · rcases hi with rfl | ⟨rfl, hf⟩
        · refine g3.mono fun i x cs _ he => he.mono fun k hk o ho => ⟨ho, .inl ?_⟩
          exact hk.elim .inl fun ⟨l, hm, hb⟩ => .inr ⟨l, hl l hm, hb⟩
        · exact g3.mono fun i x cs _ he => flat_rep hf he
  cases b with
  | own j =>
    simp only [srcRow] at h
    split at h
    · rename_i r' hr
      split at h
      · rename_i hfl
        simp only [Option.some.injEq, Prod.mk.injEq] at h
        obtain ⟨rfl, rfl, rfl⟩ := h
        exact gen hb hr (.inr ⟨rfl, hfl⟩)
      · rename_i hfl
        split at h
        · rename_i v t xs inner hg
          simp only [Option.some.injEq, Prod.mk.injEq] at h
          obtain ⟨rfl, rfl, rfl⟩ := h
          have hk := hh j
          rw [hg] at hk
          obtain ⟨hid, hown, hshape, hin⟩ := hk
          have hrr := hr
          simp only [rowOf, hg] at hrr
          split at hrr
          · rename_i hl
            cases hrr
            have hown := hown hl
            simp only [RepA] at hb
            have hx := hb.2.2 _ _ _ _ hg
            subst hx
            refine ⟨by simp [allDead], by simpa using hid, hin, fun ys hc => ?_⟩
            obtain ⟨he, hy⟩ := rowCast_eq hc
            simp only at he hy
            subst he
            simp only at hy
            have hy := hy.symm
            subst hy
            obtain ⟨A, cap, L, hv, hle, hblk, hz, hel⟩ := own_elems hown
            have hLlen : L.length = xs.length * ti.ty.sz := by
              cases inner with
              | none => obtain ⟨f, hel⟩ := hel; exact hel.1
              | some ls => exact hel.1
            refine ⟨L, fun P w' => by rw [hv]; simp [Builtin.lenOf], fun P w' hw => ?_, fun fin hf => ?_⟩
            · rw [hv]
              refine run_firstCells_of hLlen w' fun hp => ?_
              obtain ⟨b, off, arr, eT, fr, hA, hob, hbh, hfr, hsz, rfl⟩ := hblk (by omega)
              refine ⟨_, hA, fun p u hp => ?_⟩
              have hpl : p < xs.length * ti.ty.sz := by
                have := (List.getElem?_eq_some_iff.1 hp).1
                rw [hLlen] at this; exact this
              rw [sl_get hpl] at hp
              rw [add_lit, cell_blk (by rw [hw]; exact hbh)]
              exact hp
            · have hconv := innerOwn_conv hown hf
              obtain ⟨A2, cap2, L2, hv2, hle2, hblk2, hz2, hel2⟩ := own_elems hconv
              rw [hv] at hv2
              simp only [Value.slice.injEq] at hv2
              obtain ⟨rfl, _, rfl⟩ := hv2
              have hLL : L2 = L := by
                rcases Nat.eq_zero_or_pos cap with hc0 | hc0
                · rw [hz hc0, hz2 hc0]
                · obtain ⟨b, off, arr, eT, fr, hA, hob, hbh, hfr, hsz, rfl⟩ := hblk hc0
                  obtain ⟨b', off', arr', eT', fr', hA', hob', hbh', hfr', hsz', rfl⟩ := hblk2 hc0
                  rw [hA] at hA'
                  simp only [Option.some.injEq, Addr.mk.injEq] at hA'
                  obtain ⟨rfl, rfl, _⟩ := hA'
                  rw [hbh] at hbh'
                  cases hbh'
                  rfl
              subst hLL
              cases fin with
              | none =>
                obtain ⟨f, hel2⟩ := hel2
                exact ⟨f, hel2.mono fun i x cs _ he => he.mono fun k hk o ho => ⟨ho, inG_one.2 hk.1, hk.2.2⟩⟩
              | some ls => exact hel2.mono fun i x cs _ he => he.mono fun k hk o ho => ⟨ho, hk.1.imp id inG_one.2⟩
          · cases hrr
        · cases h
    · cases h
  | _ =>
    simp only [srcRow] at h
    split at h
    · rename_i r' hr
      simp only [Option.some.injEq, Prod.mk.injEq] at h
      obtain ⟨rfl, rfl, rfl⟩ := h
      exact gen hb hr (.inl rfl)
    · cases h
theorem bytes_src {ti : TI} {x : ByteArray} (ht : ti.ty = .int .u8) : Src' X C s ti (.string x) ⟨.int .u8, bytesOf x, []⟩ [] none := by
  refine ⟨by simp [allDead], by simp, by simp [innerL], fun ys hc => ?_⟩
  obtain ⟨tag, ty, by_⟩ := ti
  simp only at ht hc ⊢
  subst ht
  obtain ⟨_, hy⟩ := rowCast_eq hc
  simp only at hy
  subst hy
  have hlen : (bytesOf x).length = x.size := by unfold bytesOf; rw [List.length_map, Array.length_toList]; rfl
  refine ⟨(bytesOf x).map (fun n => Value.int .u8 n), fun P w' => by simp [Builtin.lenOf, hlen], fun P w' _ => ?_, fun fin hf => ?_⟩
  · rw [hlen]
    have hex : x.extract 0 x.size = x := ByteArray.extract_zero_size
    simp only [Builtin.firstCells, hex, Sem.run_pure]
    congr 1
    apply Array.ext'
    simp [bytesOf]
  · have hel : ∀ i n, (bytesOf x)[i]? = some n → (((bytesOf x).map (fun n => Value.int .u8 n)).drop (i * 1)).take 1 = [Value.int .u8 n] := by
      intro i n hn
      rw [Nat.mul_one, ← List.map_drop]
      have hi := (List.getElem?_eq_some_iff.1 hn).1
      rw [List.drop_eq_getElem_cons hi]
      have := (List.getElem?_eq_some_iff.1 hn).2
      simp [this]
    cases fin with
    | none => exact ⟨fun _ => 0, by simp [Ty.sz], fun i n hn => hel i n hn⟩
    | some ls => exact ⟨by simp [Ty.sz], fun i n hn => hel i n hn⟩
theorem join_none {flat : Bool} {a b : Option (List Lb)} : (a = none ∧ joinInner flat a b = none) ∨ (flat = true ∧ joinInner flat a b = none) ∨ ∃ ls, joinInner flat a b = some ls ∧ ∀ l ∈ innerL a, l ∈ ls := by
  cases a <;> cases b <;> cases flat <;> simp [joinInner, innerL] <;> (intro p q h; simp [h])
theorem join_none' {flat : Bool} {a b : Option (List Lb)} : (b = none ∧ joinInner flat a b = none) ∨ (flat = true ∧ joinInner flat a b = none) ∨ ∃ ls, joinInner flat a b = some ls ∧ ∀ l ∈ innerL b, l ∈ ls := by
  cases a <;> cases b <;> cases flat <;> simp [joinInner, innerL] <;> (intro p q h; simp [h])
theorem join_mem {flat : Bool} {a b : Option (List Lb)} {l : Lb} (h : l ∈ innerL (joinInner flat a b)) : l ∈ innerL a ∨ l ∈ innerL b := by
  cases a <;> cases b <;> cases flat <;> simp [joinInner, innerL] at h ⊢ <;> exact h
theorem appendFl_run {t : Ty} {xs ys : List t.D} {eff : Hp} {inner : Option (List Lb)} (h : (appendFl s t xs ys eff inner : Tr E Out).run orc κ = some r) :
    noDupN eff [] = true ∧ xs.length + ys.length < maxRow ∧ κ ⟨.own s.nx, eff ++ [(s.nx, .row 0 t (xs ++ ys) inner)], s.nx + 1⟩ = some r := by
  unfold appendFl at h
  split at h
  · cases h
  · rename_i hn
    obtain ⟨h1, h2⟩ := run_test h
    exact ⟨hn, h1, h2⟩
theorem append_sound {ti : TI} {ts tx ty e : TypeId} (hti : TiOk X.P e ti) (ht : X.P.underlying ts = some (.slice e)) (hd : rowish X.P tx) (hb0 : 1 ≤ ti.bytes) (hb1 : ti.bytes ≤ 1024) (hh : HpOk X C s.hp s.nx) (hf : Fr X C)
    {a b : AV} {v x : Value} (ha : RepA X C s.hp s.nx a v) (hb : RepA X C s.hp s.nx b x) (hr : (appendOp ti s a b : Tr E Out).run orc κ = some r) :
    ∃ v' w', (Builtin.append_ #[ts, tx] ty #[v, x]).run X.P C.w = .ok v' w' ∧ Done X C s κ r v' w' := by
  unfold appendOp at hr
  split at hr
  · cases hr
  · rename_i rr ee inb hsel
    have hsrc : Src' X C s ti x rr ee inb := by
      split at hsel
      · simp only [Option.some.injEq, Prod.mk.injEq] at hsel
        obtain ⟨rfl, rfl, rfl⟩ := hsel
        simp only [RepA] at hb
        subst hb
        refine ⟨by simp [allDead], by simp, by simp [innerL], fun ys hc => ?_⟩
        obtain ⟨_, hy⟩ := rowCast_eq hc
        simp only at hy
        subst hy
        refine ⟨[], fun P w' => by simp [Builtin.lenOf], fun P w' _ => by simp [Builtin.firstCells], fun fin hf => ?_⟩
        cases fin with
        | none => exact ⟨fun _ => 0, ElemsL.nil⟩
        | some ls => exact ElemsL.nil
      · rename_i x'
        simp only [RepA] at hb
        subst hb
        split at hsel
        · rename_i hty
          simp only [Option.some.injEq, Prod.mk.injEq] at hsel
          obtain ⟨rfl, rfl, rfl⟩ := hsel
          exact bytes_src hty
        · cases hsel
      · exact srcRow_ok hh hb hsel
    split at hr
    · cases hr
    · rename_i ys hys
      obtain ⟨news, hl, hx, hel⟩ := hsrc.src ys hys
      split at hr
      · -- nil
        obtain ⟨hnd, hmax, hκ⟩ := appendFl_run hr
        simp only [RepA] at ha
        subst ha
        obtain ⟨hk, hG⟩ := get?_eff (B := .row 0 ti.ty ([] ++ ys) (joinInner ti.ty.flat none inb)) hsrc.dead hsrc.lt
        obtain ⟨v', w', h1, h2⟩ := append_core (out := ⟨.own s.nx, _, s.nx + 1⟩) (ty := ty) hti ht hd hb0 hb1 hh hf (base_nil (fin := joinInner ti.ty.flat none inb)) (hl X.P) (hx X.P) (hel _ join_none') (by simp) hmax rfl hk
          (by intro j hj; obtain ⟨p, hp, rfl⟩ := List.mem_map.1 (show j ∈ idsOf ee by simpa using hj); exact hsrc.lt p hp) (by simpa using hG)
          (fun l hl' => (join_mem hl').elim (fun h => by simp [innerL] at h) (hsrc.inn l))
        exact ⟨v', w', h1, _, _, rfl, hκ, h2⟩
      · -- a row of one's own
        rename_i j
        simp only [RepA] at ha
        split at hr
        · rename_i ver u xs ina hg
          split at hr
          · rename_i hlv
            split at hr
            · rename_i xs' hxs
              obtain ⟨hnd, hmax, hκ⟩ := appendFl_run hr
              obtain ⟨he, hy⟩ := rowCast_eq hxs
              subst he
              simp only at hy
              have hy := hy.symm
              subst hy
              have hk := hh j
              rw [hg] at hk
              obtain ⟨hid, hown, hshape, hin⟩ := hk
              have hv := ha.2.2 _ _ _ _ hg
              subst hv
              obtain ⟨hjn, hnd'⟩ := noDupN_cons hnd
              have hconv := innerOwn_conv (hown hlv) (join_none (flat := ti.ty.flat) (b := inb))
              obtain ⟨A, cap, L, hsv, hbase⟩ := base_own hconv
              have hdead : allDead ((j, .dead) :: ee) := by
                intro p hp
                cases hp with
                | head => rfl
                | tail _ hp => exact hsrc.dead p hp
              have hltt : ∀ p ∈ ((j, Blk.dead) :: ee), p.1 < s.nx := by
                intro p hp
                cases hp with
                | head => exact hid
                | tail _ hp => exact hsrc.lt p hp
              obtain ⟨hk, hG⟩ := get?_eff (B := .row 0 ti.ty (xs ++ ys) (joinInner ti.ty.flat ina inb)) hdead hltt
              rw [hsv]
              obtain ⟨v', w', h1, h2⟩ := append_core (out := ⟨.own s.nx, _, s.nx + 1⟩) (ty := ty) hti ht hd hb0 hb1 hh hf hbase (hl X.P) (hx X.P) (hel _ join_none') (by
                  intro i hi hi2
                  simp at hi
                  subst hi
                  obtain ⟨p, hp, he⟩ := List.mem_map.1 hi2
                  exact noDupN_seen hnd' p hp (by simp [he])) hmax rfl hk
                (by intro q hq; obtain ⟨p, hp, rfl⟩ := List.mem_map.1 (show q ∈ idsOf ((j, Blk.dead) :: ee) by simpa [idsOf] using hq); exact hltt p hp) hG
                (fun l hl' => (join_mem hl').elim (hin l) (hsrc.inn l))
              exact ⟨v', w', h1, _, _, rfl, hκ, h2⟩
            · cases hr
          · cases hr
        · cases hr
      · -- a cut of a row of one's own
        rename_i j ver u0 xs0
        simp only [RepA] at ha
        split at hr
        · rename_i ver' u xs ina hg
          split at hr
          · rename_i hlv
            simp only [Bool.and_eq_true] at hlv
            have hvv := Nat.eq_of_beq_eq_true hlv.1
            subst hvv
            split at hr
            · rename_i xs' hxs
              obtain ⟨hnd, hmax, hκ⟩ := appendFl_run hr
              obtain ⟨he, hy⟩ := rowCast_eq hxs
              subst he
              simp only at hy
              have hy := hy.symm
              subst hy
              have hk := hh j
              rw [hg] at hk
              obtain ⟨hid, _, hshape, hin⟩ := hk
              obtain ⟨hut, hown⟩ := ha.2.2 _ _ _ hg hlv.2
              obtain ⟨hjn, hnd'⟩ := noDupN_cons hnd
              have hconv := innerOwn_conv hown (join_none (flat := ti.ty.flat) (b := inb))
              obtain ⟨A, cap, L, hsv, hbase⟩ := base_own hconv
              have hdead : allDead ((j, .dead) :: ee) := by
                intro p hp
                cases hp with
                | head => rfl
                | tail _ hp => exact hsrc.dead p hp
              have hltt : ∀ p ∈ ((j, Blk.dead) :: ee), p.1 < s.nx := by
                intro p hp
                cases hp with
                | head => exact hid
                | tail _ hp => exact hsrc.lt p hp
              obtain ⟨hk, hG⟩ := get?_eff (B := .row 0 ti.ty (xs0 ++ ys) (joinInner ti.ty.flat ina inb)) hdead hltt
              rw [hsv]
              obtain ⟨v', w', h1, h2⟩ := append_core (out := ⟨.own s.nx, _, s.nx + 1⟩) (ty := ty) hti ht hd hb0 hb1 hh hf hbase (hl X.P) (hx X.P) (hel _ join_none') (by
                  intro i hi hi2
                  simp at hi
                  subst hi
                  obtain ⟨p, hp, he⟩ := List.mem_map.1 hi2
                  exact noDupN_seen hnd' p hp (by simp [he])) hmax rfl hk
                (by intro q hq; obtain ⟨p, hp, rfl⟩ := List.mem_map.1 (show q ∈ idsOf ((j, Blk.dead) :: ee) by simpa [idsOf] using hq); exact hltt p hp) hG
                (fun l hl' => (join_mem hl').elim (hin l) (hsrc.inn l))
              exact ⟨v', w', h1, _, _, rfl, hκ, h2⟩
            · cases hr
          · cases hr
        · cases hr
      · cases hr
end Go.Vm
namespace Go.Vm
open Go Go.RowKit
set_option linter.unusedVariables false
set_option linter.unusedSimpArgs false
variable {E : Env} {R : Type} {X : Cx} {C : Cc} {s : St} {κ : Out → Option R} {r : R} {orc : Orc E}
theorem foldl_spl : ∀ (vs : List Value) (j off : Nat) (c : Array Value), off + j + vs.length ≤ c.size → (vs.zipIdx j).foldl (fun cs (p : Value × Nat) => cs.setIfInBounds (off + p.2) p.1) c = spl c (off + j) vs
  | [], j, off, c, _ => by simp [spl_nil]
  | v :: vs, j, off, c, h => by
    simp only [List.length_cons] at h
    simp only [List.zipIdx_cons, List.foldl_cons]
    rw [foldl_spl vs (j + 1) off _ (by simp; omega), show off + (j + 1) = off + j + 1 by omega, spl_cons _ _ _ _ (by omega)]
theorem fill_one (place : Nat → Option (Nat × Nat)) (c : Array Value) (i off size : Nat) (v : Value) (rest : List (Nat × Value)) (hp : place i = some (off, size)) (hv : v.cells.size = size) (hs : off + size ≤ c.size) :
    Instr.fill place c ((i, v) :: rest) = Instr.fill place (spl c off v.cells.toList) rest := by
  have hf : (v.cells.zipIdx.foldl (fun cs (p : Value × Nat) => cs.setIfInBounds (off + p.2) p.1) c) = spl c off v.cells.toList := by
    rw [← Array.foldl_toList, Array.toList_zipIdx]
    exact foldl_spl v.cells.toList 0 off c (by simp; omega)
  simp only [Instr.fill, hp]
  rw [if_neg (by simp [hv]; omega)]
  rw [← hf]
/-- Parts in their places' order fill a row. -/
theorem fill_row (sz : Nat) : ∀ (l : List (Nat × Value)) (k : Nat) (c : Array Value), (∀ j p, l[j]? = some p → p.1 = k + j ∧ p.2.cells.size = sz) → (k + l.length) * sz = c.size →
    ∃ c', Instr.fill (fun i => some (i * sz, sz)) c l = some c' ∧ c'.toList = c.toList.take (k * sz) ++ (l.map fun p => p.2.cells.toList).flatten
  | [], k, c, _, hs => by
    refine ⟨c, rfl, ?_⟩
    simp only [List.length_nil, Nat.add_zero] at hs
    rw [hs]
    simp
    rw [List.take_of_length_le (by simp)]
  | (i, v) :: l, k, c, h, hs => by
    obtain ⟨h1, h2⟩ := h 0 (i, v) rfl
    simp only [Nat.add_zero] at h1 h2
    subst h1
    simp only [List.length_cons] at hs
    have hle : i * sz + sz ≤ c.size := by
      have := Nat.mul_le_mul_right sz (show i + 1 ≤ i + (l.length + 1) by omega)
      rw [Nat.add_mul, Nat.one_mul] at this
      omega
    rw [fill_one _ c i (i * sz) sz v l rfl h2 hle]
    have hvl : v.cells.toList.length = sz := by simpa using h2
    obtain ⟨c', g1, g2⟩ := fill_row sz l (i + 1) (spl c (i * sz) v.cells.toList) (fun j p hj => by
      obtain ⟨q1, q2⟩ := h (j + 1) p (by simpa using hj)
      exact ⟨by omega, q2⟩) (by rw [spl_size (by omega), ← hs]; congr 1; omega)
    refine ⟨c', g1, ?_⟩
    rw [g2]
    simp only [List.map_cons, List.flatten_cons, spl]
    have e1 : (i + 1) * sz = (c.toList.take (i * sz)).length + v.cells.toList.length := by
      rw [List.length_take, hvl, Nat.add_mul, Nat.one_mul]
      simp; omega
    rw [e1, List.take_length_add_append]
    simp
theorem own_zero {w : World} {S : Nat → Prop} : ∀ t : Ty, OwnD w t S t.dflt (zeroV t)
  | .int _ => rfl
  | .bool => rfl
  | .str => rfl
  | .row el => ⟨.slice none 0 0, fun _ => 0, rfl, none, 0, rfl, Nat.le_refl _, fun h => absurd h (by decide)⟩
  | .pair a b => ⟨fun _ => 0, zeroV a, zeroV b, rfl, own_zero a, own_zero b⟩
theorem zero_rep {hp : Hp} {nx : Nat} : ∀ t : Ty, RepL X C hp nx t.zero (zeroV t)
  | .int _ => by simp [Ty.zero, zeroV, RepL, RepA]
  | .bool => by simp [Ty.zero, zeroV, RepL, RepA]
  | .str => by simp [Ty.zero, zeroV, RepL, RepA]
  | .row el => by simp [Ty.zero, zeroV, RepL, RepA]
  | .pair a b => (zero_rep a).append (zero_rep b)
theorem splL_all {cs us : List Value} (h : us.length = cs.length) : splL cs 0 us = us := by
  simp [splL, h]
/-- Values at places. -/
inductive RepP (X : Cx) (C : Cc) (hp : Hp) (nx : Nat) : List (Nat × AV) → List (Nat × Value) → Prop
  | nil : RepP X C hp nx [] []
  | cons {i : Nat} {a : AV} {v : Value} {l : List (Nat × AV)} {r : List (Nat × Value)} (h : RepA X C hp nx a v) (t : RepP X C hp nx l r) : RepP X C hp nx ((i, a) :: l) ((i, v) :: r)
theorem RepP.length {hp : Hp} {nx : Nat} {l : List (Nat × AV)} {r : List (Nat × Value)} (h : RepP X C hp nx l r) : r.length = l.length := by
  induction h with
  | nil => rfl
  | cons _ _ ih => simp [ih]
theorem parts_rep {s : St} {ntm : Nat} {a : Act} (h : Rel X C s ntm a) : ∀ l : List (Nat × Operand), RepP X C s.hp s.nx (parts s.tm l) (l.map fun (i, x) => (i, a.eval x))
  | [] => RepP.nil
  | (i, x) :: l => RepP.cons (eval_opnd h x) (parts_rep h l)
theorem ElemsL.cons {t : Ty} {EP : Nat → t.D → List Value → Prop} {x : t.D} {xs : List t.D} {c L : List Value} (hc : c.length = t.sz) (h0 : EP 0 x c) (h : ElemsL t (fun i => EP (i + 1)) xs L) : ElemsL t EP (x :: xs) (c ++ L) := by
  refine ⟨by rw [List.length_append, hc, h.1, List.length_cons, Nat.add_mul, Nat.one_mul, Nat.add_comm], fun i y hy => ?_⟩
  cases i with
  | zero =>
    simp at hy
    subst hy
    simpa [← hc] using h0
  | succ i =>
    simp at hy
    have := h.2 i y hy
    have e1 : (i + 1) * t.sz = c.length + i * t.sz := by rw [Nat.add_mul, Nat.one_mul, hc]; omega
    rw [e1, List.drop_append, List.drop_eq_nil_of_le (by omega), List.nil_append, Nat.add_sub_cancel_left]
    exact this
theorem elemsOf_ok {ti : TI} (hh : HpOk X C s.hp s.nx) : ∀ {l : List (Nat × AV)} {vs : List (Nat × Value)} {k : Nat} {xs : List ti.ty.D} {e : Hp} {seen : List Nat}, elemsOf ti s k l = some (xs, e) → RepP X C s.hp s.nx l vs → noDupN e seen = true →
    (∃ f : Nat → Nat, ElemsL ti.ty (fun i => OwnD C.w ti.ty (fun b => inG (idsOf e) (C.o b) = true ∧ f b = i)) xs (vs.map fun p => p.2.cells.toList).flatten) ∧ allDead e ∧ (∀ p ∈ e, ∃ vv t xs, hget s.hp p.1 = .row vv t xs none) ∧
    (∀ j p, vs[j]? = some p → p.1 = k + j ∧ p.2.cells.size = ti.ty.sz) ∧ xs.length = l.length
  | [], vs, k, xs, e, seen, h, hr, hn => by
    simp only [elemsOf, Option.some.injEq, Prod.mk.injEq] at h
    obtain ⟨rfl, rfl⟩ := h
    cases hr
    exact ⟨⟨fun _ => 0, ElemsL.nil⟩, by simp [allDead], by simp, by simp, rfl⟩
  | (i, a) :: l, vs, k, xs, e, seen, h, hr, hn => by
    cases hr with
    | cons ha ht =>
      rename_i v rest
      simp only [elemsOf] at h
      split at h
      · rename_i hc
        simp only [Bool.and_eq_true] at hc
        obtain ⟨hpl, hik, hlen, hko⟩ := hc
        have hik := Nat.eq_of_beq_eq_true hik
        have hlen := Nat.eq_of_beq_eq_true hlen
        subst hik
        split at h
        · rename_i x e1 hx
          split at h
          · rename_i xs' e2 hxs
            simp only [Option.some.injEq, Prod.mk.injEq] at h
            obtain ⟨rfl, rfl⟩ := h
            have hcells := cells_of ha hpl
            have hcl := hcells.length
            have hn1 : noDupN e1 [] = true ∧ noDupN e2 [] = true ∧ ∀ j, j ∈ idsOf e1 → j ∉ idsOf e2 := noDup_split hn
            obtain ⟨h1, h2, h3⟩ := setCells_own hh hx hko hcells (own_zero (w := C.w) (S := fun _ => False) ti.ty) hn1.1 (fun b hb => hb.elim)
            have hzl := (own_zero (w := C.w) (S := fun _ => False) ti.ty).len
            rw [splL_all (by omega)] at h1
            obtain ⟨⟨f, g1⟩, g2, g3, g4, g5⟩ := elemsOf_ok hh hxs ht hn1.2.1
            refine ⟨⟨fun b => if inG (idsOf e1) (C.o b) = true then 0 else f b + 1, ?_⟩, ?_, ?_, ?_, by simp [g5]⟩
            · simp only [List.map_cons, List.flatten_cons]
              refine ElemsL.cons (by omega) (h1.mono fun b hb o ho => ⟨ho, ?_, ?_⟩) (g1.mono fun i y cs _ he => he.mono fun b hb o ho => ⟨ho, ?_, ?_⟩)
              · rw [show idsOf (e1 ++ e2) = idsOf e1 ++ idsOf e2 by simp [idsOf]]
                exact inG_append.2 (.inl (hb.resolve_left id))
              · rw [if_pos (hb.resolve_left id)]
              · rw [show idsOf (e1 ++ e2) = idsOf e1 ++ idsOf e2 by simp [idsOf]]
                exact inG_append.2 (.inr hb.1)
              · rw [if_neg, hb.2]
                intro h7
                cases ho2 : C.o b with
                | none => rw [ho2] at h7; simp [inG] at h7
                | some q =>
                  have h8 := hb.1
                  rw [ho2] at h7 h8
                  exact hn1.2.2 q (memN_iff.1 h7) (memN_iff.1 h8)
            · intro p hp
              exact (List.mem_append.1 hp).elim (h2 p) (g2 p)
            · intro p hp
              exact (List.mem_append.1 hp).elim (h3 p) (g3 p)
            · intro j p hj
              cases j with
              | zero =>
                simp at hj
                subst hj
                refine ⟨rfl, ?_⟩
                have : v.cells.toList.length = v.cells.size := by simp
                simp only
                omega
              | succ j =>
                simp at hj
                obtain ⟨q1, q2⟩ := g4 j p hj
                exact ⟨by omega, q2⟩
          · cases h
        · cases h
      · cases h
where
  noDup_split {e1 e2 : Hp} {seen : List Nat} (h : noDupN (e1 ++ e2) seen = true) : noDupN e1 [] = true ∧ noDupN e2 [] = true ∧ ∀ j, j ∈ idsOf e1 → j ∉ idsOf e2 := by
    have key : ∀ {e : Hp} {seen : List Nat}, noDupN e seen = true ↔ (idsOf e).Nodup ∧ ∀ j ∈ idsOf e, j ∉ seen := by
      intro e
      induction e with
      | nil => intro seen; simp [noDupN, idsOf]
      | cons p e ih =>
        obtain ⟨i, B⟩ := p
        intro seen
        constructor
        · intro h
          obtain ⟨h1, h2⟩ := noDupN_cons h
          obtain ⟨h3, h4⟩ := ih.1 h2
          refine ⟨?_, ?_⟩
          · simp only [idsOf, List.map_cons, List.nodup_cons]
            refine ⟨fun hm => ?_, h3⟩
            exact h4 i hm (by simp)
          · intro j hj
            simp only [idsOf, List.map_cons, List.mem_cons] at hj
            rcases hj with rfl | hj
            · exact h1
            · exact fun hs => h4 j hj (by simp [hs])
        · rintro ⟨h1, h2⟩
          simp only [idsOf, List.map_cons, List.nodup_cons] at h1
          simp only [noDupN]
          split
          · rename_i hm
            exact absurd (memN_iff.1 hm) (h2 i (by simp [idsOf]))
          · refine ih.2 ⟨h1.2, fun j hj hs => ?_⟩
            simp only [List.mem_cons] at hs
            rcases hs with rfl | hs
            · exact h1.1 hj
            · exact h2 j (by simp only [idsOf, List.map_cons, List.mem_cons]; exact .inr hj) hs
    obtain ⟨h1, h2⟩ := key.1 h
    have e0 : idsOf (e1 ++ e2) = idsOf e1 ++ idsOf e2 := by simp [idsOf]
    rw [e0, List.nodup_append] at h1
    exact ⟨key.2 ⟨h1.1, by simp⟩, key.2 ⟨h1.2.1, by simp⟩, fun j hj hj2 => h1.2.2 j hj j hj2 rfl⟩
def cellRepF (w : World) (S : Nat → Prop) (ct : Ty) (d : DV) (u : Value) : Prop :=
  match d with
  | .int n => ∃ k, ct = .int k ∧ u = .int k n
  | .bool b => ct = .bool ∧ u = .bool b
  | .str z => ct = .str ∧ u = .string z
  | .row el ys => ct = .row el ∧ RepD w S (.row el) ys [u]
/-- Shared data with a cell written. -/
theorem setCell_rep {w : World} {S : Nat → Prop} : ∀ {t : Ty} {x y : t.D} {cs : List Value} {off : Nat} {d : DV} {u : Value} {ct : Ty}, t.cellTy off = some ct →
    cellRepF w S ct d u → t.setCell x off d = some y →
    RepD w S t x cs → RepD w S t y (cs.set off u)
  | .int k, x, y, cs, off, d, u, ct, hc, hr, hs, ho => by
    cases off with
    | succ n => cases d <;> simp [Ty.setCell] at hs
    | zero =>
      simp only [Ty.cellTy, Option.some.injEq] at hc
      cases d <;> simp only [Ty.setCell, Option.some.injEq, reduceCtorEq] at hs
      subst hs hc
      obtain ⟨k', h1, h2⟩ := hr
      cases h1
      simp only [RepD] at ho ⊢
      rw [ho, h2]; rfl
  | .bool, x, y, cs, off, d, u, ct, hc, hr, hs, ho => by
    cases off with
    | succ n => cases d <;> simp [Ty.setCell] at hs
    | zero =>
      cases d <;> simp only [Ty.setCell, Option.some.injEq, reduceCtorEq] at hs
      subst hs
      simp only [RepD] at ho ⊢
      rw [ho, hr.2]; rfl
  | .str, x, y, cs, off, d, u, ct, hc, hr, hs, ho => by
    cases off with
    | succ n => cases d <;> simp [Ty.setCell] at hs
    | zero =>
      cases d <;> simp only [Ty.setCell, Option.some.injEq, reduceCtorEq] at hs
      subst hs
      simp only [RepD] at ho ⊢
      rw [ho, hr.2]; rfl
  | .row el, x, y, cs, off, d, u, ct, hc, hr, hs, ho => by
    cases off with
    | succ n => cases d <;> simp [Ty.setCell] at hs
    | zero =>
      cases d with
      | row el' ys =>
        simp only [Ty.setCell] at hs
        obtain ⟨he, hy⟩ := rowCast_eq hs
        subst he
        simp only at hy
        subst hy
        obtain ⟨A, cap, rfl, _⟩ := ho
        exact hr.2
      | _ => simp [Ty.setCell] at hs
  | .pair a b, x, y, cs, off, d, u, ct, hc, hr, hs, ho => by
    obtain ⟨c1, c2, rfl, h1, h2⟩ := ho
    have hl1 := h1.len
    simp only [Ty.setCell] at hs
    simp only [Ty.cellTy] at hc
    cases hb : Nat.ble a.sz off with
    | true =>
      rw [hb] at hs hc
      have hle := Nat.le_of_ble_eq_true hb
      simp only at hs hc
      split at hs
      · rename_i y2 hy
        cases hs
        exact ⟨c1, c2.set (off - a.sz) u, by rw [List.set_append_right _ _ (by omega), hl1], h1, setCell_rep hc hr hy h2⟩
      · cases hs
    | false =>
      rw [hb] at hs hc
      have hlt : off < a.sz := by
        rcases Nat.lt_or_ge off a.sz with h | h
        · exact h
        · rw [Nat.ble_eq_true_of_le h] at hb; cases hb
      simp only at hs hc
      split at hs
      · rename_i y1 hy
        cases hs
        exact ⟨c1.set off u, c2, by rw [List.set_append_left _ _ (by omega)], setCell_rep hc hr hy h1, h2⟩
      · cases hs
end Go.Vm
namespace Go.Vm
open Go Go.RowKit
set_option linter.unusedVariables false
set_option linter.unusedSimpArgs false
variable {E : Env} {R : Type} {X : Cx} {C : Cc} {s : St} {κ : Out → Option R} {r : R} {orc : Orc E}
theorem rep_zero {w : World} {S : Nat → Prop} (t : Ty) : RepD w S t t.dflt (zeroV t) := (own_zero (S := S) t).rep
theorem RepD.up {w : World} {S S' : Nat → Prop} {t : Ty} {x : t.D} {cs : List Value} (h : RepD w S t x cs) (hs : ∀ b, S b → S' b) : RepD w S' t x cs := h.mono fun b hb o ho => ⟨ho, hs b hb⟩
theorem lbS_up {o : Nat → Option Nat} {l l' : List Lb} (h : ∀ x ∈ l, x ∈ l') : ∀ b, lbS X o l b → lbS X o l' b := fun b hb => hb.elim .inl fun ⟨x, hx, hb⟩ => .inr ⟨x, h x hx, hb⟩
theorem frzDV_rep {hp : Hp} {nx : Nat} (hh : HpOk X C hp nx) {t : Ty} {off : Nat} {v : AV} {u : Value} {d : DV} {ls : List Lb} {ct : Ty} (h : frzDV hp t off v = some (d, ls)) (hct : t.cellTy off = some ct) (hr : RepA X C hp nx v u)
    (hk : ∀ k n, v = .int k n → ∀ k', ct = .int k' → k = k') (hd : (∃ n, d = .int n) → ∃ k, ct = .int k) (hd2 : (∃ n, d = .bool n) → ct = .bool) (hd3 : (∃ n, d = .str n) → ct = .str) (hd4 : ∀ el ys, d = .row el ys → ct = .row el) :
    cellRepF C.w (lbS X C.o ls) ct d u ∧ ∀ l ∈ ls, okL hp nx l := by
  have gen : ∀ {v : AV} {d : DV} {ls : List Lb} {u : Value}, RepA X C hp nx v u → (match boolDV v with | some d => some (d, []) | none => match rowOf hp v with | some r => some (DV.row r.t r.xs, r.ls) | none => none) = some (d, ls) →
      ((∃ n, d = .bool n) → ct = .bool) → (∀ el ys, d = .row el ys → ct = .row el) →
      cellRepF C.w (lbS X C.o ls) ct d u ∧ ∀ l ∈ ls, okL hp nx l := by
    intro v d ls u hr h hd2 hd4
    split at h
    · rename_i d' hb
      simp only [Option.some.injEq, Prod.mk.injEq] at h
      obtain ⟨rfl, rfl⟩ := h
      obtain ⟨b, rfl, hu⟩ := boolDV_rep hb hr
      exact ⟨⟨hd2 ⟨b, rfl⟩, hu⟩, by simp⟩
    · split at h
      · rename_i rr hrr
        simp only [Option.some.injEq, Prod.mk.injEq] at h
        obtain ⟨rfl, rfl⟩ := h
        obtain ⟨h1, h2, h3⟩ := rowOf_rep hh hr hrr
        exact ⟨⟨hd4 _ _ rfl, h1⟩, h2⟩
      · cases h
  cases v with
  | int k n =>
    simp only [frzDV, Option.some.injEq, Prod.mk.injEq] at h
    obtain ⟨rfl, rfl⟩ := h
    simp only [RepA] at hr
    obtain ⟨k', hk'⟩ := hd ⟨n, rfl⟩
    refine ⟨⟨k', hk', ?_⟩, by simp⟩
    rw [hr, hk k n rfl k' hk']
  | str x =>
    simp only [frzDV, Option.some.injEq, Prod.mk.injEq] at h
    obtain ⟨rfl, rfl⟩ := h
    simp only [RepA] at hr
    exact ⟨⟨hd3 ⟨_, rfl⟩, hr⟩, by simp⟩
  | nil =>
    simp only [frzDV, hct] at h
    split at h
    · rename_i el hel
      simp only [Option.some.injEq, Prod.mk.injEq] at h
      obtain ⟨rfl, rfl⟩ := h
      simp only [RepA] at hr
      subst hr
      exact ⟨⟨hd4 el [] rfl, none, 0, rfl, Nat.le_refl _, fun h => absurd h (by simp)⟩, by simp⟩
    · cases h
  | _ => exact gen hr h hd2 hd4
theorem frzCells_rep {hp : Hp} {nx : Nat} (hh : HpOk X C hp nx) : ∀ {vs : List AV} {t : Ty} {S : Nat → Prop} {x y : t.D} {cs us : List Value} {off : Nat} {ls : List Lb}, frzCells hp t x off vs = some (y, ls) → kindOk t off vs = true →
    RepL X C hp nx vs us → RepD C.w S t x cs → RepD C.w (fun b => S b ∨ lbS X C.o ls b) t y (splL cs off us) ∧ (∀ l ∈ ls, okL hp nx l) ∧ (vs = [] ∨ off + us.length ≤ t.sz)
  | [], t, S, x, y, cs, us, off, ls, h, hk, hr, ho => by
    simp only [frzCells, Option.some.injEq, Prod.mk.injEq] at h
    obtain ⟨rfl, rfl⟩ := h
    simp only [RepL] at hr
    subst hr
    rw [splL_nil]
    exact ⟨ho.up fun b hb => .inl hb, by simp, .inl rfl⟩
  | v :: vs, t, S, x, y, cs, us, off, ls, h, hk, hr, ho => by
    simp only [RepL] at hr
    obtain ⟨u, us', rfl, hr1, hr2⟩ := hr
    simp only [frzCells] at h
    split at h
    · rename_i d l1 hd
      split at h
      · rename_i y1 hy1
        split at h
        · rename_i z l2 hz
          simp only [Option.some.injEq, Prod.mk.injEq] at h
          obtain ⟨rfl, rfl⟩ := h
          obtain ⟨ct, hct, hoff, f1, f2, f3, f4⟩ := setCell_fits hy1
          simp only [kindOk, Bool.and_eq_true] at hk
          have hkk : ∀ k n, v = .int k n → ∀ k', ct = .int k' → k = k' := by
            intro k n hv k' hc
            have := hk.1
            rw [hv, hct, hc] at this
            exact kindEq_eq this
          obtain ⟨c1, c2⟩ := frzDV_rep hh hd hct hr1 hkk f1 f2 f3 f4
          have hrep := setCell_rep (S := fun b => S b ∨ lbS X C.o l1 b) hct (by
            cases d with
            | row el ys => exact ⟨c1.1, c1.2.up fun b hb => .inr hb⟩
            | int n => exact c1
            | bool n => exact c1
            | str n => exact c1) hy1 (ho.up fun b hb => .inl hb)
          obtain ⟨g1, g2, g3⟩ := frzCells_rep hh hz hk.2 hr2 hrep
          have hl := ho.len
          have hoffs : off + us'.length + 1 ≤ cs.length := by
            rcases g3 with rfl | g3
            · have := hr2.length
              simp at this
              subst this
              simp; omega
            · omega
          refine ⟨?_, ?_, .inr (by simp only [List.length_cons]; omega)⟩
          · rw [splL_cons hoffs] at g1
            refine g1.up fun b hb => ?_
            rcases hb with (hb | hb) | hb
            · exact .inl hb
            · exact .inr (lbS_up (fun x hx => by simp [hx]) b hb)
            · exact .inr (lbS_up (fun x hx => by simp [hx]) b hb)
          · intro l hl
            exact (List.mem_append.1 hl).elim (c2 l) (g2 l)
        · cases h
      · cases h
    · cases h
theorem frzElems_ok {ti : TI} (hh : HpOk X C s.hp s.nx) : ∀ {l : List (Nat × AV)} {vs : List (Nat × Value)} {k : Nat} {xs : List ti.ty.D} {ls : List Lb}, frzElems ti s k l = some (xs, ls) → RepP X C s.hp s.nx l vs →
    ElemsL ti.ty (fun _ => RepD C.w (lbS X C.o ls) ti.ty) xs (vs.map fun p => p.2.cells.toList).flatten ∧ (∀ l ∈ ls, okL s.hp s.nx l) ∧
    (∀ j p, vs[j]? = some p → p.1 = k + j ∧ p.2.cells.size = ti.ty.sz) ∧ xs.length = l.length
  | [], vs, k, xs, ls, h, hr => by
    simp only [frzElems, Option.some.injEq, Prod.mk.injEq] at h
    obtain ⟨rfl, rfl⟩ := h
    cases hr
    exact ⟨ElemsL.nil, by simp, by simp, rfl⟩
  | (i, a) :: l, vs, k, xs, ls, h, hr => by
    cases hr with
    | cons ha ht =>
      rename_i v rest
      simp only [frzElems] at h
      split at h
      · rename_i hc
        simp only [Bool.and_eq_true] at hc
        obtain ⟨hpl, hik, hlen, hko⟩ := hc
        have hik := Nat.eq_of_beq_eq_true hik
        have hlen := Nat.eq_of_beq_eq_true hlen
        subst hik
        split at h
        · rename_i x l1 hx
          split at h
          · rename_i xs' l2 hxs
            simp only [Option.some.injEq, Prod.mk.injEq] at h
            obtain ⟨rfl, rfl⟩ := h
            have hcells := cells_of ha hpl
            have hcl := hcells.length
            obtain ⟨h1, h2, _⟩ := frzCells_rep hh hx hko hcells (rep_zero (w := C.w) (S := fun _ => False) ti.ty)
            have hzl := (rep_zero (w := C.w) (S := fun _ => False) ti.ty).len
            rw [splL_all (by omega)] at h1
            obtain ⟨g1, g3, g4, g5⟩ := frzElems_ok hh hxs ht
            refine ⟨?_, ?_, ?_, by simp [g5]⟩
            · simp only [List.map_cons, List.flatten_cons]
              exact ElemsL.cons (by omega) (h1.up fun b hb => lbS_up (fun x hx => by simp [hx]) b (hb.resolve_left id)) (g1.mono fun i y cs _ he => he.up fun b hb => lbS_up (fun x hx => by simp [hx]) b hb)
            · intro p hp
              exact (List.mem_append.1 hp).elim (h2 p) (g3 p)
            · intro j p hj
              cases j with
              | zero =>
                simp at hj
                subst hj
                refine ⟨rfl, ?_⟩
                have : v.cells.toList.length = v.cells.size := by simp
                simp only
                omega
              | succ j =>
                simp at hj
                obtain ⟨q1, q2⟩ := g4 j p hj
                exact ⟨by omega, q2⟩
          · cases h
        · cases h
      · cases h
theorem run_lit {P : Program} {w : World} {t e : TypeId} {ti : TI} {len : Nat} {ps : Array (Nat × Value)} (hti : TiOk P e ti) (ht : P.underlying t = some (.slice e)) (hlen : ps.size = len) (hmax : len * ti.ty.sz ≤ 16777216)
    (hps : ∀ j p, ps.toList[j]? = some p → p.1 = 0 + j ∧ p.2.cells.size = ti.ty.sz) :
    ∃ c : Array Value, (Instr.buildSlice t len ps).run P w = .ok (.slice (some ⟨w.heap.size, 0, none⟩) len len) (w.alloc (.cells c e)) ∧ c.toList = (ps.toList.map fun p => p.2.cells.toList).flatten := by
  obtain ⟨z, hz, hzc⟩ := run_zeroValue hti w
  have hne : ¬ (16777216 < len * ti.ty.sz) := by omega
  have hpl : ps.toList.length = len := by simpa using hlen
  by_cases h0 : len * ti.ty.sz = 0
  · obtain ⟨c, h1, h2⟩ := fill_row ti.ty.sz ps.toList 0 ((Array.range (len * ti.ty.sz)).map ((#[] : Array Value)[· % (#[] : Array Value).size]!)) hps (by simp [hpl])
    refine ⟨c, ?_, by simpa using h2⟩
    simp [Instr.buildSlice, run_underlying ht, run_sizeOf hti, hne, h0, newRow]
    simp [h0] at h1
    rw [h1]
    simp
  · obtain ⟨c, h1, h2⟩ := fill_row ti.ty.sz ps.toList 0 ((Array.range (len * ti.ty.sz)).map (z.cells[· % z.cells.size]!)) hps (by simp [hpl])
    refine ⟨c, ?_, by simpa using h2⟩
    simp [Instr.buildSlice, run_underlying ht, run_sizeOf hti, hne, h0, newRow, hz]

    rw [h1]
    simp
theorem lit_sound {ti : TI} {t e : TypeId} {len : Nat} (hti : TiOk X.P e ti) (ht : X.P.underlying t = some (.slice e)) (hh : HpOk X C s.hp s.nx) (hf : Fr X C) {l : List (Nat × AV)} {ps : Array (Nat × Value)} (hp : RepP X C s.hp s.nx l ps.toList)
    (hr : (litOp ti len s l : Tr E Out).run orc κ = some r) : ∃ v' w', (Instr.buildSlice t len ps).run X.P C.w = .ok v' w' ∧ Done X C s κ r v' w' := by
  unfold litOp at hr
  split at hr
  · cases hr
  · rename_i hc
    simp only [Bool.and_eq_true] at hc
    have hl := Nat.eq_of_beq_eq_true hc.1
    have hmax := Nat.le_of_ble_eq_true hc.2
    have hpl := hp.length
    have hsz : ps.size = len := by rw [← hl, ← hpl]; simp
    split at hr
    · rename_i xs e1 hel
      split at hr
      · rename_i hnd
        obtain ⟨⟨f, h1⟩, h2, h3, h4, h5⟩ := elemsOf_ok hh hel hp hnd
        obtain ⟨c, g1, g2⟩ := run_lit (w := C.w) hti ht hsz hmax h4
        refine ⟨_, _, g1, ?_⟩
        have hlt : ∀ p ∈ e1, p.1 < s.nx := fun p hp => by
          obtain ⟨vv, tt, xx, hg⟩ := h3 p hp
          exact hp_lt hh (by rw [hg]; simp)
        obtain ⟨hk, hG⟩ := get?_eff (B := .row 0 ti.ty xs none) h2 hlt
        have hxl : xs.length = len := by omega
        have := new_row (C := C) (t := ti.ty) (xs := xs) (inner := none) (G := idsOf e1) (arr := c) (cap := len) (L := c.toList) (fr := (0, 0)) (w' := C.w.alloc (.cells c e)) (e := e) hh hf ⟨rfl, rfl, rfl⟩ rfl (.inl (Nat.le_refl _)) (by omega)
          (by have h6 := h1.1
              rw [← g2] at h6
              have : c.toList.length = c.size := by simp
              rw [hxl] at h6; omega) ⟨[], by simp⟩ rfl hk (by intro j hj; obtain ⟨p, hp, rfl⟩ := List.mem_map.1 hj; exact hlt p hp) hG (by simp [innerL]) ⟨f, by rw [g2]; exact h1⟩
        rw [hxl] at this
        exact ⟨_, _, rfl, hr, this⟩
      · cases hr
    · split at hr
      · rename_i xs ls hel
        obtain ⟨h1, h2, h4, h5⟩ := frzElems_ok hh hel hp
        obtain ⟨c, g1, g2⟩ := run_lit (w := C.w) hti ht hsz hmax h4
        refine ⟨_, _, g1, ?_⟩
        obtain ⟨hk, hG⟩ := get?_eff (e := []) (nx := s.nx) (B := .row 0 ti.ty xs (some ls)) (by simp [allDead]) (by simp)
        have hxl : xs.length = len := by omega
        have := new_row (C := C) (t := ti.ty) (xs := xs) (inner := some ls) (G := []) (arr := c) (cap := len) (L := c.toList) (fr := (0, 0)) (w' := C.w.alloc (.cells c e)) (e := e) hh hf ⟨rfl, rfl, rfl⟩ rfl (.inl (Nat.le_refl _)) (by omega)
          (by have h6 := h1.1
              rw [← g2] at h6
              have : c.toList.length = c.size := by simp
              rw [hxl] at h6; omega) ⟨[], by simp⟩ rfl hk (by simp) hG h2 (by rw [g2]; exact h1.mono fun i x cs _ he => he.up fun b hb => .inl hb)
        rw [hxl] at this
        exact ⟨_, _, rfl, hr, this⟩
      · cases hr
theorem make_sound {ti : TI} {t e : TypeId} (hti : TiOk X.P e ti) (ht : X.P.underlying t = some (.slice e)) (hh : HpOk X C s.hp s.nx) (hf : Fr X C) {a b : AV} {u v : Value} (ha : RepA X C s.hp s.nx a u) (hb : RepA X C s.hp s.nx b v)
    (hr : (makeOp ti s a b : Tr E Out).run orc κ = some r) : ∃ v' w', (Instr.makeSlice t u v).run X.P C.w = .ok v' w' ∧ Done X C s κ r v' w' := by
  unfold makeOp at hr
  split at hr
  · rename_i n c
    split at hr
    · rename_i hc
      have hby := Nat.le_of_ble_eq_true hc
      obtain ⟨h0, hr⟩ := run_test hr
      obtain ⟨h1, hr⟩ := run_test hr
      obtain ⟨h2, hr⟩ := run_test hr
      simp only [RepA] at ha hb
      subst ha hb
      obtain ⟨i, hi, hisz, hiby, z, hiz, hzc⟩ := hti.info
      have hzsz : z.cells.size = ti.ty.sz := by
        have : z.cells.toList.length = ti.ty.sz := by rw [hzc]; exact (own_zero (w := C.w) (S := fun _ => True) ti.ty).len
        simpa using this
      have hmul : (i.bytes : Int) * c ≤ 281474976710656 := by
        have h3 : (i.bytes : Int) ≤ 1024 := by omega
        have h4 : (i.bytes : Int) * c ≤ 1024 * c := Int.mul_le_mul_of_nonneg_right h3 (by omega)
        omega
      have hrun := run_make (P := X.P) C.w t e i z ht hi hiz .i64 .i64 n c h0 h1 hmul (by omega)
      refine ⟨_, _, hrun, ?_⟩
      obtain ⟨hk, hG⟩ := get?_eff (e := []) (nx := s.nx) (B := .row 0 ti.ty (List.replicate n.toNat ti.ty.dflt) none) (by simp [allDead]) (by simp)
      have hle : n.toNat ≤ c.toNat := by omega
      have hmc : (madeCells z.cells (c.toNat * i.size)).size = c.toNat * ti.ty.sz := by rw [size_madeCells, hisz]
      have hsz := ti.ty.sz_pos
      have hget : ∀ p, p < c.toNat * ti.ty.sz → (madeCells z.cells (c.toNat * i.size))[p]? = (zeroV ti.ty)[p % ti.ty.sz]? := by
        intro p hp
        have hpm : p % ti.ty.sz < z.cells.size := by rw [hzsz]; exact Nat.mod_lt _ hsz
        have e0 : (madeCells z.cells (c.toNat * i.size))[p]? = some (z.cells[p % z.cells.size]!) := by
          simp [madeCells, Array.getElem?_map, Array.getElem?_range, hisz, hp]
        rw [e0, hzsz, ← hzc, Array.getElem?_toList, Array.getElem?_eq_getElem hpm, getElem!_pos z.cells (p % ti.ty.sz) hpm]
      have := new_row (C := C) (t := ti.ty) (xs := List.replicate n.toNat ti.ty.dflt) (inner := none) (G := []) (arr := madeCells z.cells (c.toNat * i.size)) (cap := c.toNat) (L := ((madeCells z.cells (c.toNat * i.size)).toList.take (n.toNat * ti.ty.sz))) (fr := (0, 0)) (w' := C.w.alloc (.cells (madeCells z.cells (c.toNat * i.size)) e)) (e := e) hh hf ⟨rfl, rfl, rfl⟩ rfl (.inl (Nat.le_refl _)) (by simpa using hle)
          (by rw [hmc]; exact Nat.le_refl _) ⟨_, (List.take_append_drop _ _).symm⟩ rfl hk (by simp) hG (by simp [innerL]) ⟨fun _ => 0, by
            have h5 := Nat.mul_le_mul_right ti.ty.sz hle
            refine ⟨by rw [List.length_take, List.length_replicate]; simp only [Array.length_toList]; rw [hmc]; omega, fun q x hx => ?_⟩
            have hq : q < n.toNat := by have := (List.getElem?_eq_some_iff.1 hx).1; simpa using this
            have hx2 : x = ti.ty.dflt := by
              rw [List.getElem?_replicate, if_pos hq] at hx
              exact (Option.some.inj hx).symm
            subst hx2
            have h6 := Nat.mul_le_mul_right ti.ty.sz (show q + 1 ≤ n.toNat by omega)
            rw [Nat.add_mul, Nat.one_mul] at h6
            have e2 : (((madeCells z.cells (c.toNat * i.size)).toList.take (n.toNat * ti.ty.sz)).drop (q * ti.ty.sz)).take ti.ty.sz = zeroV ti.ty := by
              apply List.ext_getElem?
              intro p
              have hzl : (zeroV ti.ty).length = ti.ty.sz := (own_zero (w := C.w) (S := fun _ => True) ti.ty).len
              by_cases hp : p < ti.ty.sz
              · rw [List.getElem?_take, if_pos hp, List.getElem?_drop, List.getElem?_take, if_pos (by omega), Array.getElem?_toList, hget _ (by omega)]
                rw [Nat.mul_comm q, Nat.mul_add_mod, Nat.mod_eq_of_lt hp]
              · rw [List.getElem?_take, if_neg hp, List.getElem?_eq_none (by omega)]
            rw [e2]
            exact own_zero ti.ty⟩
      simp only [List.length_replicate] at this
      exact ⟨_, _, rfl, hr, this⟩
    · cases hr
  · cases hr
end Go.Vm
namespace Go.Vm
open Go Go.RowKit
set_option linter.unusedVariables false
set_option linter.unusedSimpArgs false
variable {E : Env} {R : Type} {X : Cx} {C : Cc} {s : St} {κ : Out → Option R} {r : R} {orc : Orc E}
theorem slice_kind {P : Program} {t : TypeId} {ti : TI} (h : TiOk P t ti) (hr : isRow ti.ty = true) (ha : ti.agg = false) : ∃ e, P.underlying t = some (.slice e) := by
  obtain ⟨d, hd, hk⟩ := h.kind
  rw [ha] at hk
  cases d <;> simp only [kindFits] at hk <;> first
    | exact hk.elim
    | exact ⟨_, hd⟩
    | (exfalso; rw [hk.2] at hr; simp [isRow] at hr; done)
    | (exfalso; cases hk; done)
theorem str_kind {P : Program} {t : TypeId} {ti : TI} (h : TiOk P t ti) (hr : isStr ti.ty = true) (ha : ti.agg = false) : P.underlying t = some .string := by
  obtain ⟨d, hd, hk⟩ := h.kind
  rw [ha] at hk
  cases d <;> simp only [kindFits] at hk <;> first
    | exact hk.elim
    | exact hd
    | (exfalso; rw [hk.2] at hr; simp [isStr] at hr; done)
    | (exfalso; obtain ⟨_, el, hk⟩ := hk; rw [hk] at hr; simp [isStr] at hr; done)
    | (exfalso; cases hk; done)
theorem len_sound {t ty : TypeId} {ti : TI} (hti : TiOk X.P t ti) (hh : HpOk X C s.hp s.nx) (hf : Fr X C) {a : AV} {v : Value} (ha : RepA X C s.hp s.nx a v) (hr : (lenOp ti s a : Tr E Out).run orc κ = some r) :
    ∃ u, (Builtin.len_ #[t] ty #[v]).run X.P C.w = .ok u C.w ∧ Done X C s κ r u C.w := by
  have gen : ∀ {a : AV} {v : Value}, RepA X C s.hp s.nx a v → (isRow ti.ty && !ti.agg) = true → ∀ {rr : RowV}, rowOf s.hp a = some rr → κ ⟨.int .i64 (rr.xs.length : Int), [], s.nx⟩ = some r →
      ∃ u, (Builtin.len_ #[t] ty #[v]).run X.P C.w = .ok u C.w ∧ Done X C s κ r u C.w := by
    intro a v ha hc rr hrr hr
    simp only [Bool.and_eq_true, Bool.not_eq_true'] at hc
    obtain ⟨e, he⟩ := slice_kind hti hc.1 hc.2
    obtain ⟨h1, _, _⟩ := rowOf_rep hh ha hrr
    obtain ⟨A, cap, hv, _⟩ := h1
    have hv : v = .slice A rr.xs.length cap := by simpa using hv
    refine ⟨.int .i64 rr.xs.length, ?_, Done.pure hh hf hr (by simp only [RepA])⟩
    rw [hv]
    simp [Builtin.len_, run_underlying he, goInt]
  cases a with
  | nil =>
    simp only [lenOp] at hr
    split at hr
    · rename_i hc
      simp only [Bool.and_eq_true, Bool.not_eq_true'] at hc
      obtain ⟨e, he⟩ := slice_kind hti hc.1 hc.2
      simp only [RepA] at ha
      subst ha
      refine ⟨.int .i64 0, ?_, Done.pure hh hf hr (by simp only [RepA])⟩
      simp [Builtin.len_, run_underlying he, goInt]
    · cases hr
  | str x =>
    simp only [lenOp] at hr
    split at hr
    · rename_i hc
      simp only [Bool.and_eq_true, Bool.not_eq_true'] at hc
      have he := str_kind hti hc.1 hc.2
      simp only [RepA] at ha
      subst ha
      exact ⟨.int .i64 x.size, run_len_string _ _ _ _ he, Done.pure hh hf hr (by simp only [RepA])⟩
    · cases hr
  | own id =>
    simp only [lenOp] at hr
    split at hr
    · rename_i hc
      split at hr
      · rename_i v0 t xs inner hg
        simp only [Bool.and_eq_true, Bool.not_eq_true'] at hc
        obtain ⟨e, he⟩ := slice_kind hti hc.1 hc.2
        simp only [RepA] at ha
        have hk := hh id
        rw [hg] at hk
        obtain ⟨_, _, ⟨A, cap, hA⟩, _⟩ := hk
        have hv : v = .slice A xs.length cap := (ha.2.2 _ _ _ _ hg).trans hA
        refine ⟨.int .i64 xs.length, ?_, Done.pure hh hf hr (by simp only [RepA])⟩
        rw [hv]
        simp [Builtin.len_, run_underlying he, goInt]
      · cases hr
    · cases hr
  | _ =>
    simp only [lenOp] at hr
    split at hr
    · rename_i hc
      split at hr
      · rename_i rr hrr
        exact gen ha hc hrr hr
      · cases hr
    · cases hr
theorem cut_get {α : Type} {xs : List α} {l h : Int} {i : Nat} {x : α} (hx : (cut xs l h)[i]? = some x) : xs[l.toNat + i]? = some x := by
  unfold cut at hx
  rw [List.getElem?_drop, List.getElem?_take] at hx
  split at hx
  · exact hx
  · cases hx
theorem cut_length {α : Type} {xs : List α} {l h : Int} (h1 : l ≤ h) (h0 : 0 ≤ l) (h2 : h ≤ (xs.length : Int)) : (cut xs l h).length = h.toNat - l.toNat := by
  unfold cut
  rw [List.length_drop, List.length_take]; omega
theorem RepD.cutR {w : World} {S : Nat → Prop} {t : Ty} {xs : List t.D} {A : Option Addr} {n cap : Nat} {l h : Int} (h0 : 0 ≤ l) (h1 : l ≤ h) (h2 : h ≤ (xs.length : Int)) (hr : RepD w S (.row t) xs [.slice A n cap]) :
    RepD w S (.row t) (cut xs l h) [sliced A l.toNat h.toNat cap t.sz] := by
  obtain ⟨A', cap', hv, hle, hb⟩ := hr
  simp only [List.cons.injEq, Value.slice.injEq, and_true] at hv
  obtain ⟨rfl, rfl, rfl⟩ := hv
  have hl := cut_length h1 h0 h2
  refine ⟨_, cap - l.toNat, by simp only [sliced]; rw [hl], by omega, fun hp => ?_⟩
  have hpos : 0 < xs.length := by omega
  obtain ⟨b, off, arr, e, fr, rfl, hS, hw, hsz, hel⟩ := hb hpos
  clear hb
  have h5 := Nat.mul_le_mul_right t.sz (show l.toNat + (cut xs l h).length ≤ xs.length by omega)
  rw [Nat.add_mul] at h5
  refine ⟨b, off + l.toNat * t.sz, arr, e, fr, ?_, hS, hw, by omega, fun i x hx => ?_⟩
  · rw [if_neg (by omega)]
    simp [add_lit]
  · have := hel _ x (cut_get hx)
    rw [Nat.add_mul, ← Nat.add_assoc] at this
    exact this
theorem RowR.cutR {w : World} {S : Nat → Prop} {t : Ty} {EP EP' : Nat → Nat → t.D → List Value → Prop} {xs : List t.D} {A : Option Addr} {n cap : Nat} {l h : Int} (h0 : 0 ≤ l) (h1 : l ≤ h) (h2 : h ≤ (xs.length : Int))
    (hE : ∀ b i x cs, EP b (l.toNat + i) x cs → EP' b i x cs) (hr : RowR w S t EP xs (.slice A n cap)) : RowR w S t EP' (cut xs l h) (sliced A l.toNat h.toNat cap t.sz) := by
  obtain ⟨A', cap', hv, hle, hb⟩ := hr
  simp only [Value.slice.injEq] at hv
  obtain ⟨rfl, rfl, rfl⟩ := hv
  have hl := cut_length h1 h0 h2
  refine ⟨_, cap - l.toNat, by simp only [sliced]; rw [hl], by omega, fun hp => ?_⟩
  have hpos : 0 < cap := by omega
  obtain ⟨b, off, arr, e, fr, rfl, hS, hw, hfr, hsz, hel⟩ := hb hpos
  clear hb
  have h5 := Nat.mul_le_mul_right t.sz (show l.toNat + (cap - l.toNat) ≤ cap by omega)
  rw [Nat.add_mul] at h5
  refine ⟨b, off + l.toNat * t.sz, arr, e, fr, ?_, hS, hw, hfr, by omega, fun i x hx => ?_⟩
  · rw [if_neg (by omega)]
    simp [add_lit]
  · have := hel _ x (cut_get hx)
    rw [Nat.add_mul, ← Nat.add_assoc] at this
    exact hE _ _ _ _ this
theorem innerOwn_cut {j : Nat} {t : Ty} {xs : List t.D} {A : Option Addr} {n cap : Nat} {l h : Int} {inner : Option (List Lb)} (h0 : 0 ≤ l) (h1 : l ≤ h) (h2 : h ≤ (xs.length : Int)) (hr : innerOwn X C j inner xs (.slice A n cap)) :
    innerOwn X C j inner (cut xs l h) (sliced A l.toNat h.toNat cap t.sz) := by
  cases inner with
  | none =>
    obtain ⟨v, f, hv, hr⟩ := hr
    have : Value.slice A n cap = v := by simpa using hv
    subst this
    refine ⟨_, fun k => f k - l.toNat, rfl, hr.cutR h0 h1 h2 fun b i x cs he => he.mono fun k hk o ho => ⟨ho, hk.1, hk.2.1, ?_⟩⟩
    dsimp only
    rw [hk.2.2]; omega
  | some ls => exact RowR.cutR h0 h1 h2 (fun b i x cs he => he) hr
def OptRep (X : Cx) (C : Cc) (hp : Hp) (nx : Nat) : Option AV → Option Value → Prop
  | none, none => True
  | some a, some v => RepA X C hp nx a v
  | _, _ => False
theorem bnd_rep {hp : Hp} {nx : Nat} {lo : Option AV} {vlo : Option Value} {l : Option Int} (hl : bndOp lo = some l) (hr : OptRep X C hp nx lo vlo) :
    (l = none ∧ vlo = none) ∨ ∃ n k, l = some n ∧ vlo = some (.int k n) := by
  cases lo with
  | none =>
    cases vlo with
    | none => simp only [bndOp, Option.some.injEq] at hl; exact .inl ⟨hl.symm, rfl⟩
    | some v => exact hr.elim
  | some a =>
    cases vlo with
    | none => exact hr.elim
    | some v =>
      cases a with
      | int k n =>
        simp only [bndOp, Option.some.injEq] at hl
        simp only [OptRep, RepA] at hr
        exact .inr ⟨n, k, hl.symm, by rw [hr]⟩
      | _ => simp [bndOp] at hl
/-- A cut of a slice, as the machine makes it. -/
theorem run_cut {P : Program} {w : World} {t e : TypeId} {ti : TI} (ht : P.underlying t = some (.slice e)) (hti : TiOk P e ti) {A : Option Addr} {n cap : Nat} (hle : n ≤ cap) {lo hi : Option Int} {vlo vhi : Option Value}
    (hlo : (lo = none ∧ vlo = none) ∨ ∃ n k, lo = some n ∧ vlo = some (.int k n)) (hhi : (hi = none ∧ vhi = none) ∨ ∃ n k, hi = some n ∧ vhi = some (.int k n)) {K : Int → Int → Tr E Out}
    (hr : (cutOp lo hi (n : Int) K).run orc κ = some r) : ∃ l h : Int, 0 ≤ l ∧ l ≤ h ∧ h ≤ (n : Int) ∧ (K l h).run orc κ = some r ∧ (Instr.sliceAt t (.slice A n cap) vlo vhi none).run P w = .ok (sliced A l.toNat h.toNat cap ti.ty.sz) w := by
  have hel : P.elem t = e := by simp [Program.elem, ht]
  have ht' : P.underlying t = some (.slice (P.elem t)) := by rw [hel]; exact ht
  have hsz := run_sizeOf hti w
  rcases hlo with ⟨rfl, rfl⟩ | ⟨l, kl, rfl, rfl⟩ <;> rcases hhi with ⟨rfl, rfl⟩ | ⟨h, kh, rfl, rfl⟩
  · refine ⟨0, n, Int.le_refl _, by omega, Int.le_refl _, hr, ?_⟩
    rw [run_sliceAt_slice w t _ _ _ _ ht', run_slice_all w t A n cap ht', hel, hsz]
    simp
  · obtain ⟨h1, hr⟩ := run_test hr
    obtain ⟨h2, hr⟩ := run_test hr
    refine ⟨0, h, Int.le_refl _, h1, h2, hr, ?_⟩
    rw [run_sliceAt_slice w t _ _ _ _ ht', run_slice_h w t A n cap ht' kh h h1 (by omega), hel, hsz]
    simp
  · obtain ⟨h1, hr⟩ := run_test hr
    obtain ⟨h2, hr⟩ := run_test hr
    refine ⟨l, n, h1, h2, Int.le_refl _, hr, ?_⟩
    rw [run_sliceAt_slice w t _ _ _ _ ht', run_slice_l w t A n cap ht' kl l h1 h2, hel, hsz]
    simp
  · obtain ⟨h1, hr⟩ := run_test hr
    obtain ⟨h2, hr⟩ := run_test hr
    obtain ⟨h3, hr⟩ := run_test hr
    refine ⟨l, h, h1, h2, h3, hr, ?_⟩
    rw [run_sliceAt_slice w t _ _ _ _ ht', run_slice_lh w t A n cap ht' kl kh l h h1 h2 (by omega), hel, hsz]
    simp
theorem slice_sound {t e : TypeId} {ti : TI} (hti : TiOk X.P e ti) (ht : X.P.underlying t = some (.slice e)) (hh : HpOk X C s.hp s.nx) (hf : Fr X C) {a : AV} {v : Value} (ha : RepA X C s.hp s.nx a v) {lo hi : Option AV} {vlo vhi : Option Value}
    (hlo : OptRep X C s.hp s.nx lo vlo) (hhi : OptRep X C s.hp s.nx hi vhi)
    (hr : (sliceOp ti s a lo hi : Tr E Out).run orc κ = some r) : ∃ u, (Instr.sliceAt t v vlo vhi none).run X.P C.w = .ok u C.w ∧ Done X C s κ r u C.w := by
  unfold sliceOp at hr
  split at hr
  · rename_i lo' hi' hl1 hl2
    have hlo' := bnd_rep hl1 hlo
    have hhi' := bnd_rep hl2 hhi
    have gen : ∀ {a : AV} {v : Value}, RepA X C s.hp s.nx a v → ∀ {rr : RowV}, rowOf s.hp a = some rr → rr.t.beq ti.ty = true → (cutOp lo' hi' (rr.xs.length : Int) fun l h => ret (.lst rr.t (cut rr.xs l h) rr.ls) s : Tr E Out).run orc κ = some r →
        ∃ u, (Instr.sliceAt t v vlo vhi none).run X.P C.w = .ok u C.w ∧ Done X C s κ r u C.w := by
      intro a v ha rr hrr hb hr
      obtain ⟨h1, h2, h3⟩ := rowOf_rep hh ha hrr
      obtain ⟨T, xs, ls⟩ := rr
      simp only at hb h1 h2 h3 hr
      have hT := Ty.beq_eq hb
      subst hT
      have h1' := h1
      obtain ⟨A, cap, hv, hle, _⟩ := h1'
      have hv : v = .slice A xs.length cap := by simpa using hv
      subst hv
      obtain ⟨l, h, g0, g1, g2, g3, g4⟩ := run_cut (w := C.w) ht hti (A := A) hle hlo' hhi' hr
      refine ⟨_, g4, Done.pure hh hf (run_ret g3) ?_⟩
      simp only [RepA]
      exact ⟨h2, rfl, fun _ => h1.cutR g0 g1 g2⟩
    split at hr
    · rename_i id
      split at hr
      · -- the whole
        have hv := ha
        simp only [RepA] at ha
        rcases hlo' with ⟨_, rfl⟩ | ⟨n, k, h, _⟩
        · rcases hhi' with ⟨_, rfl⟩ | ⟨n, k, h, _⟩
          · have hel : X.P.elem t = e := by simp [Program.elem, ht]
            have ht' : X.P.underlying t = some (.slice (X.P.elem t)) := by rw [hel]; exact ht
            split at hr
            · rename_i x1 ver T xs inner hg
              have hk := hh id
              rw [hg] at hk
              obtain ⟨hid, _, ⟨A, cap, hs⟩, _⟩ := hk
              have hv2 := ha.2.2 _ _ _ _ hg
              rw [hs] at hv2
              subst hv2
              refine ⟨.slice A xs.length cap, ?_, Done.pure hh hf (run_ret hr) hv⟩
              rw [run_sliceAt_slice C.w t _ _ _ _ ht', run_slice_all C.w t A _ cap ht', hel, run_sizeOf hti]
              simp [sliced]
              intro _
              cases A <;> simp [Addr.add]
            · cases hr
          · cases h
        · cases h
      · split at hr
        · rename_i rr x1 ver T xs inner hrr hg
          split at hr
          · rename_i hb
            have hT := Ty.beq_eq hb
            subst hT
            have hk := hh id
            rw [hg] at hk
            obtain ⟨hid, hown, ⟨A, cap, hs⟩, hin⟩ := hk
            simp only [RepA] at ha
            have hv2 := ha.2.2 _ _ _ _ hg
            rw [hs] at hv2
            subst hv2
            have hlv : lvs s.hp (innerL inner) = true := by
              simp only [rowOf, hg] at hrr
              split at hrr
              · assumption
              · cases hrr
            have hown := hown hlv
            rw [hs] at hown
            have hle : xs.length ≤ cap := by
              cases inner with
              | none =>
                obtain ⟨v, f, hv, A', cap', hv', hle, _⟩ := hown
                have : Value.slice A xs.length cap = v := by simpa using hv
                rw [← this] at hv'
                simp only [Value.slice.injEq] at hv'
                omega
              | some ls =>
                obtain ⟨A', cap', hv', hle, _⟩ := hown
                simp only [Value.slice.injEq] at hv'
                omega
            obtain ⟨l, h, g0, g1, g2, g3, g4⟩ := run_cut (w := C.w) ht hti (A := A) hle hlo' hhi' hr
            refine ⟨_, g4, Done.pure hh hf (run_ret g3) ?_⟩
            simp only [RepA]
            refine ⟨⟨hid, fun v t xs i e => by rw [hg] at e; cases e; exact Nat.le_refl _⟩, rfl, fun u us inner' e hl => ?_⟩
            rw [hg] at e
            cases e
            exact ⟨rfl, innerOwn_cut g0 g1 g2 hown⟩
          · cases hr
        · cases hr
    · split at hr
      · rename_i rr hrr
        split at hr
        · rename_i hb
          exact gen ha hrr hb hr
        · cases hr
      · cases hr
  · cases hr
end Go.Vm
namespace Go.Vm
open Go Go.RowKit
set_option linter.unusedVariables false
set_option linter.unusedSimpArgs false
variable {E : Env} {R : Type} {X : Cx} {C : Cc} {s : St} {κ : Out → Option R} {r : R} {orc : Orc E}
theorem run_index {P : Program} {w : World} {t e : TypeId} {ti : TI} (ht : P.underlying t = some (.slice e)) (hti : TiOk P e ti) {b off len cap : Nat} {k : IntKind} {n : Int} (h0 : 0 ≤ n) (h1 : n < (len : Int)) :
    (Instr.indexAt t (.slice (some ⟨b, off, none⟩) len cap) (.int k n)).run P w = .ok (.pointer (some ⟨b, off + n.toNat * ti.ty.sz, none⟩)) w := by
  have hh : 0 ≤ n ∧ n < (len : Int) := ⟨h0, h1⟩
  simp [Instr.indexAt, asIntOf, run_underlying ht, run_sizeOf hti, hh, add_lit]
theorem index_sound {t e : TypeId} {ti : TI} (hti : TiOk X.P e ti) (ht : X.P.underlying t = some (.slice e)) (hh : HpOk X C s.hp s.nx) (hf : Fr X C) {a i : AV} {v vi : Value} (ha : RepA X C s.hp s.nx a v) (hi : RepA X C s.hp s.nx i vi)
    (hr : (indexOp ti s a i : Tr E Out).run orc κ = some r) : ∃ u, (Instr.indexAt t v vi).run X.P C.w = .ok u C.w ∧ Done X C s κ r u C.w := by
  unfold indexOp at hr
  split at hr
  · rename_i k n
    simp only [RepA] at hi
    subst hi
    split at hr
    · rename_i id
      split at hr
      · rename_i ver T xs inner hg
        split at hr
        · rename_i hb
          simp only [Bool.and_eq_true] at hb
          have hT := Ty.beq_eq hb.1
          subst hT
          obtain ⟨h0, hr⟩ := run_test hr
          obtain ⟨h1, hr⟩ := run_test hr
          have hk := hh id
          rw [hg] at hk
          obtain ⟨hid, hown, ⟨A, cap, hs⟩, hin⟩ := hk
          simp only [RepA] at ha
          have hv := ha.2.2 _ _ _ _ hg
          rw [hs] at hv
          subst hv
          have hown := hown hb.2
          rw [hs] at hown
          obtain ⟨A', cap', hv', hle, hrow⟩ : ∃ A' cap', Value.slice A xs.length cap = .slice A' xs.length cap' ∧ xs.length ≤ cap' ∧ (0 < cap' → ∃ b off, A' = some ⟨b, off, none⟩) := by
            cases inner with
            | none =>
              obtain ⟨v, f, hv, A', cap', hv', hle, hb⟩ := hown
              have : Value.slice A xs.length cap = v := by simpa using hv
              refine ⟨A', cap', by rw [this]; exact hv', hle, fun hp => ?_⟩
              obtain ⟨b, off, arr, e, fr, hA, _⟩ := hb hp
              exact ⟨b, off, hA⟩
            | some ls =>
              obtain ⟨A', cap', hv', hle, hb⟩ := hown
              refine ⟨A', cap', hv', hle, fun hp => ?_⟩
              obtain ⟨b, off, arr, e, fr, hA, _⟩ := hb hp
              exact ⟨b, off, hA⟩
          have hpos : 0 < cap' := by omega
          obtain ⟨b, off, rfl⟩ := hrow hpos
          clear hrow
          simp only [Value.slice.injEq] at hv'
          obtain ⟨rfl, _, rfl⟩ := hv'
          refine ⟨_, run_index ht hti h0 h1, Done.pure hh hf (run_ret hr) ?_⟩
          simp only [RepA]
          refine ⟨hid, rfl, fun ver' t' xs' inner' e => ?_⟩
          rw [hg] at e
          cases e
          exact ⟨h0, by omega, b, off, _, _, hs, by simp⟩
        · cases hr
      · cases hr
    · split at hr
      · rename_i rr hrr
        split at hr
        · rename_i hb
          obtain ⟨g1, g2, g3⟩ := rowOf_rep hh ha hrr
          obtain ⟨T, xs, ls⟩ := rr
          simp only at hb g1 g2 g3 hr
          have hT := Ty.beq_eq hb
          subst hT
          obtain ⟨h0, hr⟩ := run_test hr
          obtain ⟨h1, hr⟩ := run_test hr
          obtain ⟨A, cap, hv, hle, hrow⟩ := g1
          have hv : v = .slice A xs.length cap := by simpa using hv
          subst hv
          obtain ⟨b, off, arr, eT, fr, rfl, hS, hw, hsz, hel⟩ := hrow (by omega)
          refine ⟨_, run_index ht hti h0 h1, Done.pure hh hf (run_ret hr) ?_⟩
          have hil : n.toNat < xs.length := by omega
          have h5 := Nat.mul_le_mul_right ti.ty.sz (show n.toNat + 1 ≤ xs.length by omega)
          rw [Nat.add_mul, Nat.one_mul] at h5
          simp only [RepA]
          refine ⟨g2, rfl, fun _ => ⟨b, off + n.toNat * ti.ty.sz, arr, eT, fr, by simp, hS, hw, by omega, hel _ _ (rd_get hil)⟩⟩
        · cases hr
      · cases hr
  · cases hr
theorem ty_of_kind {P : Program} {t : TypeId} {ti : TI} (h : TiOk P t ti) (ha : ti.agg = false) :
    (∀ k, ti.ty = .int k → P.underlying t = some (.int k)) ∧ (ti.ty = .bool → P.underlying t = some .bool) ∧ (ti.ty = .str → P.underlying t = some .string) ∧ (∀ el, ti.ty = .row el → ∃ e, P.underlying t = some (.slice e)) := by
  obtain ⟨d, hd, hk⟩ := h.kind
  rw [ha] at hk
  cases d <;> simp only [kindFits] at hk <;> first
    | exact hk.elim
    | (exact absurd hk (by decide))
    | (obtain ⟨_, hk⟩ := hk
       first
         | (obtain ⟨el, hk⟩ := hk
            refine ⟨fun k h => ?_, fun h => ?_, fun h => ?_, fun el' h => ⟨_, hd⟩⟩ <;> (rw [hk] at h; cases h))
         | (refine ⟨fun k h => ?_, fun h => ?_, fun h => ?_, fun el h => ?_⟩ <;> (rw [hk] at h; first | (cases h; done) | (cases h; exact hd) | exact hd)))
theorem strIndex_sound {t : TypeId} {ty : Ty} {by_ : Nat} (hti : TiOk X.P t ⟨false, .str, by_⟩) (hh : HpOk X C s.hp s.nx) (hf : Fr X C) {b : ByteArray} {k : IntKind} {n : Int}
    (hr : (.test (0 ≤ n) inferInstance (.test (n < (b.size : Int)) inferInstance (ret (.int .u8 (bt b n)) s)) : Tr E Out).run orc κ = some r) :
    ∃ u, (Instr.index t (.string b) (.int k n)).run X.P C.w = .ok u C.w ∧ Done X C s κ r u C.w := by
  obtain ⟨h0, hr⟩ := run_test hr
  obtain ⟨h1, hr⟩ := run_test hr
  have hs := (ty_of_kind hti rfl).2.2.1 rfl
  refine ⟨.int .u8 (bt b n), ?_, Done.pure hh hf (run_ret hr) (by simp only [RepA])⟩
  rw [run_index_string C.w t b k n hs, dif_pos ⟨h0, h1⟩]
  congr 2
  unfold bt
  have h2 : n.toNat < b.data.size := by have : b.data.size = b.size := rfl; omega
  rw [Array.getD_eq_getD_getElem?, Array.getElem?_eq_getElem h2]
  rfl
theorem piece_rep {ti : TI} {L : List AV} {arr : Array Value} {off : Nat} {v : AV} {t : TypeId} (hti : TiOk X.P t ti) (hL : RepL X C s.hp s.nx L arr.toList) (hb : off + ti.ty.sz ≤ L.length) (hp : pieceOf ti L off = some v) :
    ∃ u, (part t arr off).run X.P C.w = .ok u C.w ∧ RepA X C s.hp s.nx v u := by
  have hlen := hL.length
  unfold pieceOf at hp
  split at hp
  · rename_i hag
    cases hp
    refine ⟨.agg (arr.extract off (off + ti.ty.sz)), by simp [part, run_isAgg hti, hag, run_sizeOf hti], ?_⟩
    simp only [RepA]
    refine ⟨_, rfl, ?_⟩
    have := (hL.drop off).take ti.ty.sz
    rw [Array.toList_extract, List.extract_eq_take_drop]
    rw [Nat.add_sub_cancel_left]
    exact this
  · rename_i hag
    obtain ⟨u, hu, hr⟩ := hL.get hp
    refine ⟨u, ?_, hr⟩
    rw [Array.getElem?_toList] at hu
    simp [part, run_isAgg hti, hag, hu]
theorem fieldAt_sound {t : TypeId} {fl : List (Nat × Nat)} {fs : Array Field} (hfs : X.P.underlying t = some (.struct fs)) (hok : fldsOk X.P fs fl) (hh : HpOk X C s.hp s.nx) (hf : Fr X C) {f : Nat} {a : AV} {v : Value} (ha : RepA X C s.hp s.nx a v)
    (hr : (fieldAt fl f s a : Tr E Out).run orc κ = some r) : ∃ u, (Instr.fieldAt t v f).run X.P C.w = .ok u C.w ∧ Done X C s κ r u C.w := by
  have go : ∀ {o ft : Nat} {b off : Nat}, fl[f]? = some (o, ft) → (Instr.fieldAt t (.pointer (some ⟨b, off, none⟩)) f).run X.P C.w = .ok (.pointer (some ⟨b, off + o, none⟩)) C.w := by
    intro o ft b off h
    obtain ⟨fd, j, h1, h2, h3, h4, h5, _⟩ := hok.2 f o ft h
    subst h2 h3
    simp [Instr.fieldAt, run_underlying hfs, h1, Instr.sureAddr, fieldPlace, sizeOf, typeInfo, h4, h5, add_lit]
  unfold fieldAt at hr
  split at hr
  · rename_i id off
    split at hr
    · rename_i o ft l ho hl
      have ha' := ha
      simp only [RepA] at ha
      obtain ⟨b, h1, rfl⟩ := ha.2.2 l hl
      refine ⟨_, go ho, Done.pure hh hf (run_ret hr) ?_⟩
      simp only [RepA]
      exact ⟨ha.1, rfl, fun l _ => ⟨b, h1, rfl⟩⟩
    · cases hr
  · rename_i id i off
    split at hr
    · rename_i o ft ver T xs inner ho hg
      simp only [RepA] at ha
      obtain ⟨h0, h1, b, ao, len, cap, h2, rfl⟩ := ha.2.2 _ _ _ _ hg
      refine ⟨_, go ho, Done.pure hh hf (run_ret hr) ?_⟩
      simp only [RepA]
      refine ⟨ha.1, rfl, fun ver' t' xs' inner' e => ?_⟩
      rw [hg] at e
      cases e
      exact ⟨h0, h1, b, ao, len, cap, h2, by congr 3; omega⟩
    · cases hr
  · rename_i T x off ls
    split at hr
    · rename_i o ft ho hl
      simp only [RepA] at ha
      obtain ⟨b, ao, arr, e, fr, rfl, h1, h2, h3, h4⟩ := ha.2.2 hl
      refine ⟨_, go ho, Done.pure hh hf (run_ret hr) ?_⟩
      simp only [RepA]
      exact ⟨ha.1, rfl, fun _ => ⟨b, ao, arr, e, fr, by congr 3; omega, h1, h2, h3, h4⟩⟩
    · cases hr
  · cases hr
theorem fieldOf_sound (hE : EnvOk E X.P) {t : TypeId} {fl : List (Nat × Nat)} {fs : Array Field} (hfs : X.P.underlying t = some (.struct fs)) (hok : fldsOk X.P fs fl) (hh : HpOk X C s.hp s.nx) (hf : Fr X C) {f : Nat} {a : AV} {v : Value} (ha : RepA X C s.hp s.nx a v)
    (hr : (fieldOf fl f s a : Tr E Out).run orc κ = some r) : ∃ u, (Instr.field t v f).run X.P C.w = .ok u C.w ∧ Done X C s κ r u C.w := by
  unfold fieldOf at hr
  split at hr
  · rename_i l
    simp only [RepA] at ha
    obtain ⟨arr, rfl, hl⟩ := ha
    split at hr
    · rename_i o ft ho
      split at hr
      · rename_i ti hti
        split at hr
        · rename_i hb
          have hb := Nat.le_of_ble_eq_true hb
          split at hr
          · rename_i av hp
            obtain ⟨fd, j, h1, h2, h3, h4, h5, _⟩ := hok.2 f o ft ho
            subst h2 h3
            obtain ⟨u, g1, g2⟩ := piece_rep (hE.ti _ _ hti) hl hb hp
            refine ⟨u, ?_, Done.pure hh hf (run_ret hr) g2⟩
            simp [Instr.field, run_underlying hfs, h1, asAgg, g1]
          · cases hr
        · cases hr
      · cases hr
    · cases hr
  · cases hr
end Go.Vm
namespace Go.Vm
open Go Go.RowKit
set_option linter.unusedVariables false
set_option linter.unusedSimpArgs false
variable {E : Env} {R : Type} {X : Cx} {C : Cc} {s : St} {κ : Out → Option R} {r : R} {orc : Orc E}
theorem bits_sound {op : BinOp} {k : IntKind} {a b : Int} (h : op = .and ∨ op = .or ∨ op = .xor ∨ op = .andNot) : Op.intBits op k a b = pure (.int k (bitsOf op k a b)) := by
  rcases h with rfl | rfl | rfl | rfl <;> rfl
theorem binInt_sound {op : BinOp} {t : TypeId} {k : IntKind} {a b : Int} (hns : isShift op = false) (hh : HpOk X C s.hp s.nx) (hf : Fr X C) (hr : (binInt op k a b s : Tr E Out).run orc κ = some r) :
    ∃ u, (binOp op t (.int k a) (.int k b)).run X.P C.w = .ok u C.w ∧ Done X C s κ r u C.w := by
  cases op <;> simp only [binInt] at hr <;> simp only [isShift, reduceCtorEq] at hns
  case add => exact ⟨.int k (k.wrap (a + b)), by simp [binOp, Op.intArith], Done.pure hh hf (run_ret hr) (by simp only [RepA])⟩
  case sub => exact ⟨.int k (k.wrap (a - b)), by simp [binOp, Op.intArith], Done.pure hh hf (run_ret hr) (by simp only [RepA])⟩
  case mul => exact ⟨.int k (k.wrap (a * b)), by simp [binOp, Op.intArith], Done.pure hh hf (run_ret hr) (by simp only [RepA])⟩
  case quo =>
    obtain ⟨h, hr⟩ := run_test hr
    exact ⟨.int k (k.wrap (a.tdiv b)), by simp [binOp, Op.intDiv, h], Done.pure hh hf (run_ret hr) (by simp only [RepA])⟩
  case rem =>
    obtain ⟨h, hr⟩ := run_test hr
    exact ⟨.int k (a.tmod b), by simp [binOp, Op.intDiv, h], Done.pure hh hf (run_ret hr) (by simp only [RepA])⟩
  case and => exact ⟨.int k (bitsOf .and k a b), by simp [binOp, bits_sound (op := .and) (.inl rfl)], Done.pure hh hf (run_ret hr) (by simp only [RepA])⟩
  case or => exact ⟨.int k (bitsOf .or k a b), by simp [binOp, bits_sound (op := .or) (.inr (.inl rfl))], Done.pure hh hf (run_ret hr) (by simp only [RepA])⟩
  case xor => exact ⟨.int k (bitsOf .xor k a b), by simp [binOp, bits_sound (op := .xor) (.inr (.inr (.inl rfl)))], Done.pure hh hf (run_ret hr) (by simp only [RepA])⟩
  case andNot => exact ⟨.int k (bitsOf .andNot k a b), by simp [binOp, bits_sound (op := .andNot) (.inr (.inr (.inr rfl)))], Done.pure hh hf (run_ret hr) (by simp only [RepA])⟩
  case eql =>
    refine ⟨.bool (decide (a = b)), ?_, Done.pure hh hf (run_ret hr) (by simp only [RepA])⟩
    by_cases h : a = b <;> simp [binOp, Op.intCmp, h]
  case neq =>
    refine ⟨.bool (decide (a ≠ b)), ?_, Done.pure hh hf (run_ret hr) (by simp only [RepA])⟩
    by_cases h : a = b <;> simp [binOp, Op.intCmp, h]
  case lss => exact ⟨.bool (decide (a < b)), by simp [binOp, Op.intCmp], Done.pure hh hf (run_ret hr) (by simp only [RepA])⟩
  case leq => exact ⟨.bool (decide (a ≤ b)), by simp [binOp, Op.intCmp], Done.pure hh hf (run_ret hr) (by simp only [RepA])⟩
  case gtr => exact ⟨.bool (decide (a > b)), by simp [binOp, Op.intCmp], Done.pure hh hf (run_ret hr) (by simp only [RepA])⟩
  case geq => exact ⟨.bool (decide (a ≥ b)), by simp [binOp, Op.intCmp], Done.pure hh hf (run_ret hr) (by simp only [RepA])⟩
  all_goals cases hr
theorem shiftInt_sound {op : BinOp} {t : TypeId} {k k' : IntKind} {a b : Int} (hs : isShift op = true) (hh : HpOk X C s.hp s.nx) (hf : Fr X C) (hr : (shiftInt op k a b s : Tr E Out).run orc κ = some r) :
    ∃ u, (binOp op t (.int k a) (.int k' b)).run X.P C.w = .ok u C.w ∧ Done X C s κ r u C.w := by
  cases op <;> simp only [isShift, reduceCtorEq] at hs <;> simp only [shiftInt] at hr
  · obtain ⟨h0, hr⟩ := run_test hr
    obtain ⟨h1, hr⟩ := run_test hr
    have hm : min b.toNat k.bits = b.toNat := by omega
    refine ⟨.int k (k.wrap (a * 2 ^ b.toNat)), ?_, Done.pure hh hf (run_ret hr) (by simp only [RepA])⟩
    have hn : ¬ b < 0 := by omega
    simp [binOp, Op.shift, hn, hm]
  · obtain ⟨h0, hr⟩ := run_test hr
    obtain ⟨h1, hr⟩ := run_test hr
    have hm : min b.toNat k.bits = b.toNat := by omega
    refine ⟨.int k (a.fdiv (2 ^ b.toNat)), ?_, Done.pure hh hf (run_ret hr) (by simp only [RepA])⟩
    have hn : ¬ b < 0 := by omega
    simp [binOp, Op.shift, hn, hm]
theorem boolOf_rep {hp : Hp} {nx : Nat} {a : AV} {v : Value} {b : Bool} (h : boolOf a = some b) (hr : RepA X C hp nx a v) : v = .bool b := by
  cases a <;> simp only [boolOf, Option.some.injEq, reduceCtorEq] at h <;> subst h <;> simpa only [RepA] using hr
theorem beq_bytes (a b : ByteArray) : (a.toList == b.toList) = decide (a = b) := by
  rw [ByteArray.toList_eq, ByteArray.toList_eq]
  by_cases h : a = b
  · subst h; simp
  · have h2 : ¬ a.data.toList = b.data.toList := fun e => h (ByteArray.ext (Array.ext' e))
    rw [decide_eq_false h]
    exact beq_false_of_ne h2
theorem run_bool_eqIn {P : Program} {w : World} {t : TypeId} (d : Nat) (ht : P.underlying t = some .bool) (a b : Bool) : (Op.equalIn (d + 1) t (.bool a) (.bool b)).run P w = .ok (a == b) w := by
  simp only [Op.equalIn, Sem.run_bind, run_underlying ht, Result.andThen_ok, Sem.run_pure]
theorem maxDepth_eq : Op.maxDepth = 9999 + 1 := rfl
theorem run_bool_eq {P : Program} {w : World} {t : TypeId} (ht : P.underlying t = some .bool) (a b : Bool) : (Op.equal t (.bool a) (.bool b)).run P w = .ok (a == b) w := by
  unfold Op.equal
  rw [maxDepth_eq]
  exact run_bool_eqIn 9999 ht a b
theorem guard_int {P : Program} {w : World} {op : BinOp} {t : TypeId} {x y : Operand} {k k' : IntKind} {a b : Int} : (eqGuard op t x y (.int k a) (.int k' b)).run P w = .ok () w := by
  unfold eqGuard
  split <;> rfl
theorem guard_str {P : Program} {w : World} {op : BinOp} {t : TypeId} {x y : Operand} {a b : ByteArray} : (eqGuard op t x y (.string a) (.string b)).run P w = .ok () w := by
  unfold eqGuard
  split <;> rfl
theorem guard_bool {P : Program} {w : World} {op : BinOp} {t : TypeId} {x y : Operand} {a b : Bool} : (eqGuard op t x y (.bool a) (.bool b)).run P w = .ok () w := by
  unfold eqGuard
  split <;> rfl
theorem unOp_sound {op : UnOp} (hh : HpOk X C s.hp s.nx) (hf : Fr X C) {a : AV} {v : Value} (ha : RepA X C s.hp s.nx a v) (hr : (unOpV op s a : Tr E Out).run orc κ = some r) :
    ∃ u, (Op.unary op v).run X.P C.w = .ok u C.w ∧ Done X C s κ r u C.w := by
  unfold unOpV at hr
  split at hr
  · rename_i k n
    simp only [RepA] at ha
    subst ha
    exact ⟨.int k (k.wrap (0 - n)), by simp [Op.unary, Op.intArith], Done.pure hh hf (run_ret hr) (by simp only [RepA])⟩
  · split at hr
    · rename_i u hu
      cases a with
      | bool b =>
        simp only [notV, Option.some.injEq] at hu; subst hu
        simp only [RepA] at ha; subst ha
        exact ⟨.bool (!b), by simp [Op.unary], Done.pure hh hf (run_ret hr) (by simp only [RepA])⟩
      | tt =>
        simp only [notV, Option.some.injEq] at hu; subst hu
        simp only [RepA] at ha; subst ha
        exact ⟨.bool false, by simp [Op.unary], Done.pure hh hf (run_ret hr) (by simp only [RepA])⟩
      | ff =>
        simp only [notV, Option.some.injEq] at hu; subst hu
        simp only [RepA] at ha; subst ha
        exact ⟨.bool true, by simp [Op.unary], Done.pure hh hf (run_ret hr) (by simp only [RepA])⟩
      | prop p d =>
        simp only [notV, Option.some.injEq] at hu; subst hu
        simp only [RepA] at ha; subst ha
        refine ⟨.bool (!(@decide p d)), by simp [Op.unary], Done.pure hh hf (run_ret hr) ?_⟩
        simp only [RepA]
        by_cases h : p <;> simp [h]
      | _ => simp [notV] at hu
    · cases hr
  · cases hr
theorem strOf_rep {xs : List Int} : ∀ (init : ByteArray), xs.foldl (fun (s : ByteArray) n => s.push (UInt8.ofNat n.toNat)) init = ⟨(init.data.toList ++ xs.map fun n => UInt8.ofNat n.toNat).toArray⟩ := by
  induction xs with
  | nil => intro init; apply ByteArray.ext; simp
  | cons n xs ih =>
    intro init
    rw [List.foldl_cons, ih]
    apply ByteArray.ext
    simp [ByteArray.push]
theorem minMax_max {hp : Hp} {nx : Nat} {P : Program} {w : World} : ∀ {l : List AV} {vs : List Value} {a x : Int}, minMax .max a l = some x → RepL X C hp nx l vs → (vs.foldlM Builtin.max2 (.int .i64 a)).run P w = .ok (.int .i64 x) w
  | [], vs, a, x, h, hr => by
    simp only [RepL] at hr
    subst hr
    simp only [minMax, Option.some.injEq] at h
    subst h
    rfl
  | b :: l, vs, a, x, h, hr => by
    simp only [RepL] at hr
    obtain ⟨v, q, rfl, h1, h2⟩ := hr
    cases b with
    | int k n =>
      cases k <;> simp only [minMax, reduceCtorEq] at h
      simp only [RepA] at h1
      subst h1
      rw [List.foldlM_cons]
      simp only [Builtin.max2, Sem.run_bind, Sem.run_pure, Result.andThen_ok]
      exact minMax_max h h2
    | _ => simp [minMax] at h
theorem minMax_min {hp : Hp} {nx : Nat} {P : Program} {w : World} : ∀ {l : List AV} {vs : List Value} {a x : Int}, minMax .min a l = some x → RepL X C hp nx l vs → (vs.foldlM Builtin.min2 (.int .i64 a)).run P w = .ok (.int .i64 x) w
  | [], vs, a, x, h, hr => by
    simp only [RepL] at hr
    subst hr
    simp only [minMax, Option.some.injEq] at h
    subst h
    rfl
  | b :: l, vs, a, x, h, hr => by
    simp only [RepL] at hr
    obtain ⟨v, q, rfl, h1, h2⟩ := hr
    cases b with
    | int k n =>
      cases k <;> simp only [minMax, reduceCtorEq] at h
      simp only [RepA] at h1
      subst h1
      rw [List.foldlM_cons]
      simp only [Builtin.min2, Sem.run_bind, Sem.run_pure, Result.andThen_ok]
      exact minMax_min h h2
    | _ => simp [minMax] at h
end Go.Vm
namespace Go.Vm
open Go Go.RowKit
set_option linter.unusedVariables false
set_option linter.unusedSimpArgs false
variable {E : Env} {R : Type} {X : Cx} {C : Cc} {s : St} {κ : Out → Option R} {r : R} {orc : Orc E}
theorem mapM_get {α β : Type} {f : α → Option β} : ∀ {l : List α} {q : List β}, l.mapM f = some q → ∀ (i : Nat) (a : α), l[i]? = some a → ∃ b, f a = some b ∧ q[i]? = some b
  | [], q, h, i, a, hi => by simp at hi
  | x :: l, q, h, i, a, hi => by
    simp only [List.mapM_cons, Option.bind_eq_bind, Option.pure_def, Option.bind_eq_some_iff] at h
    obtain ⟨b, hb, q', hq, h⟩ := h
    simp only [Option.some.injEq] at h
    subst h
    cases i with
    | zero => simp at hi; subst hi; exact ⟨b, hb, rfl⟩
    | succ i => simp at hi; simpa using mapM_get hq i a hi
theorem mapM_some {α β : Type} {f : α → Option β} : ∀ {l : List α}, (∀ a ∈ l, ∃ b, f a = some b) → ∃ q, l.mapM f = some q
  | [], _ => ⟨[], rfl⟩
  | x :: l, h => by
    obtain ⟨b, hb⟩ := h x (by simp)
    obtain ⟨q, hq⟩ := mapM_some (l := l) fun a ha => h a (by simp [ha])
    exact ⟨b :: q, by simp [List.mapM_cons, hb, hq]⟩
theorem buildCells_ok (hE : EnvOk E X.P) {fl : List (Nat × Nat)} {place : Nat → Option (Nat × Nat)} (hpl : ∀ i o t ti, fl[i]? = some (o, t) → get? E.ti t = some ti → place i = some (o, ti.ty.sz)) :
    ∀ {l : List (Nat × AV)} {vs : List (Nat × Value)} {cs cs' : List AV} {c : Array Value}, buildCells fl (get? E.ti) cs l = some cs' → RepP X C s.hp s.nx l vs → RepL X C s.hp s.nx cs c.toList →
      ∃ c', Instr.fill place c vs = some c' ∧ RepL X C s.hp s.nx cs' c'.toList
  | [], vs, cs, cs', c, h, hr, hc => by
    simp only [buildCells, Option.some.injEq] at h
    subst h
    cases hr
    exact ⟨c, rfl, hc⟩
  | (i, a) :: l, vs, cs, cs', c, h, hr, hc => by
    cases hr with
    | cons ha ht =>
      rename_i v rest
      simp only [buildCells] at h
      split at h
      · rename_i o t ho
        split at h
        · rename_i ti hti
          split at h
          · rename_i hcc
            simp only [Bool.and_eq_true] at hcc
            obtain ⟨hp, hl, hb⟩ := hcc
            have hl := Nat.eq_of_beq_eq_true hl
            have hb := Nat.le_of_ble_eq_true hb
            have hcells := cells_of ha hp
            have hcl := hcells.length
            have hll := hc.length
            have hvs : v.cells.size = ti.ty.sz := by
              have : v.cells.toList.length = v.cells.size := by simp
              omega
            have hcs : c.toList.length = c.size := by simp
            rw [fill_one place c i o ti.ty.sz v rest (hpl i o t ti ho hti) hvs (by omega)]
            exact buildCells_ok hE hpl h ht (by simp only [spl]; exact splice_rep hc hcells (by omega))
          · cases h
        · cases h
      · cases h
theorem build_sound (hE : EnvOk E X.P) {t : TypeId} {ti : TI} {fl : List (Nat × Nat)} (hti : TiOk X.P t ti) (hfl : get? E.fl t = some fl) (hh : HpOk X C s.hp s.nx) (hf : Fr X C) {l : List (Nat × AV)} {ps : Array (Nat × Value)} (hp : RepP X C s.hp s.nx l ps.toList) {cs : List AV}
    (hb : buildCells fl (get? E.ti) ti.ty.zero l = some cs) (hr : κ ⟨.agg cs, [], s.nx⟩ = some r) : ∃ u, (Instr.build t ps).run X.P C.w = .ok u C.w ∧ Done X C s κ r u C.w := by
  obtain ⟨fs, hfs, hlen, hok⟩ := hE.fl _ _ hfl
  obtain ⟨i, hi, hisz, hiby, z, hiz, hzc⟩ := hti.info
  obtain ⟨places, hpl⟩ := mapM_some (f := fun f : Field => (X.P.info? f.type).map fun i => (f.offset, i.size)) (l := fs.toList) (by
    intro f hf
    obtain ⟨n, hn⟩ := List.getElem?_of_mem hf
    have hn' : n < fl.length := by
      have := (List.getElem?_eq_some_iff.1 hn).1
      simp at this; omega
    obtain ⟨⟨o, t'⟩, hq⟩ : ∃ q, fl[n]? = some q := ⟨_, List.getElem?_eq_getElem hn'⟩
    obtain ⟨f', j, h1, h2, h3, h4, _⟩ := hok n o t' hq
    rw [Array.getElem?_toList] at hn
    rw [hn] at h1
    cases h1
    exact ⟨_, by rw [h3, h4]; rfl⟩)
  obtain ⟨c', h1, h2⟩ := buildCells_ok (X := X) (C := C) (s := s) hE (fl := fl) (place := fun i => places.toArray[i]?) (by
    intro n o t' ti' ho hti'
    obtain ⟨f', j, g1, g2, g3, g4, _⟩ := hok n o t' ho
    obtain ⟨b, hb1, hb2⟩ := mapM_get hpl n f' (by rw [Array.getElem?_toList]; exact g1)
    rw [g3, g4] at hb1
    simp only [Option.map_some, Option.some.injEq] at hb1
    obtain ⟨i', hi', hs', _⟩ := (hE.ti _ _ hti').info
    rw [g4] at hi'
    cases hi'
    simp only [List.getElem?_toArray]
    rw [hb2, ← hb1, g2, hs']) hb hp (c := z.cells) (by rw [hzc]; exact zero_rep ti.ty)
  refine ⟨.agg c', run_build C.w t ps c' ?_, Done.pure hh hf hr (by simp only [RepA]; exact ⟨c', rfl, h2⟩)⟩
  unfold Program.built
  simp only [hi, hfs, hiz, hpl]
  exact h1
theorem isByte_ok {E : Env} {P : Program} (hE : EnvOk E P) {t : TypeId} (h : isByte (elTi E t) = true) : ∃ e, P.underlying t = some (.slice e) ∧ P.underlying e = some (.int .u8) := by
  unfold elTi at h
  split at h
  · rename_i e he
    refine ⟨e, hE.el _ _ he, ?_⟩
    unfold isByte at h
    split at h
    · rename_i b hti
      exact (ty_of_kind (hE.ti _ _ hti) rfl).1 .u8 rfl
    · cases h
  · cases h
theorem shape_new (w : World) (c : Array Value) (t : TypeId) (fr : Nat × Nat) : (w.alloc (.cells c t fr)).shape? w.heap.size = some (t, c.size) := by
  unfold World.shape? World.alloc
  simp only [Array.getElem?_push_size]
theorem heap_freeze (w : World) (c : Array Value) (t : TypeId) (n : Nat) : ((w.alloc (.cells c t)).freeze ⟨w.heap.size, n, none⟩ 1).heap = w.heap.push (.cells c t (n, n + 1)) := by
  unfold World.freeze World.alloc
  apply Array.ext_getElem?
  intro j
  simp only [Nat.one_ne_zero, if_false, Array.getElem?_modify, Array.getElem?_push]
  by_cases hj : j = w.heap.size
  · subst hj; simp
  · rw [if_neg hj, if_neg hj, if_neg (fun h => hj h.symm)]
def byteArr (x : ByteArray) (n : Nat) : Array Value := x.data.map (fun b => Value.int .u8 b.toNat) ++ Array.replicate n (Value.int .u8 0)
theorem run_toBytes {P : Program} {w : World} {e : TypeId} {x : ByteArray} : ∃ w', (Conv.stringToBytes e x).run P w = .ok (.slice (some ⟨w.heap.size, 0, none⟩) x.size (grownCap w x.size 0 e)) w' ∧
    w'.heap = w.heap.push (.cells (byteArr x (grownCap w x.size 0 e - x.size)) e ((byteArr x (grownCap w x.size 0 e - x.size)).size, (byteArr x (grownCap w x.size 0 e - x.size)).size + 1)) ∧ Same w w' := by
  refine ⟨(w.drew.alloc (.cells (byteArr x (grownCap w x.size 0 e - x.size)) e)).freeze ⟨w.heap.size, (byteArr x (grownCap w x.size 0 e - x.size)).size, none⟩ 1, ?_, heap_freeze w.drew _ e _, ?_⟩
  · unfold byteArr
    have hsh := fun c => shape_new w.drew c e (0, 0)
    have hds : w.drew.heap.size = w.heap.size := rfl
    rw [hds] at hsh
    simp only [Conv.stringToBytes, Sem.run_bind, run_choose, Question.forced, Bool.false_eq_true, if_false, Result.andThen_ok, newRow, run_newObj, Sem.run_map, World.drew_eq, World.alloc_eq, markStringish, run_shape, run_freeze, Sem.run_pure]
    rw [hds]
    simp only [grownCap]
    rw [hsh]
    simp only [run_freeze, Result.andThen_ok, Sem.run_pure]
  · unfold World.freeze World.alloc World.drew
    exact ⟨rfl, rfl, rfl⟩
theorem conv_sound (hE : EnvOk E X.P) {a b : TypeId} (hh : HpOk X C s.hp s.nx) (hf : Fr X C) {av : AV} {v : Value} (ha : RepA X C s.hp s.nx av v) (hr : (convOp (get? E.ti a) (get? E.ti b) (elTi E a) (elTi E b) s av : Tr E Out).run orc κ = some r) :
    ∃ u w', (convert a b v).run X.P C.w = .ok u w' ∧ Done X C s κ r u w' := by
  unfold convOp at hr
  split at hr
  · rename_i ta tb ba bb hta htb
    have ka := ty_of_kind (hE.ti _ _ hta) rfl
    have kb := ty_of_kind (hE.ti _ _ htb) rfl
    have hua : ∃ d, X.P.underlying a = some d := by
      obtain ⟨d, hd, _⟩ := (hE.ti _ _ hta).kind
      exact ⟨d, hd⟩
    obtain ⟨da, hda⟩ := hua
    split at hr
    · rename_i k k' n
      have hb := kb.1 k rfl
      simp only [RepA] at ha
      subst ha
      exact ⟨.int k (k.wrap n), C.w, by simp [convert, run_underlying hda, run_underlying hb, Conv.intToInt], Done.pure hh hf (run_ret hr) (by simp only [RepA])⟩
    · rename_i x
      have hb := kb.2.2.1 rfl
      simp only [RepA] at ha
      subst ha
      exact ⟨.string x, C.w, by simp [convert, run_underlying hda, run_underlying hb], Done.pure hh hf (run_ret hr) (by simp only [RepA])⟩
    · rename_i el x
      split at hr
      · rename_i hby
        obtain ⟨e, he, heb⟩ := isByte_ok hE hby
        obtain ⟨hmax, hr⟩ := run_test hr
        simp only [RepA] at ha
        subst ha
        have hlen : (bytesOf x).length = x.size := by unfold bytesOf; rw [List.length_map, Array.length_toList]; rfl
        let arr : Array Value := byteArr x (grownCap C.w x.size 0 e - x.size)
        have hasz : arr.size = grownCap C.w x.size 0 e := by
          have h1 := grownCap_ge C.w x.size 0 e
          have h2 : x.data.size = x.size := rfl
          simp [arr, byteArr]; omega
        obtain ⟨w', hw1, hw2, hw3⟩ : ∃ w', (convert a b (.string x)).run X.P C.w = .ok (.slice (some ⟨C.w.heap.size, 0, none⟩) x.size (grownCap C.w x.size 0 e)) w' ∧ w'.heap = C.w.heap.push (.cells arr e (arr.size, arr.size + 1)) ∧ Same C.w w' := by
          obtain ⟨w', h1, h2, h3⟩ := run_toBytes (P := X.P) (w := C.w) (e := e) (x := x)
          exact ⟨w', by simpa [convert, run_underlying hda, run_underlying he, run_underlying heb] using h1, h2, h3⟩
        obtain ⟨hk, hG⟩ := get?_eff (e := []) (nx := s.nx) (B := .row 0 (.int .u8) (bytesOf x) none) (by simp [allDead]) (by simp)
        have hrow := new_row (C := C) (t := .int .u8) (xs := bytesOf x) (inner := none) (G := []) (arr := arr) (cap := grownCap C.w x.size 0 e) (L := (bytesOf x).map (fun n => Value.int .u8 n)) (fr := (arr.size, arr.size + 1)) (w' := w') (e := e) hh hf hw3 hw2 (.inr ⟨rfl, Nat.le_refl _⟩)
          (by rw [hlen]; exact grownCap_ge _ _ _ _) (by simp only [Ty.sz]; omega) ⟨List.replicate (grownCap C.w x.size 0 e - x.size) (.int .u8 0), by simp [arr, byteArr, bytesOf]⟩ rfl hk (by simp) hG (by simp [innerL]) (by
            obtain ⟨news, _, _, hs⟩ := (bytes_src (X := X) (C := C) (s := s) (ti := ⟨false, .int .u8, 1⟩) (x := x) rfl).src (bytesOf x) (by simp [rowCast, Ty.beq_self])
            refine ⟨fun _ => 0, by simp [Ty.sz], fun i n hn => ?_⟩
            simp only [Ty.sz, Nat.mul_one]
            rw [← List.map_drop]
            have hi := (List.getElem?_eq_some_iff.1 hn).1
            rw [List.drop_eq_getElem_cons hi]
            have := (List.getElem?_eq_some_iff.1 hn).2
            simp [OwnD, this])
        rw [hlen] at hrow
        exact ⟨_, _, hw1, _, _, rfl, hr, hrow⟩
      · cases hr
    · split at hr
      · rename_i hby
        obtain ⟨e, he, heb⟩ := isByte_ok hE hby
        have hb := kb.2.2.1 rfl
        simp only [RepA] at ha
        subst ha
        exact ⟨.string ByteArray.empty, C.w, by simp [convert, run_underlying he, run_underlying hb, run_underlying heb, Conv.bytesToString], Done.pure hh hf (run_ret hr) (by simp only [RepA])⟩
      · cases hr
    · split at hr
      · rename_i hby
        obtain ⟨e, he, heb⟩ := isByte_ok hE hby
        have hb := kb.2.2.1 rfl
        split at hr
        · rename_i rr hrr
          split at hr
          · rename_i xs hxs
            obtain ⟨h1, _, _⟩ := rowOf_rep hh ha hrr
            obtain ⟨T, ys, ls⟩ := rr
            obtain ⟨hT, hy⟩ := rowCast_eq hxs
            simp only at hT hy h1
            subst hT
            simp only at hy
            subst hy
            obtain ⟨A, cap, L, rfl, hle, hL, hc⟩ := rep_elems h1
            have hLL : L = xs.map (Value.int .u8) := by
              apply List.ext_getElem?
              intro i
              have hl := hL.1
              simp only [Ty.sz, Nat.mul_one] at hl
              by_cases hi : i < xs.length
              · have := hL.2 i _ (List.getElem?_eq_getElem hi)
                simp only [Ty.sz, Nat.mul_one, RepD] at this
                have h2 : (L.drop i).take 1 = [Value.int .u8 xs[i]] := this
                have h3 : L[i]? = some (Value.int .u8 xs[i]) := by
                  have := congrArg (fun l => l[0]?) h2
                  simpa using this
                rw [h3]
                simp [hi]
              · rw [List.getElem?_eq_none (by omega), List.getElem?_eq_none (by simp; omega)]
            refine ⟨.string (strOf xs), C.w, ?_, Done.pure hh hf (run_ret hr) (by simp only [RepA])⟩
            have hconv : (convert a b (.slice A xs.length cap)).run X.P C.w = (Conv.bytesToString (.slice A xs.length cap)).run X.P C.w := by
              simp [convert, run_underlying he, run_underlying hb, run_underlying heb]
            rw [hconv]
            cases A with
            | none =>
              have : xs = [] := by
                rcases Nat.eq_zero_or_pos xs.length with h | h
                · exact List.length_eq_zero_iff.1 h
                · obtain ⟨a', ha', _⟩ := hc h; cases ha'
              subst this
              simp [Conv.bytesToString, strOf]
              rfl
            | some ad =>
              have hld : (loadCells ad xs.length).run X.P C.w = .ok (xs.map (Value.int .u8)).toArray C.w := by
                have hcc : ∀ j u, L[j]? = some u → C.w.cell? (ad.add j) = some u := by
                  intro j u hj
                  rcases Nat.eq_zero_or_pos xs.length with h | h
                  · have : xs = [] := List.length_eq_zero_iff.1 h
                    subst this
                    rw [hLL] at hj
                    simp at hj
                  · obtain ⟨a', ha', hcc⟩ := hc h
                    cases ha'
                    exact hcc j u hj
                have := run_loadCells_list (P := X.P) C.w ad L hcc
                rw [hLL] at this
                simpa using this
              rw [run_bytesToString C.w ad xs.length cap xs hld, strOf_rep]
              simp [strOf]
          · cases hr
        · cases hr
      · cases hr
    · cases hr
  · cases hr
end Go.Vm
