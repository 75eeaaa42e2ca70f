/- strings.Split and parseNumber do what the reading tells; and the row's wrap: what the row lists and the world's shape are both at hand. -/
import Derived.Test.YtiljmehapdeanaaDoorDr3
import Derived.HandedShaped
import Derived.Shelf.Vars
import Derived.LaidSub
import Derived.Lib.LaidTab
namespace Go.Vm.Dr
open Go Go.RowKit Go.Proofs Go.Vm
set_option linter.unusedVariables false
set_option linter.unusedSimpArgs false
section
variable {X : Cx} {C : Cc} {S : Sig} {G : List Nat} {k : Nat} {T : Ty} {w' : World} {v' : Value} {ds : List DV} {args : Array Value}
theorem entry_fr (hX : EntryOk X C S ds args) : Fr X C where
  os := by rw [hX.w0]
  tape := by rw [hX.w0]
  output := by rw [hX.w0]
  size := by rw [hX.w0]; exact Nat.le_refl _
  block := fun b _ _ => by rw [hX.w0]
  own := fun b id h => ⟨hX.own b id h, .inr (by rw [hX.o0, h]; simp)⟩
theorem exit_row {ys : List T.D} (hX : EntryOk X C S ds args) (hres : S.res = .own k) (hout : S.hout = [(k, .row T none)]) (hin : memH S.hin k = false)
    (hs : Same C.w w') (hsz : C.w.heap.size ≤ w'.heap.size) (hw : ∀ b, b < C.w.heap.size → (∀ j, C.o b = some j → j ≠ k ∧ j ∉ G) → w'.heap[b]? = C.w.heap[b]?)
    (h1 : v'.oneCell' = true) (hv : ∃ A cap, v' = .slice A ys.length cap) (hown : OwnD w' (.row T) (ownS (C.give G k w' v').o k) ys [v']) : ExitOk X (C.give G k w' v') S [.row T ys] v' := by
  have hmu : (C.give G k w' v').μ k = v' := by simp [Cc.give]
  have hg : hget ([(k, Blk.row 0 T ys none)] : Hp) k = .row 0 T ys none := by simp [hget, get?_cons]
  have hd : ∀ i, i ≠ k → hget ([(k, Blk.row 0 T ys none)] : Hp) i = .dead := fun i hi => by
    simp only [hget]
    rw [get?_cons, if_neg (Ne.symm hi)]
    rfl
  refine ⟨⟨.own k, [.row T ys], [(k, .row 0 T ys none)], by rw [hres]; simp only [Sk.inst, id0], ?_, ?_, ?_, ?_⟩, give_fr (entry_fr hX) hs hsz hw⟩
  · rw [hout]
    simp only [hinst, BSk.inst, rowCast_self, id0, ver0]
  · simp only [RepA]
    refine ⟨?_, h1, fun _ _ _ _ _ => hmu.symm⟩
    rw [hout]; exact Nat.lt_of_lt_of_le (Nat.lt_succ_self _) (Nat.le_max_left _ _)
  · intro i
    by_cases hi : i = k
    · subst hi
      rw [hg]
      refine ⟨?_, fun _ => ?_, ?_, fun l hl => by simp [innerL] at hl⟩
      · rw [hout]; exact Nat.lt_of_lt_of_le (Nat.lt_succ_self _) (Nat.le_max_left _ _)
      · rw [hmu]; exact hown
      · rw [hmu]; exact hv
    · rw [hd i hi]; trivial
  · intro i hi hne
    by_cases h : i = k
    · subst h; rw [hin] at hi; cases hi
    · exact absurd (hd i h) hne
end
def splitSig : Sig := ⟨[.str, .str], [], .own 0, [(0, .row .str none)], .nil⟩
theorem split_ok {X : Cx} {C : Cc} {args : Array Value} {s sep : ByteArray} (hX : EntryOk X C splitSig [.str s, .str sep] args) (hs : s.size < 4294967281) (h1 : 1 ≤ sep.size) (m : Int) (hm : C.w.cell? ⟨1, 0, none⟩ = some (.int .i64 m)) :
    Calls Tryd.prog 60 args C.w fun e w' => ∃ v C', e = .returned v ∧ C'.w = w' ∧ ExitOk X C' splitSig [.row .str (Lib.splitB sep 0 (Lib.countB s sep) s)] v := by
  obtain ⟨vs, h', r, g1, g2, g3, g4⟩ := hX.args
  have e1 : Sk.instL [] id0 ver0 splitSig.params [.str s, .str sep] = ([.str s, .str sep], []) := rfl
  rw [e1] at g1
  cases g1
  simp only [RepL, RepA] at g3
  obtain ⟨v0, _, ha, rfl, v1, _, rfl, rfl, rfl⟩ := g3
  obtain rfl : args = #[.string s, .string sep] := by cases args; simp_all
  have hlen := Lib.splitB_all sep h1 0 (Lib.countB s sep) s rfl
  refine (Tryd.strings_Split s sep m C.w hs hm h1).mono ?_
  rintro e w' ⟨rfl, rfl⟩
  generalize Lib.splitB sep 0 (Lib.countB s sep) s = xs at hlen ⊢
  generalize hN : Lib.countB s sep + 1 = N at hlen ⊢
  have hheap : (C.w.alloc (.cells (xs.map Value.string).toArray 9)).heap[C.w.heap.size]? = some (.cells (xs.map Value.string).toArray 9 (0, 0)) := by
    show (C.w.heap.push _)[C.w.heap.size]? = _
    simp
  have hsz : (C.w.alloc (.cells (xs.map Value.string).toArray 9)).heap.size = C.w.heap.size + 1 := Array.size_push ..
  refine ⟨.slice (some ⟨C.w.heap.size, 0, none⟩) N N, C.give [] 0 _ _, rfl, rfl, exit_row (k := 0) (T := .str) (G := []) hX rfl rfl rfl ⟨rfl, rfl, rfl⟩ (Nat.le_of_lt (Nat.lt_of_lt_of_le (Nat.lt_succ_self _) (Nat.le_of_eq hsz.symm))) (fun b hb _ => Below.heap_alloc _ _ _ hb) rfl ⟨_, _, by rw [hlen]⟩ ?_⟩
  refine ⟨_, fun _ => 0, rfl, some ⟨C.w.heap.size, 0, none⟩, N, by rw [hlen], by rw [hlen]; exact Nat.le_refl _, fun _ => ⟨C.w.heap.size, 0, (xs.map Value.string).toArray, 9, (0, 0), rfl, ?_, hheap, .inl (Nat.le_refl _), ?_, fun i x hx => ?_⟩⟩
  · show (if C.w.heap.size ≤ C.w.heap.size ∧ C.w.heap.size < (C.w.alloc (.cells (xs.map Value.string).toArray 9)).heap.size then some 0 else _) = some 0
    rw [if_pos ⟨Nat.le_refl _, Nat.lt_of_lt_of_le (Nat.lt_succ_self _) (Nat.le_of_eq hsz.symm)⟩]
  · show 0 + N * 1 ≤ _
    simp [hlen]
  · show sl (xs.map Value.string).toArray (0 + i * 1) 1 = [.string x]
    have hi := List.getElem?_eq_some_iff.1 hx
    obtain ⟨hi, hx'⟩ := hi
    apply List.ext_getElem?
    intro j
    by_cases hj : j < 1
    · obtain rfl : j = 0 := by omega
      rw [sl_get (by omega)]
      simp [hx]
    · rw [List.getElem?_eq_none_iff.2 (by simp only [sl, List.length_take]; omega), List.getElem?_eq_none_iff.2 (by simp; omega)]
def numSig : Sig := ⟨[.str], [], .tup [.int .i64, .bool], [], .nil⟩
theorem parseMag_nn {l : List UInt8} {v : Int} (h : Lib.atoiAll l = .ok v) : -9223372036854775808 ≤ v ∧ v ≤ 9223372036854775807 := by
  unfold Lib.atoiAll at h
  split at h
  · cases h
  · rename_i c r
    revert h
    generalize Lib.parseMag (if c.toNat = 43 ∨ c.toNat = 45 then r else c :: r) = q
    intro h
    cases q with
    | ok u =>
      simp only at h
      by_cases n : c.toNat = 45
      · rw [if_neg (fun g => g.1 n)] at h
        by_cases b : 9223372036854775808 < u
        · rw [if_pos ⟨n, b⟩] at h; cases h
        · rw [if_neg (fun g => b g.2), if_pos n] at h
          injection h with h
          omega
      · by_cases b : 9223372036854775808 ≤ u
        · rw [if_pos ⟨n, b⟩] at h; cases h
        · rw [if_neg (fun g => b g.2), if_neg (fun g => n g.1), if_neg n] at h
          injection h with h
          omega
    | _ => cases h
theorem num_ok {X : Cx} {C : Cc} {args : Array Value} {s : ByteArray} (hX : EntryOk X C numSig [.str s] args) (hs : s.size ≤ 281474976710656) (tp tq : TypeId) (p q : Value) (hS : C.w.var? Tryd.prog "strconv.ErrSyntax" = some #[.iface tp p]) (hR : C.w.var? Tryd.prog "strconv.ErrRange" = some #[.iface tq q]) (htab : Lib.TabIs Tryd.prog C.w "internal/strconv.uint64pow10" .u64 Lib.pow10Tab) :
    Calls Tryd.prog 61 args C.w fun e w' => ∃ v C', e = .returned v ∧ C'.w = w' ∧ ExitOk X C' numSig [.int (numV s), .bool (numB s)] v := by
  obtain ⟨vs, h', r, g1, g2, g3, g4⟩ := hX.args
  have e1 : Sk.instL [] id0 ver0 numSig.params [.str s] = ([.str s], []) := rfl
  rw [e1] at g1
  cases g1
  simp only [RepL, RepA] at g3
  obtain ⟨v0, _, ha, rfl, rfl⟩ := g3
  obtain rfl : args = #[.string s] := by cases args; simp_all
  refine (parseNumber_calls s hs tp tq p q C.w hS hR htab (fun v h => parseMag_nn h)).mono ?_
  rintro e w' ⟨rfl, hb⟩
  exact ⟨_, ⟨_, C.μ, C.o⟩, rfl, rfl, exit_plain (av := .tup [.int .i64 (numV s), .bool (numB s)]) hX rfl rfl rfl (by simp only [RepA, RepL]; exact ⟨_, rfl, _, _, rfl, rfl, _, _, rfl, rfl, rfl⟩) hb⟩
end Go.Vm.Dr
namespace Go.Proofs
variable {H : Type} {enc : TypeId × Value → H}
/-- The row's wrap, with what the row lists and the world's shape. -/
theorem handed_listed_shaped {a : Assume} {C : Checked} {os : Os} {f : FuncId} {fn : Func} {s : ChangeSpec} {conds : List PathCond} {apart fresh handsOn again : Bool} {X : World → Array Value → Prop}
    (hX : ∀ (w w' : World) (args : Array Value), w.heap = w'.heap → X w args → X w' args)
    (own : ownKnob C.prog.godebug = none) (started : os.Started) (noInit : C.prog.inits.idxOf? f = none) (hfn : C.prog.funcs[f]? = some fn)
    (witness : ∃ (w : World) (tape : Tape) (i : Input), w.os = os ∧ (w.forCall tape i).Shaped C.prog ∧ i.vars = [] ∧ Input.okWide C.prog (w.forCall tape i) .any w.heap.size f i ∧
      ((s.pre enc C.prog fn conds apart (w.forCall tape i).memory i.args ∧ X (w.forCall tape i).memory i.args) ∧ sizedMet enc C.prog fn (OpenSpec.ofChange s) apart (w.forCall tape i).memory i.args) ∧ a.holds C.prog (lone (Frame.enter C.prog f i.args .normal) [] (w.forCall tape i)))
    (contract : ∀ (W : World) (base : Nat) (args : Array Value) (ds gs : List (DataW H)) (before : List MemPlace),
      (∀ (j : Nat) t v, fn.params[j]? = some t → args[j]? = some v → Value.okWide C.prog W .any base t v) →
      DataW.Whole enc C.prog fn.params.toList s.vars apart W args.toList ds gs before →
      conds.all (PathCond.test C.prog ⟨fn.params.toList, ds, s.plain.varTypes C.prog, gs⟩) = true →
      X W args → W.ShapedOpen C.prog →
      Calls C.prog f args W fun e W' => ∃ v, e = .returned v ∧ s.post enc C.prog fn apart fresh handsOn again W args v W') :
    ReturnsInHanded a C os f .any (fun w args => (s.pre enc C.prog fn conds apart w args ∧ X w args) ∧ sizedMet enc C.prog fn (OpenSpec.ofChange s) apart w args) (s.post enc C.prog fn apart fresh handsOn again) := by
  refine returnsInHanded_of_calls own started noInit witness ?_
  intro w tape i _ hsh _ hok hpre _
  obtain ⟨_, _, _, fn', hfn', _, _, _, _, hval⟩ := hok
  obtain rfl : fn' = fn := Option.some.inj (hfn'.symm.trans hfn)
  obtain ⟨⟨⟨ds, gs, before, hw, hc⟩, hx⟩, _⟩ := hpre
  refine (contract (w.forCall tape i) w.heap.size i.args ds gs before hval (DataW.Whole.of_heap (w' := w.forCall tape i) (by rfl) hw) hc (hX _ _ _ (by rfl) hx) hsh).mono fun e W' ⟨v, he, hp⟩ => ?_
  subst he
  exact ChangeSpec.post_blind hp
end Go.Proofs
