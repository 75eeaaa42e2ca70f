/- Functions of Go's library that the program calls: by the library's contracts they do what the reading tells; the condition is what their variables hold when the call begins. -/
import Derived.Test.YtiljmehapdeanaaDoorA
import Derived.Test.YtiljmehapdeanaaDoorVmD
import Derived.Test.YtiljmehapdeanaaDoorShelf
import Derived.Below
namespace Go.Vm.Dr
open Go Go.RowKit Go.Proofs Go.Vm
set_option linter.unusedVariables false
set_option linter.unusedSimpArgs false
/-- Blocks that nobody owns stay as they were in W. -/
def keep (G : List Nat) (W : World) : Glob where
  I := fun w o => ∀ b ∈ G, b < w.heap.size ∧ o b = none ∧ w.heap[b]? = W.heap[b]?
  st := fun {w w' o o'} h hs b hb => by
    obtain ⟨h1, h2, h3⟩ := h b hb
    obtain ⟨g1, g2⟩ := hs b h1 h2
    refine ⟨?_, g1, g2.trans h3⟩
    have h4 : w.heap[b]? = some w.heap[b] := Array.getElem?_eq_getElem h1
    rw [← g2] at h4
    exact heap_lt h4
theorem keep_at {G : List Nat} {W : World} {X : Cx} {C : Cc} {S : Sig} {ds : List DV} {args : Array Value} (hJ : X.J = keep G W) (hX : EntryOk X C S ds args) : ∀ b ∈ G, b < C.w.heap.size ∧ C.w.heap[b]? = W.heap[b]? := by
  have h := X.inv
  rw [hJ, hX.w0] at h
  exact fun b hb => ⟨(h b hb).1, (h b hb).2.2⟩
theorem var_at {P : Program} {w W : World} {n : String} {g : Nat} {cs : Array Value} (hg : P.globalNamed n = some g) (h : W.var? P n = some cs) (hb : w.heap[g]? = W.heap[g]?) : w.var? P n = some cs := by
  unfold World.var? at h ⊢
  rw [hg] at h ⊢
  simp only [Option.bind_some] at h ⊢
  rw [hb]
  exact h
section
variable {X : Cx} {C : Cc} {S : Sig} {ds out : List DV} {args : Array Value} {w' : World} {v : Value} {av : AV}
/-- A result without memory of its own. -/
theorem exit_plain (hX : EntryOk X C S ds args) (hout : S.hout = []) (hin : S.hin = []) (hres : S.res.inst [] id0 ver0 out = (av, [])) (hrep : RepA X ⟨w', C.μ, C.o⟩ [] (nextOf S.hout) av v) (hb : Below C.w.heap.size C.w w') :
    ExitOk X ⟨w', C.μ, C.o⟩ S out v := by
  refine ⟨⟨av, [], [], hres, by rw [hout]; rfl, hrep, fun id => trivial, fun i hi => by rw [hin] at hi; cases hi⟩, ?_⟩
  refine ⟨?_, ?_, ?_, ?_, ?_, ?_⟩
  · rw [hX.w0]; exact hb.os
  · rw [hX.w0]; exact hb.tape
  · rw [hX.w0]; exact hb.output
  · rw [hX.w0]; exact hb.size
  · intro b h _
    rw [hX.w0] at h ⊢
    exact hb.block b h
  · intro b id h
    have h1 := hX.own b id h
    refine ⟨Nat.lt_of_lt_of_le h1 hb.size, .inr ?_⟩
    rw [hX.o0]
    have h2 : C.o b = some id := h
    rw [h2]
    simp
end
def itoaSig : Sig := ⟨[.int .i64], [], .str, [], .nil⟩
theorem itoa_ok {X : Cx} {C : Cc} {args : Array Value} {n : Int} (hX : EntryOk X C itoaSig [.int n] args) (h0 : -9223372036854775808 ≤ n) (h1 : n ≤ 9223372036854775807) (htab : Lib.TabIs Tryd.prog C.w "internal/strconv.uint64pow10" .u64 Lib.pow10Tab) :
    Calls Tryd.prog 42 args C.w fun e w' => ∃ v C', e = .returned v ∧ C'.w = w' ∧ ExitOk X C' itoaSig [.str ⟨(Lib.itoa n).toArray⟩] v := by
  obtain ⟨vs, h', r, g1, g2, g3, g4⟩ := hX.args
  have e1 : Sk.instL [] id0 ver0 itoaSig.params [.int n] = ([.int .i64 n], []) := rfl
  rw [e1] at g1
  cases g1
  simp only [RepL, RepA] at g3
  obtain ⟨v0, _, ha, rfl, rfl⟩ := g3
  obtain rfl : args = #[.int .i64 n] := by cases args; simp_all
  refine (Tryd.strconv_Itoa n h0 h1 C.w htab).mono ?_
  rintro e w' ⟨rfl, k, os, rfl⟩
  refine ⟨_, ⟨_, C.μ, C.o⟩, rfl, rfl, exit_plain hX rfl rfl rfl (by simp only [RepA]) ?_⟩
  refine ⟨rfl, rfl, rfl, ?_, fun b hb => ?_⟩
  · simp [Sort.grow, World.drewN]
  · show (C.w.heap ++ os)[b]? = C.w.heap[b]?
    exact Array.getElem?_append_left hb
def joinSig : Sig := ⟨[.frz .str [], .str], [], .str, [], .nil⟩
theorem join_ok {X : Cx} {C : Cc} {args : Array Value} {xs : List ByteArray} {sep : ByteArray} (hX : EntryOk X C joinSig [.row .str xs, .str sep] args) (hN : xs.length ≤ 140737488355328) (hlen : (Lib.join (xs.map (·.data.toList)) sep.data.toList).length ≤ 140737488355328) :
    Calls Tryd.prog 56 args C.w fun e w' => ∃ v C', e = .returned v ∧ C'.w = w' ∧ ExitOk X C' joinSig [.str ⟨(Lib.join (xs.map (·.data.toList)) sep.data.toList).toArray⟩] v := by
  obtain ⟨vs, h', r, g1, g2, g3, g4⟩ := hX.args
  have e1 : Sk.instL [] id0 ver0 joinSig.params [.row .str xs, .str sep] = ([.lst .str xs [], .str sep], []) := rfl
  rw [e1] at g1
  cases g1
  simp only [RepL, RepA] at g3
  obtain ⟨v0, _, ha, ⟨_, _, hr⟩, v1, _, rfl, rfl, rfl⟩ := g3
  have hr : RepD C.w (lbS X C.o []) (.row .str) xs [v0] := hr rfl
  obtain ⟨A, cap, hv, hle, hcell⟩ := hr
  obtain rfl : v0 = .slice A xs.length cap := by simpa using hv
  obtain rfl : args = #[.slice A xs.length cap, .string sep] := by cases args; simp_all
  cases xs with
  | nil =>
    refine (Tryd.strings_Join_none A cap sep C.w).mono ?_
    rintro e w' ⟨rfl, rfl⟩
    exact ⟨_, ⟨_, C.μ, C.o⟩, rfl, rfl, exit_plain hX rfl rfl rfl (by simp only [RepA]; rfl) (Below.refl _ _)⟩
  | cons x l =>
    obtain ⟨b, off, arr, e, fr, rfl, hS, hb, hsz, hel⟩ := hcell (by simp)
    refine (Tryd.strings_Join b off cap (x :: l) sep C.w (fun j y hj => ?_) (heap_lt hb) hN hle hlen).mono ?_
    · have h1 := hel j y hj
      have h2 : sl arr (off + j * 1) 1 = [Value.string y] := h1
      have h3 : (sl arr (off + j * 1) 1)[0]? = some (Value.string y) := by rw [h2]; rfl
      rw [sl_get (by decide), Nat.mul_one, Nat.add_zero] at h3
      rw [cell_blk hb]
      exact h3
    · rintro e w' ⟨rfl, hw⟩
      exact ⟨_, ⟨_, C.μ, C.o⟩, rfl, rfl, exit_plain hX rfl rfl rfl (by simp only [RepA]) hw⟩
end Go.Vm.Dr
