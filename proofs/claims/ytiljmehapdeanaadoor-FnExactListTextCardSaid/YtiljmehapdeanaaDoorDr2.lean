/- The functions given by contract (Itoa, Join) do what the reading tells, while the table of tens stays as it was. -/
import Derived.Test.YtiljmehapdeanaaDoorDr1
import Derived.KernelRfl
import Derived.LaidSub
import Derived.Lib.LaidTab
namespace Go.Vm.Dr
open Go Go.RowKit Go.Proofs Go.Vm
set_option linter.unusedVariables false
set_option linter.unusedSimpArgs false
theorem g_tab : Tryd.prog.globalNamed "internal/strconv.uint64pow10" = some 0 := by kernel_rfl
theorem typed_str {s : ByteArray} {r : List At} (hr : r = [At.str]) {d : Ds r} (h : typed r [.str s] = some d) : untyped r d = [.str s] := by
  subst hr
  simp only [typed, At.of] at h
  cases h
  rfl
theorem primItoa_some {ds l : List DV} (h : primItoa ds = some l) : ∃ n : Int, ds = [.int n] ∧ -9223372036854775808 ≤ n ∧ n ≤ 9223372036854775807 ∧ l = [.str ⟨(Lib.itoa n).toArray⟩] := by
  unfold primItoa at h
  split at h
  · rename_i n
    split at h
    · rename_i g
      exact ⟨n, rfl, g.1, g.2, (Option.some.inj h).symm⟩
    · cases h
  · cases h
theorem primJoin_some {ds l : List DV} (h : primJoin ds = some l) : ∃ (xs : List ByteArray) (sep : ByteArray), ds = [.row .str xs, .str sep] ∧ xs.length ≤ 140737488355328 ∧ (Lib.join (xs.map (·.data.toList)) sep.data.toList).length ≤ 140737488355328 ∧ l = [.str ⟨(Lib.join (xs.map (·.data.toList)) sep.data.toList).toArray⟩] := by
  unfold primJoin at h
  split at h
  · rename_i u xs sep
    split at h
    · rename_i ys hc
      split at h
      · rename_i g
        obtain ⟨e, hy⟩ := rowCast_eq hc
        subst e
        subst hy
        exact ⟨ys, sep, rfl, g.1, g.2, (Option.some.inj h).symm⟩
      · cases h
    · cases h
  · cases h
theorem itoa_sg : get? E.sg 42 = some itoaSig := by kernel_rfl
theorem join_sg : get? E.sg 56 = some joinSig := by kernel_rfl
theorem prim_ok {G : List Nat} {W : World} (hG : 0 ∈ G) (htab : Lib.TabIs Tryd.prog W "internal/strconv.uint64pow10" .u64 Lib.pow10Tab) : FnOk Tryd.prog (keep G W) E prim := by
  intro g S hS ds d hd X C args hX hJ he
  unfold prim at hd
  split at hd
  · rename_i l hl
    unfold primL at hl
    split at hl
    · rename_i hg
      obtain rfl := Nat.eq_of_beq_eq_true hg
      obtain ⟨n, rfl, g1, g2, rfl⟩ := primItoa_some hl
      have hS' : S = itoaSig := Option.some.inj (hS.symm.trans itoa_sg)
      subst hS'
      have hu := typed_str (r := ratsOf (get? E.sg 42)) (by kernel_rfl) hd
      rw [show untyped (E.rats 42) d = _ from hu]
      exact itoa_ok he g1 g2 (var_at g_tab htab (keep_at hJ he 0 hG).2)
    · split at hl
      · rename_i hg
        obtain rfl := Nat.eq_of_beq_eq_true hg
        obtain ⟨xs, sep, rfl, g1, g2, rfl⟩ := primJoin_some hl
        have hS' : S = joinSig := Option.some.inj (hS.symm.trans join_sg)
        subst hS'
        have hu := typed_str (r := ratsOf (get? E.sg 56)) (by kernel_rfl) hd
        rw [show untyped (E.rats 56) d = _ from hu]
        exact join_ok he g1 g2
      · cases hl
  · cases hd
theorem keep_one {W : World} {g : Nat} {n : String} {cs : Array Value} (hg : Tryd.prog.globalNamed n = some g) (h : W.var? Tryd.prog n = some cs) : g < W.heap.size := by
  unfold World.var? at h
  rw [hg] at h
  simp only [Option.bind_some] at h
  cases hb : W.heap[g]? with
  | none => rw [hb] at h; cases h
  | some o => exact heap_lt hb
theorem keep_start {G : List Nat} {W : World} (h : ∀ b ∈ G, b < W.heap.size) : (keep G W).I W fun _ => none := fun b hb => ⟨h b hb, rfl, rfl⟩
/-- The table, out of what the row lists. -/
theorem tab_of {W : World} {l : List (String × DataW Unit)} (h : laidMet Tryd.prog l W) (hf : (l.filter fun x => x.1 == "internal/strconv.uint64pow10") = [("internal/strconv.uint64pow10", Lib.tabData .u64 Lib.pow10Tab)]) : Lib.TabIs Tryd.prog W "internal/strconv.uint64pow10" .u64 Lib.pow10Tab := by
  have h1 := h.filter fun x => x.1 == "internal/strconv.uint64pow10"
  rw [hf] at h1
  exact Lib.tabIs_of_head (t := 114) (e := 101) (n := 20) g_tab (by kernel_rfl) (by kernel_rfl) (by kernel_rfl) (by kernel_rfl) (by kernel_rfl) h1
theorem prim_laid {W : World} {l : List (String × DataW Unit)} (h : laidMet Tryd.prog l W) (hf : (l.filter fun x => x.1 == "internal/strconv.uint64pow10") = [("internal/strconv.uint64pow10", Lib.tabData .u64 Lib.pow10Tab)]) : FnOk Tryd.prog (keep [0] W) E prim := prim_ok (by simp) (tab_of h hf)
theorem start_laid {W : World} {l : List (String × DataW Unit)} (h : laidMet Tryd.prog l W) (hf : (l.filter fun x => x.1 == "internal/strconv.uint64pow10") = [("internal/strconv.uint64pow10", Lib.tabData .u64 Lib.pow10Tab)]) : (keep [0] W).I W fun _ => none :=
  keep_start fun b hb => by
    obtain rfl : b = 0 := by simpa using hb
    exact keep_one g_tab (tab_of h hf)
end Go.Vm.Dr
