/- The functions given by contract (Itoa, Join, Split, parseNumber) do what the reading tells, while the library's variables stand as they were. -/
import Derived.Test.YtiljmehapdeanaaDoorDr4
import Derived.KernelRfl
namespace Go.Vm.Dr
open Go Go.RowKit Go.Proofs Go.Vm
set_option linter.unusedVariables false
set_option linter.unusedSimpArgs false
theorem typed_str {s : ByteArray} {r : List At} (hr : r = [At.str]) {d : Ds r} (h : typed r [.str s] = some d) : untyped r d = [.str s] := by
  subst hr
  simp only [typed, At.of] at h
  cases h
  rfl
theorem typed_row {T : Ty} {ys : List T.D} {r : List At} (hr : r = [At.row T]) {d : Ds r} (h : typed r [.row T ys] = some d) : untyped r d = [.row T ys] := by
  subst hr
  simp only [typed, At.of, rowCast_self] at h
  cases h
  rfl
theorem typed_num {n : Int} {b : Bool} {r : List At} (hr : r = [At.int, At.bool]) {d : Ds r} (h : typed r [.int n, .bool b] = some d) : untyped r d = [.int n, .bool b] := by
  subst hr
  simp only [typed, At.of] at h
  cases h
  rfl
theorem primItoa_some {ds l : List DV} (h : primItoa ds = some l) : ∃ n : Int, ds = [.int n] ∧ -9223372036854775808 ≤ n ∧ n ≤ 9223372036854775807 ∧ l = [.str ⟨(Lib.itoa n).toArray⟩] := by
  unfold primItoa at h
  split at h
  · rename_i n
    split at h
    · rename_i g
      exact ⟨n, rfl, g.1, g.2, (Option.some.inj h).symm⟩
    · cases h
  · cases h
theorem primJoin_some {ds l : List DV} (h : primJoin ds = some l) : ∃ (xs : List ByteArray) (sep : ByteArray), ds = [.row .str xs, .str sep] ∧ xs.length ≤ 140737488355328 ∧ (Lib.join (xs.map (·.data.toList)) sep.data.toList).length ≤ 140737488355328 ∧ l = [.str ⟨(Lib.join (xs.map (·.data.toList)) sep.data.toList).toArray⟩] := by
  unfold primJoin at h
  split at h
  · rename_i u xs sep
    split at h
    · rename_i ys hc
      split at h
      · rename_i g
        obtain ⟨e, hy⟩ := rowCast_eq hc
        subst e
        subst hy
        exact ⟨ys, sep, rfl, g.1, g.2, (Option.some.inj h).symm⟩
      · cases h
    · cases h
  · cases h
theorem primSplit_some {ds l : List DV} (h : primSplit ds = some l) : ∃ s sep : ByteArray, ds = [.str s, .str sep] ∧ s.size < 4294967281 ∧ 1 ≤ sep.size ∧ l = [.row .str (Lib.splitB sep 0 (Lib.countB s sep) s)] := by
  unfold primSplit at h
  split at h
  · rename_i s sep
    split at h
    · rename_i g
      exact ⟨s, sep, rfl, g.1, g.2, (Option.some.inj h).symm⟩
    · cases h
  · cases h
theorem primNum_some {ds l : List DV} (h : primNum ds = some l) : ∃ s : ByteArray, ds = [.str s] ∧ s.size ≤ 281474976710656 ∧ l = [.int (numV s), .bool (numB s)] := by
  unfold primNum at h
  split at h
  · rename_i s
    split at h
    · rename_i g
      exact ⟨s, rfl, g, (Option.some.inj h).symm⟩
    · cases h
  · cases h
theorem itoa_sg : get? E.sg 42 = some itoaSig := by kernel_rfl
theorem join_sg : get? E.sg 56 = some joinSig := by kernel_rfl
theorem split_sg : get? E.sg 60 = some splitSig := by kernel_rfl
theorem num_sg : get? E.sg 61 = some numSig := by kernel_rfl
theorem g_max : Tryd.prog.globalNamed "internal/bytealg.MaxLen" = some 1 := by kernel_rfl
theorem g_syn : Tryd.prog.globalNamed "strconv.ErrSyntax" = some 2 := by kernel_rfl
theorem g_rng : Tryd.prog.globalNamed "strconv.ErrRange" = some 3 := by kernel_rfl
/-- What the library's variables hold. -/
structure Libs (W : World) : Prop where
  tab : Lib.TabIs Tryd.prog W "internal/strconv.uint64pow10" .u64 Lib.pow10Tab
  max : ∃ m, W.cell? ⟨1, 0, none⟩ = some (.int .i64 m)
  syn : ∃ tp p, W.var? Tryd.prog "strconv.ErrSyntax" = some #[.iface tp p]
  rng : ∃ tp p, W.var? Tryd.prog "strconv.ErrRange" = some #[.iface tp p]
theorem cell_at {w W : World} {g o : Nat} (h : w.heap[g]? = W.heap[g]?) : w.cell? ⟨g, o, none⟩ = W.cell? ⟨g, o, none⟩ := by
  simp only [World.cell?]
  rw [h]
theorem prim_ok {W : World} (L : Libs W) : FnOk Tryd.prog (keep [0, 1, 2, 3] W) E prim := by
  intro g S hS ds d hd X C args hX hJ he
  have K := keep_at hJ he
  unfold prim at hd
  split at hd
  · rename_i l hl
    unfold primL at hl
    split at hl
    · rename_i hg
      obtain rfl := Nat.eq_of_beq_eq_true hg
      obtain ⟨n, rfl, g1, g2, rfl⟩ := primItoa_some hl
      obtain rfl : S = itoaSig := Option.some.inj (hS.symm.trans itoa_sg)
      have hu := typed_str (r := ratsOf (get? E.sg 42)) (by kernel_rfl) hd
      rw [show untyped (E.rats 42) d = _ from hu]
      exact itoa_ok he g1 g2 (var_at g_tab L.tab (K 0 (by simp)).2)
    · split at hl
      · rename_i hg
        obtain rfl := Nat.eq_of_beq_eq_true hg
        obtain ⟨xs, sep, rfl, g1, g2, rfl⟩ := primJoin_some hl
        obtain rfl : S = joinSig := Option.some.inj (hS.symm.trans join_sg)
        have hu := typed_str (r := ratsOf (get? E.sg 56)) (by kernel_rfl) hd
        rw [show untyped (E.rats 56) d = _ from hu]
        exact join_ok he g1 g2
      · split at hl
        · rename_i hg
          obtain rfl := Nat.eq_of_beq_eq_true hg
          obtain ⟨s, rfl, g1, rfl⟩ := primNum_some hl
          obtain rfl : S = numSig := Option.some.inj (hS.symm.trans num_sg)
          have hu := typed_num (r := ratsOf (get? E.sg 61)) (by kernel_rfl) hd
          rw [show untyped (E.rats 61) d = _ from hu]
          obtain ⟨tp, p, hS⟩ := L.syn
          obtain ⟨tq, q, hR⟩ := L.rng
          exact num_ok he g1 tp tq p q (var_at g_syn hS (K 2 (by simp)).2) (var_at g_rng hR (K 3 (by simp)).2) (var_at g_tab L.tab (K 0 (by simp)).2)
        · split at hl
          · rename_i hg
            obtain rfl := Nat.eq_of_beq_eq_true hg
            obtain ⟨s, sep, rfl, g1, g2, rfl⟩ := primSplit_some hl
            obtain rfl : S = splitSig := Option.some.inj (hS.symm.trans split_sg)
            have hu := typed_row (r := ratsOf (get? E.sg 60)) (by kernel_rfl) hd
            rw [show untyped (E.rats 60) d = _ from hu]
            obtain ⟨m, hm⟩ := L.max
            exact split_ok he g1 g2 m ((cell_at (K 1 (by simp)).2).trans hm)
          · cases hl
  · cases hd
theorem keep_one {W : World} {g : Nat} {n : String} {cs : Array Value} (hg : Tryd.prog.globalNamed n = some g) (h : W.var? Tryd.prog n = some cs) : g < W.heap.size := by
  unfold World.var? at h
  rw [hg] at h
  simp only [Option.bind_some] at h
  cases hb : W.heap[g]? with
  | none => rw [hb] at h; cases h
  | some o => exact heap_lt hb
theorem keep_start {G : List Nat} {W : World} (h : ∀ b ∈ G, b < W.heap.size) : (keep G W).I W fun _ => none := fun b hb => ⟨h b hb, rfl, rfl⟩
/-- The table, out of what the row lists. -/
theorem tab_of {W : World} {l : List (String × DataW Unit)} (h : laidMet Tryd.prog l W) (hf : (l.filter fun x => x.1 == "internal/strconv.uint64pow10") = [("internal/strconv.uint64pow10", Lib.tabData .u64 Lib.pow10Tab)]) : Lib.TabIs Tryd.prog W "internal/strconv.uint64pow10" .u64 Lib.pow10Tab := by
  have h1 := h.filter fun x => x.1 == "internal/strconv.uint64pow10"
  rw [hf] at h1
  exact Lib.tabIs_of_head (t := 114) (e := 101) (n := 20) g_tab (by kernel_rfl) (by kernel_rfl) (by kernel_rfl) (by kernel_rfl) (by kernel_rfl) h1
theorem err_of {W : World} {l : List (String × DataW Unit)} {n tn : String} {d : DataW Unit} {g t : Nat} (h : laidMet Tryd.prog l W) (hf : (l.filter fun x => x.1 == n) = [(n, .iface tn d)]) (hg : Tryd.prog.globalNamed n = some g) (ht : (Tryd.prog.globals[g]?).map (·.type) = some t) (hu : ∃ ms, Tryd.prog.underlying t = some (.interface ms)) :
    ∃ tp p, W.var? Tryd.prog n = some #[.iface tp p] := by
  have h1 := h.filter fun x => x.1 == n
  rw [hf] at h1
  obtain ⟨ps, ⟨g', t', cs, fuel, p, q, hg', ht', hvar, hd, _, _⟩, _⟩ := h1
  obtain rfl := Option.some.inj (hg.symm.trans hg')
  obtain rfl := Option.some.inj (ht.symm.trans ht')
  obtain ⟨ms, hu⟩ := hu
  rw [hvar]
  cases fuel with
  | zero => cases hd
  | succ fuel =>
    obtain ⟨L⟩ := cs
    rcases L with _ | ⟨v, _ | ⟨v2, r⟩⟩
    · simp [DataW.trod, hu] at hd
    · cases v <;> first | exact ⟨_, _, rfl⟩ | (simp [DataW.trod, hu] at hd; done)
    · simp [DataW.trod, hu] at hd
theorem libs_laid {W : World} {l : List (String × DataW Unit)} (h : laidMet Tryd.prog l W) (hsh : W.ShapedOpen Tryd.prog) (hf : (l.filter fun x => x.1 == "internal/strconv.uint64pow10") = [("internal/strconv.uint64pow10", Lib.tabData .u64 Lib.pow10Tab)])
    {d0 d1 : DataW Unit} {t0 t1 : String} (h0 : (l.filter fun x => x.1 == "strconv.ErrSyntax") = [("strconv.ErrSyntax", .iface t0 d0)]) (h1 : (l.filter fun x => x.1 == "strconv.ErrRange") = [("strconv.ErrRange", .iface t1 d1)]) : Libs W where
  tab := tab_of h hf
  max := cell_of_shapedOpen_int (t := 3) (zero := #[.int .i64 0]) hsh (of_decide_eq_true (by kernel_rfl)) (by kernel_rfl) rfl (by kernel_rfl) (by kernel_rfl) Tryd.underlying3
  syn := err_of h h0 g_syn (t := 93) (by kernel_rfl) ⟨_, Tryd.underlying93⟩
  rng := err_of h h1 g_rng (t := 93) (by kernel_rfl) ⟨_, Tryd.underlying93⟩
theorem start_libs {W : World} (L : Libs W) : (keep [0, 1, 2, 3] W).I W fun _ => none :=
  keep_start fun b hb => by
    rcases (by simpa using hb : b = 0 ∨ b = 1 ∨ b = 2 ∨ b = 3) with rfl | rfl | rfl | rfl
    · exact keep_one g_tab L.tab
    · obtain ⟨m, hm⟩ := L.max
      simp only [World.cell?] at hm
      cases hb : W.heap[1]? with
      | none => rw [hb] at hm; cases hm
      | some o => exact heap_lt hb
    · obtain ⟨_, _, h⟩ := L.syn
      exact keep_one g_syn h
    · obtain ⟨_, _, h⟩ := L.rng
      exact keep_one g_rng h
end Go.Vm.Dr
