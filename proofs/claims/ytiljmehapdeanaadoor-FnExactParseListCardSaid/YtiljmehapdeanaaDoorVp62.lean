/- Lists of numbers as text. -/
import Derived.Test.YtiljmehapdeanaaDoorVp61
namespace Go.Vm.Pu
open Go Go.RowKit Go.Vm
set_option linter.unusedVariables false
set_option linter.unusedSimpArgs false
def ints (o : List UInt8) : List Int := o.map fun b => (b.toNat : Int)
theorem ints_app (a b : List UInt8) : ints (a ++ b) = ints a ++ ints b := List.map_append
theorem ints_len (a : List UInt8) : (ints a).length = a.length := List.length_map _
def Wf (l : List Int) : Prop := ∀ x ∈ l, -9223372036854775808 ≤ x ∧ x ≤ 9223372036854775807
def Wf1 (x : Int) : Prop := -9223372036854775808 ≤ x ∧ x ≤ 9223372036854775807
theorem Wf1.of {x : Int} (h : (Lit.int .i64 x).wf = true) : Wf1 x := wf_bounds h
theorem Wf.of {l : List Int} (h : ∀ y ∈ l, (Lit.int .i64 y).wf = true) : Wf l := fun x hx => wf_bounds (h x hx)
def listB (l : List Int) : List UInt8 := if l = [] then [46] else Lib.join (l.map Lib.itoa) [44]
theorem joinTail_cons (sep x : List UInt8) (r : List (List UInt8)) : Lib.joinTail sep (x :: r) = sep ++ x ++ Lib.joinTail sep r := by simp [Lib.joinTail]
theorem joinTail_len (r : List Int) (h : Wf r) : (Lib.joinTail [44] (r.map Lib.itoa)).length ≤ 22 * r.length := by
  induction r with
  | nil => simp [Lib.joinTail]
  | cons x r ih =>
    rw [List.map_cons, joinTail_cons]
    have h1 := Lib.itoa_length_le x (h x (by simp)).1 (h x (by simp)).2
    have h2 := ih fun y hy => h y (by simp [hy])
    simp only [List.length_append, List.length_cons, List.length_nil]
    omega
theorem listB_len (l : List Int) (h : Wf l) : (listB l).length ≤ 22 * l.length + 1 := by
  unfold listB
  cases l with
  | nil => simp
  | cons x r =>
    rw [if_neg (by simp), List.map_cons, Lib.join_cons]
    have h1 := Lib.itoa_length_le x (h x (by simp)).1 (h x (by simp)).2
    have h2 := joinTail_len r fun y hy => h y (by simp [hy])
    simp only [List.length_append, List.length_cons]
    omega
theorem l21List_l1 (K fu0 : Nat) (l : List Int) (i : Int) (n : List UInt8) (hn : n.length ≤ 1000) : ∀ (r : List UInt8) (q fu : Nat) (o : List UInt8), n.drop q = r → r.length < fu → o.length + r.length ≤ 60000000000 →
    spec_l21List.l1 K fu0 fu l i (tB n) (q : Int) (ints o) = spec_l21List.l0 K fu0 l (wrap64 (i + 1)) (ints (o ++ r)) := by
  intro r
  induction r with
  | nil =>
    intro q fu o hq hf ho
    obtain ⟨fu, rfl⟩ : ∃ m, fu = m + 1 := ⟨fu - 1, by omega⟩
    have hq' : n.length ≤ q := by simpa using hq
    rw [spec_l21List.l1_eq, tB_size, if_neg (by omega), List.append_nil]
  | cons c r ih =>
    intro q fu o hq hf ho
    obtain ⟨fu, rfl⟩ : ∃ m, fu = m + 1 := ⟨fu - 1, by omega⟩
    have hlen : q < n.length := by
      rcases Nat.lt_or_ge q n.length with h | h
      · exact h
      · rw [List.drop_eq_nil_of_le h] at hq; cases hq
    have hd := drop_cons n q hlen
    rw [hq] at hd
    injection hd with hc hr
    simp only [List.length_cons] at hf ho
    rw [spec_l21List.l1_eq, tB_size, if_pos (by omega), if_pos (by omega), if_pos (by omega), if_pos (by rw [ints_len]; omega), tB_bt n q hlen, wrap_next hlen (by omega), ← hc]
    have := ih (q + 1) fu (o ++ [c]) hr.symm (by omega) (by simp; omega)
    rw [ints_app] at this
    rw [show ints o ++ [(c.toNat : Int)] = ints o ++ ints [c] from rfl, this]
    simp
theorem l21List_l0 (K : Nat) (hK : 100 ≤ K) (l : List Int) (hl : Wf l) (hn : l.length ≤ 1048576) : ∀ (r : List Int) (i fu : Nat) (o : List UInt8), l.drop i = r → 1 ≤ i → r.length < fu → o.length + 22 * r.length ≤ 50000000000 →
    spec_l21List.l0 K fu l (i : Int) (ints o) = some (tB (o ++ Lib.joinTail [44] (r.map Lib.itoa))) := by
  intro r
  induction r with
  | nil =>
    intro i fu o hq h1 hf ho
    obtain ⟨fu, rfl⟩ : ∃ m, fu = m + 1 := ⟨fu - 1, by omega⟩
    have hq' : l.length ≤ i := by simpa using hq
    rw [spec_l21List.l0_eq, if_neg (by omega), ints, tB_strOf]
    simp [Lib.joinTail]
  | cons c r ih =>
    intro i fu o hq h1 hf ho
    obtain ⟨fu, rfl⟩ : ∃ m, fu = m + 1 := ⟨fu - 1, by omega⟩
    have hlen : i < l.length := by
      rcases Nat.lt_or_ge i l.length with h | h
      · exact h
      · rw [List.drop_eq_nil_of_le h] at hq; cases hq
    have hd := drop_cons l i hlen
    rw [hq] at hd
    injection hd with hc hr
    have hb : -9223372036854775808 ≤ c ∧ c ≤ 9223372036854775807 := hl c (hc ▸ List.getElem_mem hlen)
    have hi := Lib.itoa_length_le c hb.1 hb.2
    simp only [List.length_cons] at hf ho
    rw [spec_l21List.l0_eq, if_pos (by omega), if_pos (by omega), if_pos (by rw [ints_len]; omega), spec_l21List.j0_eq, if_pos (by omega), if_pos (by omega), rd_at l i hlen, ← hc, numV c hb.1 hb.2 K (by omega), bs,
      show ints o ++ [44] = ints (o ++ [44]) from (ints_app o [44]).symm]
    have e := l21List_l1 K fu l i (Lib.itoa c) (by omega) (Lib.itoa c) 0 K (o ++ [44]) rfl (by omega) (by simp; omega)
    rw [show ((0 : Nat) : Int) = 0 from rfl] at e
    rw [e, wrap_next hlen (by omega), ih (i + 1) fu _ hr.symm (by omega) (by omega) (by simp; omega), List.map_cons, joinTail_cons]
    simp
theorem l21ListV (l : List Int) (hl : Wf l) (hn : l.length ≤ 1048576) (k : Nat) (hk : 1048700 ≤ k) : spec_l21List.f k l = some (tB (listB l)) := by
  obtain ⟨k, rfl⟩ : ∃ m, k = m + 1 := ⟨k - 1, by omega⟩
  rw [spec_l21List.f_eq]
  cases l with
  | nil => rw [if_pos (by simp)]; rfl
  | cons c r =>
    rw [if_neg (by simp; omega)]
    obtain ⟨fu, rfl⟩ : ∃ m, k = m + 1 := ⟨k - 1, by omega⟩
    have hb := hl c (by simp)
    have hi := Lib.itoa_length_le c hb.1 hb.2
    simp only [List.length_cons] at hn
    rw [spec_l21List.l0_eq, if_pos (by simp), if_neg (by simp), spec_l21List.j0_eq, if_pos (by simp), if_pos (by simp), show rdI (c :: r) 0 = c from rfl, numV c hb.1 hb.2 _ (by omega), bs]
    have e := l21List_l1 (fu + 1) fu (c :: r) 0 (Lib.itoa c) (by omega) (Lib.itoa c) 0 (fu + 1) [] rfl (by omega) (by simp; omega)
    rw [show ((0 : Nat) : Int) = 0 from rfl, show ints [] = [] from rfl] at e
    rw [e, show wrap64 (0 + 1) = ((1 : Nat) : Int) from rfl, l21List_l0 (fu + 1) (by omega) (c :: r) hl (by simp; omega) r 1 fu _ rfl (by omega) (by omega) (by simp; omega)]
    unfold listB
    rw [if_neg (by simp), List.map_cons, Lib.join_cons]
    simp
theorem listText_l0 (K : Nat) (hK : 100 ≤ K) (l : List Int) (hl : Wf l) (hn : l.length ≤ 1048576) : ∀ (r : List Int) (i fu : Nat) (ws : List Int), l.drop i = r → r.length < fu → l = ws ++ r → ws.length = i →
    impl_listText.l0 K fu l (l.length : Int) (i : Int) (ws.map fun x => tB (Lib.itoa x)) = some (tB (listB l)) := by
  intro r
  induction r with
  | nil =>
    intro i fu ws hq hf hw hi
    obtain ⟨fu, rfl⟩ : ∃ m, fu = m + 1 := ⟨fu - 1, by omega⟩
    have hq' : l.length ≤ i := by simpa using hq
    rw [List.append_nil] at hw
    subst hw
    rw [impl_listText.l0_eq, if_neg (by omega), List.length_map]
    by_cases c : l = []
    · rw [if_pos (by simp [c])]
      unfold listB
      rw [if_pos c]
      rfl
    · have : l.length ≠ 0 := fun h => c (List.length_eq_zero_iff.1 h)
      rw [if_neg (by omega)]
      obtain ⟨K, rfl⟩ : ∃ m, K = m + 1 := ⟨K - 1, by omega⟩
      have e : (l.map fun x => tB (Lib.itoa x)).map (·.data.toList) = l.map Lib.itoa := by
        rw [List.map_map]
        exact List.map_congr_left fun x _ => tB_data _
      have hb := listB_len l hl
      unfold listB at hb ⊢
      rw [if_neg c] at hb ⊢
      rw [strings_Join.f_eq, e, show str3.data.toList = [44] from rfl, if_pos ⟨by rw [List.length_map]; omega, by omega⟩, bs]
      rfl
  | cons c r ih =>
    intro i fu ws hq hf hw hi
    obtain ⟨fu, rfl⟩ : ∃ m, fu = m + 1 := ⟨fu - 1, by omega⟩
    have hlen : i < l.length := by
      rcases Nat.lt_or_ge i l.length with h | h
      · exact h
      · rw [List.drop_eq_nil_of_le h] at hq; cases hq
    have hd := drop_cons l i hlen
    rw [hq] at hd
    injection hd with hc hr
    have hb : -9223372036854775808 ≤ c ∧ c ≤ 9223372036854775807 := hl c (hc ▸ List.getElem_mem hlen)
    simp only [List.length_cons] at hf
    rw [impl_listText.l0_eq, if_pos (by omega), if_pos (by omega), if_pos (by omega), rd_at l i hlen, ← hc, itoaV c hb.1 hb.2 K (by omega), bs, if_pos (by rw [List.length_map]; omega), wrap_next hlen (by omega)]
    have := ih (i + 1) fu (ws ++ [c]) hr.symm (by omega) (by rw [hw]; simp) (by simp; omega)
    rw [List.map_append] at this
    exact this
theorem listTextV (l : List Int) (hl : Wf l) (hn : l.length ≤ 1048576) (k : Nat) (hk : 1048700 ≤ k) : impl_listText.f k l = some (tB (listB l)) := by
  obtain ⟨k, rfl⟩ : ∃ m, k = m + 1 := ⟨k - 1, by omega⟩
  rw [impl_listText.f_eq]
  exact listText_l0 k (by omega) l hl hn l 0 k [] rfl (by omega) rfl rfl
end Go.Vm.Pu
