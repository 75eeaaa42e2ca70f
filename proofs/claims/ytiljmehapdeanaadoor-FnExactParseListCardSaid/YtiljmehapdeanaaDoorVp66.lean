/- ParseList of the reference, and ListText: the law. -/
import Derived.Test.YtiljmehapdeanaaDoorVp65
namespace Go.Vm.Pu
open Go Go.RowKit Go.Vm
set_option linter.unusedVariables false
set_option linter.unusedSimpArgs false
def Shorts (l : List Int) : Prop := ∀ x ∈ l, short x
instance (x : Int) : Decidable (short x) := inferInstanceAs (Decidable (_ ∧ _))
instance (l : List Int) : Decidable (Shorts l) := inferInstanceAs (Decidable (∀ x ∈ l, short x))
/-- Which text is which list. -/
def Good (t : List UInt8) (l : List Int) : Prop := (t = [46] ∧ l = []) ∨ (t ≠ [46] ∧ t.length ≤ 900 ∧ (cutB 44 t).length ≤ 60 ∧ cutB 44 t = l.map Lib.itoa ∧ Shorts l)
theorem map_itoa_inj : ∀ {a b : List Int}, a.map Lib.itoa = b.map Lib.itoa → a = b
  | [], [], _ => rfl
  | [], _ :: _, h => by cases h
  | _ :: _, [], h => by cases h
  | x :: a, y :: b, h => by
    simp only [List.map_cons, List.cons.injEq] at h
    rw [itoa_inj h.1, map_itoa_inj h.2]
theorem Good.one {t : List UInt8} {a b : List Int} (h : Good t a) (g : Good t b) : a = b := by
  rcases h with ⟨h1, h2⟩ | ⟨h1, _, _, h2, _⟩
  · rcases g with ⟨g1, g2⟩ | ⟨g1, _⟩
    · rw [h2, g2]
    · exact absurd h1 g1
  · rcases g with ⟨g1, g2⟩ | ⟨g1, _, _, g2, _⟩
    · exact absurd g1 h1
    · exact map_itoa_inj (h2.symm.trans g2)
theorem rd_str (l : List (List UInt8)) (i : Nat) (h : i < l.length) : rd .str (l.map tB) (i : Int) = tB l[i] := by simp [rd, List.getD, h]
theorem parse_loop (K : Nat) (hK : 100 ≤ K) (ps : List (List UInt8)) (hp : ps.length ≤ 60) : ∀ (r : List (List UInt8)) (i fu : Nat) (out : List Int), ps.drop i = r → r.length < fu → out.length + r.length ≤ 1000 →
    ∃ ok l, spec_ParseList.l0 K fu (i : Int) out (ps.map tB) = some (ok, l) ∧ (ok = true → ∃ l2, l = out ++ l2 ∧ r = l2.map Lib.itoa ∧ Shorts l2) ∧ (ok = false → l = [] ∧ ∀ l2, Shorts l2 → r ≠ l2.map Lib.itoa) := by
  intro r
  induction r with
  | nil =>
    intro i fu out hq hf ho
    obtain ⟨fu, rfl⟩ : ∃ m, fu = m + 1 := ⟨fu - 1, by omega⟩
    have hq' : ps.length ≤ i := by simpa using hq
    rw [spec_ParseList.l0_eq, List.length_map, if_neg (by omega)]
    exact ⟨true, out, rfl, fun _ => ⟨[], by simp, rfl, fun x hx => by cases hx⟩, fun h => Bool.noConfusion h⟩
  | cons b r ih =>
    intro i fu out hq hf ho
    obtain ⟨fu, rfl⟩ : ∃ m, fu = m + 1 := ⟨fu - 1, by omega⟩
    have hlen : i < ps.length := by
      rcases Nat.lt_or_ge i ps.length with h | h
      · exact h
      · rw [List.drop_eq_nil_of_le h] at hq; cases hq
    have hdr := drop_cons ps i hlen
    rw [hq] at hdr
    injection hdr with hc hr
    simp only [List.length_cons] at hf ho
    obtain ⟨v, g, e, h1, h2⟩ := numberV b K (by omega)
    rw [spec_ParseList.l0_eq, List.length_map, if_pos (by omega), if_pos (by omega), if_pos (by omega), rd_str ps i hlen, ← hc, e, bs]
    cases g with
    | false =>
      rw [if_pos (show (!(v, false).2) = true from rfl)]
      exact ⟨false, [], rfl, fun h => Bool.noConfusion h, fun _ => ⟨rfl, fun l2 hs hw => by
        cases l2 with
        | nil => cases hw
        | cons x l2 =>
          simp only [List.map_cons, List.cons.injEq] at hw
          exact h2 rfl x (hs x (by simp)) hw.1⟩⟩
    | true =>
      obtain ⟨hv, hb⟩ := h1 rfl
      rw [if_neg (by simp), if_pos (by omega), wrap_next hlen (by omega)]
      obtain ⟨ok, l, e2, g1, g2⟩ := ih (i + 1) fu (out ++ [v]) hr.symm (by omega) (by simp; omega)
      refine ⟨ok, l, e2, fun h => ?_, fun h => ⟨(g2 h).1, fun l2 hs hw => ?_⟩⟩
      · obtain ⟨l2, q1, q2, q3⟩ := g1 h
        exact ⟨v :: l2, by rw [q1]; simp, by rw [List.map_cons, ← hb, ← q2], fun x hx => by
          rcases List.mem_cons.1 hx with h | h
          · exact h ▸ hv
          · exact q3 x h⟩
      · cases l2 with
        | nil => cases hw
        | cons x l2 =>
          simp only [List.map_cons, List.cons.injEq] at hw
          exact (g2 h).2 l2 (fun y hy => hs y (by simp [hy])) hw.2
theorem parseS (t : List UInt8) (ht : t.length ≤ 40000000000) (k : Nat) (hk : 1020 ≤ k) : ∃ ok l, spec_ParseList.f k (tB t) = some (ok, l) ∧ (ok = true → Good t l) ∧ (ok = false → l = [] ∧ ∀ l2, ¬ Good t l2) := by
  obtain ⟨k, rfl⟩ : ∃ m, k = m + 1 := ⟨k - 1, by omega⟩
  rw [spec_ParseList.f_eq, show str2 = tB [46] from rfl]
  by_cases h : t = [46]
  · subst h
    rw [if_pos rfl]
    exact ⟨true, [], rfl, fun _ => .inl ⟨rfl, rfl⟩, fun h => Bool.noConfusion h⟩
  · rw [if_neg (fun e => h (tB_inj e)), tB_size]
    by_cases g : t.length ≤ 900
    · rw [if_neg (by omega)]
      have := splitV t 44 ht k (by omega)
      rw [show (((44 : UInt8)).toNat : Int) = 44 from rfl] at this
      rw [this, bs, List.length_map]
      by_cases p : (cutB 44 t).length ≤ 60
      · rw [if_neg (by omega)]
        obtain ⟨ok, l, e, g1, g2⟩ := parse_loop k (by omega) (cutB 44 t) p (cutB 44 t) 0 k [] rfl (by omega) (by simp; omega)
        rw [show ((0 : Nat) : Int) = 0 from rfl] at e
        refine ⟨ok, l, e, fun hh => ?_, fun hh => ⟨(g2 hh).1, fun l2 hl => ?_⟩⟩
        · obtain ⟨l2, q1, q2, q3⟩ := g1 hh
          rw [List.nil_append] at q1
          subst q1
          exact .inr ⟨h, g, p, q2, q3⟩
        · rcases hl with ⟨q, _⟩ | ⟨_, _, _, q, q2⟩
          · exact h q
          · exact (g2 hh).2 l2 q2 q
      · rw [if_pos (by omega)]
        exact ⟨false, [], rfl, fun h => Bool.noConfusion h, fun _ => ⟨rfl, fun l2 hl => by
          rcases hl with ⟨q, _⟩ | ⟨_, _, q, _⟩
          · exact h q
          · exact p q⟩⟩
    · rw [if_pos (by omega)]
      exact ⟨false, [], rfl, fun h => Bool.noConfusion h, fun _ => ⟨rfl, fun l2 hl => by
        rcases hl with ⟨q, _⟩ | ⟨_, q, _⟩
        · exact h q
        · exact g q⟩⟩
theorem dec_no44 (u : Nat) : (44 : UInt8) ∉ Lib.decDigits u := fun h => absurd (dec_dg u _ h) (by decide)
theorem itoa_no44 (x : Int) : (44 : UInt8) ∉ Lib.itoa x := by
  by_cases c : x < 0
  · rw [itoa_neg x c]
    intro h
    rcases List.mem_cons.1 h with h | h
    · exact absurd h (by decide)
    · exact dec_no44 _ h
  · rw [itoa_nn x c]
    exact dec_no44 _
theorem itoa_no46 (x : Int) : (46 : UInt8) ∉ Lib.itoa x := by
  by_cases c : x < 0
  · rw [itoa_neg x c]
    intro h
    rcases List.mem_cons.1 h with h | h
    · exact absurd h (by decide)
    · exact absurd (dec_dg _ _ h) (by decide)
  · rw [itoa_nn x c]
    exact fun h => absurd (dec_dg _ _ h) (by decide)
theorem itoa_pos (x : Int) : 1 ≤ (Lib.itoa x).length := by
  have := dec_pos x.natAbs
  by_cases c : x < 0
  · rw [itoa_neg x c]; simp
  · rw [itoa_nn x c]; exact this
theorem listB_cons (x : Int) (r : List Int) : listB (x :: r) = Lib.join ((x :: r).map Lib.itoa) [44] := if_neg (by simp)
theorem listB_cut (x : Int) (r : List Int) : cutB 44 (listB (x :: r)) = (x :: r).map Lib.itoa := by
  rw [listB_cons, List.map_cons]
  exact cutB_join 44 _ _ fun y hy => by
    rw [← List.map_cons] at hy
    obtain ⟨z, _, rfl⟩ := List.mem_map.1 hy
    exact itoa_no44 z
theorem listB_ne (x : Int) (r : List Int) : listB (x :: r) ≠ [46] := by
  intro h
  have := listB_cut x r
  rw [h] at this
  have e : cutB 44 ([46] : List UInt8) = [[46]] := by decide
  rw [e, List.map_cons] at this
  simp only [List.cons.injEq] at this
  exact itoa_no46 x (this.1 ▸ by simp)
theorem joinTail_short (r : List Int) (h : Shorts r) : (Lib.joinTail [44] (r.map Lib.itoa)).length ≤ 15 * r.length := by
  induction r with
  | nil => simp [Lib.joinTail]
  | cons x r ih =>
    rw [List.map_cons, joinTail_cons]
    have h1 := short_itoa (h x (by simp))
    have h2 := ih fun y hy => h y (by simp [hy])
    simp only [List.length_append, List.length_cons, List.length_nil]
    omega
theorem listB_short (l : List Int) (h : Shorts l) (hn : l.length ≤ 60) : (listB l).length ≤ 900 := by
  cases l with
  | nil => decide
  | cons x r =>
    rw [listB_cons, List.map_cons, Lib.join_cons]
    have h1 := short_itoa (h x (by simp))
    have h2 := joinTail_short r fun y hy => h y (by simp [hy])
    simp only [List.length_append, List.length_cons] at *
    omega
theorem good_list (l : List Int) (h : Shorts l) (hn : l.length ≤ 60) : Good (listB l) l := by
  cases l with
  | nil => exact .inl ⟨rfl, rfl⟩
  | cons x r => exact .inr ⟨listB_ne x r, listB_short _ h hn, by rw [listB_cut, List.length_map]; exact hn, listB_cut x r, h⟩
theorem good_back {l a : List Int} (h : Good (listB l) a) : a = l ∧ Shorts l := by
  cases l with
  | nil =>
    rcases h with ⟨_, h2⟩ | ⟨h1, _⟩
    · exact ⟨h2, fun x hx => by cases hx⟩
    · exact absurd rfl h1
  | cons x r =>
    rcases h with ⟨h1, _⟩ | ⟨_, _, _, h2, h3⟩
    · exact absurd h1 (listB_ne x r)
    · rw [listB_cut] at h2
      obtain rfl := map_itoa_inj h2
      exact ⟨rfl, h3⟩
/-- ListText, by its meaning. -/
def lt (l : List Int) : ByteArray × Bool := if l.length ≤ 60 ∧ Shorts l then (tB (listB l), true) else (ByteArray.empty, false)
theorem listTextS (l : List Int) (hl : Wf l) (hn : l.length ≤ 1048576) (k : Nat) (hk : 1048800 ≤ k) : spec_ListText.f k l = some (lt l) := by
  obtain ⟨k, rfl⟩ : ∃ m, k = m + 1 := ⟨k - 1, by omega⟩
  rw [spec_ListText.f_eq]
  unfold lt
  by_cases h : l.length ≤ 60
  · rw [if_neg (by omega), l21ListV l hl hn k (by omega), bs]
    obtain ⟨ok, a, e, h1, h2⟩ := parseS (listB l) (by have := listB_len l hl; omega) k (by omega)
    rw [e, bs]
    cases ok with
    | true => rw [if_neg (by simp), if_pos ⟨h, (good_back (h1 rfl)).2⟩]
    | false => rw [if_pos (by simp), if_neg fun g => (h2 rfl).2 l (good_list l g.2 h)]
  · rw [if_pos (by omega), if_neg fun g => h g.1]
theorem isShortV (x : Int) (k : Nat) (hk : 1 ≤ k) : impl_isShort.f k x = some (decide (short x)) := by
  obtain ⟨k, rfl⟩ : ∃ m, k = m + 1 := ⟨k - 1, by omega⟩
  rw [impl_isShort.f_eq]
  unfold short
  by_cases h : x > -10000000000000
  · rw [if_pos h]
    congr 1
    exact decide_eq_decide.2 ⟨fun g => ⟨h, g⟩, fun g => g.2⟩
  · rw [if_neg h]
    congr 1
    exact (decide_eq_false fun g => h g.1).symm
theorem listTextI_l0 (K : Nat) (hK : 1048700 ≤ K) (l : List Int) (hl : Wf l) (hn : l.length ≤ 60) : ∀ (r : List Int) (i fu : Nat), l.drop i = r → r.length < fu →
    impl_ListText.l0 K fu l l (l.length : Int) (i : Int) = some (if Shorts r then (tB (listB l), true) else (ByteArray.empty, false)) := by
  intro r
  induction r with
  | nil =>
    intro i fu hq hf
    obtain ⟨fu, rfl⟩ : ∃ m, fu = m + 1 := ⟨fu - 1, by omega⟩
    have hq' : l.length ≤ i := by simpa using hq
    rw [impl_ListText.l0_eq, if_neg (by omega), listTextV l hl (by omega) K hK, bs]
    exact (congrArg some (if_pos (fun x hx => by cases hx))).symm
  | cons c r ih =>
    intro i fu hq hf
    obtain ⟨fu, rfl⟩ : ∃ m, fu = m + 1 := ⟨fu - 1, by omega⟩
    have hlen : i < l.length := by
      rcases Nat.lt_or_ge i l.length with h | h
      · exact h
      · rw [List.drop_eq_nil_of_le h] at hq; cases hq
    have hd := drop_cons l i hlen
    rw [hq] at hd
    injection hd with hc hr
    simp only [List.length_cons] at hf
    rw [impl_ListText.l0_eq, if_pos (by omega), if_pos (by omega), if_pos (by omega), rd_at l i hlen, ← hc, isShortV c K (by omega), bs]
    by_cases g : short c
    · rw [decide_eq_true g, if_neg (by decide), wrap_next hlen (by omega), ih (i + 1) fu hr.symm (by omega)]
      by_cases g2 : Shorts r
      · rw [if_pos g2, if_pos (c := Shorts (c :: r)) (fun x hx => by
          rcases List.mem_cons.1 hx with h | h
          · exact h ▸ g
          · exact g2 x h)]
      · rw [if_neg g2, if_neg (c := Shorts (c :: r)) (fun h => g2 fun x hx => h x (by simp [hx]))]
    · rw [decide_eq_false g, if_pos (by decide), if_neg (c := Shorts (c :: r)) (fun h => g (h c (by simp)))]
theorem listTextI (l : List Int) (hl : Wf l) (k : Nat) (hk : 1048800 ≤ k) : impl_ListText.f k l = some (lt l) := by
  obtain ⟨k, rfl⟩ : ∃ m, k = m + 1 := ⟨k - 1, by omega⟩
  rw [impl_ListText.f_eq]
  unfold lt
  by_cases h : l.length ≤ 60
  · have := listTextI_l0 k (by omega) l hl h l 0 k rfl (by omega)
    rw [show ((0 : Nat) : Int) = 0 from rfl] at this
    rw [if_neg (by omega), this]
    by_cases g : Shorts l
    · rw [if_pos g, if_pos ⟨h, g⟩]
    · rw [if_neg g, if_neg fun q => g q.2]
  · rw [if_pos (by omega), if_neg fun g => h g.1]
theorem law_ListText (l : List Int) (hl : Wf l) : ∃ k, laws_FnExactListText.f k l = some true := by
  refine ⟨1048900, ?_⟩
  rw [show (1048900 : Nat) = 1048899 + 1 from rfl, laws_FnExactListText.f_eq]
  by_cases h : l.length ≤ 1048576
  · rw [if_neg (by omega), toIntS_f l h _ (by omega), bs, listTextS l hl h _ (by omega), bs, bs, listTextI l hl _ (by omega), bs, if_neg (by simp), if_neg (by simp), bs, eqIntS_f l h _ (by omega), bs, if_neg (by decide)]
  · rw [if_pos (by omega)]
end Go.Vm.Pu
