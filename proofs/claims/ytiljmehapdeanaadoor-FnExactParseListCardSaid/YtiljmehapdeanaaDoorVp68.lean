/- ParseList: the law. -/
import Derived.Test.YtiljmehapdeanaaDoorVp67
namespace Go.Vm.Pu
open Go Go.RowKit Go.Vm
set_option linter.unusedVariables false
set_option linter.unusedSimpArgs false
theorem onto_join (c : UInt8) (p : List UInt8) : ∀ l : List (List UInt8), l ≠ [] → Lib.join (onto p l) [c] = p ++ Lib.join l [c]
  | [], h => absurd rfl h
  | a :: l, _ => by
    show Lib.join ((p ++ a) :: l) [c] = p ++ Lib.join (a :: l) [c]
    rw [Lib.join_cons, Lib.join_cons, List.append_assoc]
theorem join_cut (c : UInt8) : ∀ t : List UInt8, Lib.join (cutB c t) [c] = t
  | [] => rfl
  | b :: t => by
    have ih := join_cut c t
    rw [cutB_cons]
    by_cases h : b = c
    · rw [if_pos h, Lib.join_cons]
      cases e : cutB c t with
      | nil => exact absurd e (cutB_ne c t)
      | cons x r =>
        rw [e, Lib.join_cons] at ih
        rw [joinTail_cons, h, ← ih]
        simp
    · rw [if_neg h, onto_join c [b] _ (cutB_ne c t), ih]
      rfl
theorem good_len {t : List UInt8} {l : List Int} (h : cutB 44 t = l.map Lib.itoa) (hs : Shorts l) (hn : (cutB 44 t).length ≤ 60) : t.length ≤ 900 := by
  have hj := join_cut 44 t
  rw [h] at hj
  have hl : l.length ≤ 60 := by rw [h, List.length_map] at hn; exact hn
  cases l with
  | nil => exact absurd h (cutB_ne 44 t)
  | cons x r =>
    rw [← listB_cons] at hj
    rw [← hj]
    exact listB_short _ hs hl
theorem parseI_loop (K : Nat) (hK : 100 ≤ K) (ps : List (List UInt8)) (hp : ps.length ≤ 60) (hw : ∀ w ∈ ps, w.length ≤ 281474976710656) : ∀ (r : List (List UInt8)) (i fu : Nat) (out : List Int), ps.drop i = r → r.length < fu → out.length + r.length ≤ 1000 →
    ∃ ok l, impl_parseList.l0 K fu (ps.length : Int) (i : Int) out (ps.map tB) = some (ok, l) ∧ (ok = true → ∃ l2, l = out ++ l2 ∧ r = l2.map Lib.itoa ∧ Shorts l2) ∧ (ok = false → l = [] ∧ ∀ l2, Shorts l2 → r ≠ l2.map Lib.itoa) := by
  intro r
  induction r with
  | nil =>
    intro i fu out hq hf ho
    obtain ⟨fu, rfl⟩ : ∃ m, fu = m + 1 := ⟨fu - 1, by omega⟩
    have hq' : ps.length ≤ i := by simpa using hq
    rw [impl_parseList.l0_eq, if_neg (by omega)]
    exact ⟨true, out, rfl, fun _ => ⟨[], by simp, rfl, fun x hx => by cases hx⟩, fun h => Bool.noConfusion h⟩
  | cons b r ih =>
    intro i fu out hq hf ho
    obtain ⟨fu, rfl⟩ : ∃ m, fu = m + 1 := ⟨fu - 1, by omega⟩
    have hlen : i < ps.length := by
      rcases Nat.lt_or_ge i ps.length with h | h
      · exact h
      · rw [List.drop_eq_nil_of_le h] at hq; cases hq
    have hdr := drop_cons ps i hlen
    rw [hq] at hdr
    injection hdr with hc hr
    simp only [List.length_cons] at hf ho
    obtain ⟨v, g, e, h1, h2⟩ := numI b (hw b (hc ▸ List.getElem_mem hlen)) K (by omega)
    rw [impl_parseList.l0_eq, List.length_map, if_pos (by omega), if_pos (by omega), if_pos (by omega), rd_str ps i hlen, ← hc, e, bs]
    cases g with
    | false =>
      rw [if_pos (show (!(v, false).2) = true from rfl)]
      exact ⟨false, [], rfl, fun h => Bool.noConfusion h, fun _ => ⟨rfl, fun l2 hs hw => by
        cases l2 with
        | nil => cases hw
        | cons x l2 =>
          simp only [List.map_cons, List.cons.injEq] at hw
          exact h2 rfl x (hs x (by simp)) hw.1⟩⟩
    | true =>
      obtain ⟨hv, hb⟩ := h1 rfl
      rw [if_neg (by simp), if_pos (by omega), wrap_next hlen (by omega)]
      obtain ⟨ok, l, e2, g1, g2⟩ := ih (i + 1) fu (out ++ [v]) hr.symm (by omega) (by simp; omega)
      refine ⟨ok, l, e2, fun h => ?_, fun h => ⟨(g2 h).1, fun l2 hs hw => ?_⟩⟩
      · obtain ⟨l2, q1, q2, q3⟩ := g1 h
        exact ⟨v :: l2, by rw [q1]; simp, by rw [List.map_cons, ← hb, ← q2], fun x hx => by
          rcases List.mem_cons.1 hx with h | h
          · exact h ▸ hv
          · exact q3 x h⟩
      · cases l2 with
        | nil => cases hw
        | cons x l2 =>
          simp only [List.map_cons, List.cons.injEq] at hw
          exact (g2 h).2 l2 (fun y hy => hs y (by simp [hy])) hw.2
theorem cutB_mem (c : UInt8) : ∀ (t : List UInt8), ∀ w ∈ cutB c t, w.length ≤ t.length
  | [], w, hw => by
    have : w = [] := by simpa [cutB] using hw
    subst this; simp
  | b :: t, w, hw => by
    rw [cutB_cons] at hw
    split at hw
    · rcases List.mem_cons.1 hw with h | h
      · subst h; simp
      · have := cutB_mem c t w h
        simp; omega
    · cases e : cutB c t with
      | nil => exact absurd e (cutB_ne c t)
      | cons x r =>
        rw [e] at hw
        rcases List.mem_cons.1 hw with h | h
        · have := cutB_mem c t x (by rw [e]; simp)
          subst h; simp; omega
        · have := cutB_mem c t w (by rw [e]; simp [h])
          simp; omega
theorem parseI (t : List UInt8) (ht : t.length ≤ 4000000000) (k : Nat) (hk : 1020 ≤ k) : ∃ ok l, impl_parseList.f k (tB t) = some (ok, l) ∧ (ok = true → Good t l) ∧ (ok = false → l = [] ∧ ∀ l2, ¬ Good t l2) := by
  obtain ⟨k, rfl⟩ : ∃ m, k = m + 1 := ⟨k - 1, by omega⟩
  rw [impl_parseList.f_eq, show str2 = tB [46] from rfl, show str3 = tB [44] from rfl]
  by_cases h : t = [46]
  · subst h
    rw [if_pos rfl]
    exact ⟨true, [], rfl, fun _ => .inl ⟨rfl, rfl⟩, fun h => Bool.noConfusion h⟩
  · rw [if_neg (fun e => h (tB_inj e)), splitI t 44 ht k (by omega), bs, List.length_map]
    by_cases p : (cutB 44 t).length ≤ 60
    · rw [if_neg (by omega)]
      obtain ⟨ok, l, e, g1, g2⟩ := parseI_loop k (by omega) (cutB 44 t) p (fun w hw => by have := cutB_mem 44 t w hw; omega) (cutB 44 t) 0 k [] rfl (by omega) (by simp; omega)
      rw [show ((0 : Nat) : Int) = 0 from rfl] at e
      refine ⟨ok, l, e, fun hh => ?_, fun hh => ⟨(g2 hh).1, fun l2 hl => ?_⟩⟩
      · obtain ⟨l2, q1, q2, q3⟩ := g1 hh
        rw [List.nil_append] at q1
        subst q1
        exact .inr ⟨h, good_len q2 q3 p, p, q2, q3⟩
      · rcases hl with ⟨q, _⟩ | ⟨_, _, _, q, q2⟩
        · exact h q
        · exact (g2 hh).2 l2 q2 q
    · rw [if_pos (by omega)]
      exact ⟨false, [], rfl, fun h => Bool.noConfusion h, fun _ => ⟨rfl, fun l2 hl => by
        rcases hl with ⟨q, _⟩ | ⟨_, _, q, _⟩
        · exact h q
        · exact p q⟩⟩
theorem good_max {t : List UInt8} {l : List Int} (h : Good t l) : l.length ≤ 60 ∧ Shorts l := by
  rcases h with ⟨_, h⟩ | ⟨_, _, h1, h2, h3⟩
  · subst h
    exact ⟨by simp, fun x hx => by cases hx⟩
  · rw [h2, List.length_map] at h1
    exact ⟨h1, h3⟩
/-- Both read the same. -/
theorem parse_both (t : List UInt8) (ht : t.length ≤ 4000000000) (k : Nat) (hk : 1020 ≤ k) : ∃ ok l, spec_ParseList.f k (tB t) = some (ok, l) ∧ impl_parseList.f k (tB t) = some (ok, l) ∧ l.length ≤ 60 ∧ Shorts l ∧ (ok = true → Good t l) ∧ (ok = false → l = [] ∧ ∀ l2, ¬ Good t l2) := by
  obtain ⟨o1, l1, e1, a1, b1⟩ := parseS t (by omega) k hk
  obtain ⟨o2, l2, e2, a2, b2⟩ := parseI t ht k hk
  have hh : o2 = o1 ∧ l2 = l1 := by
    cases o1 with
    | true =>
      cases o2 with
      | true => exact ⟨rfl, (a2 rfl).one (a1 rfl)⟩
      | false => exact absurd (a1 rfl) ((b2 rfl).2 l1)
    | false =>
      cases o2 with
      | true => exact absurd (a2 rfl) ((b1 rfl).2 l2)
      | false => exact ⟨rfl, (b2 rfl).1.trans (b1 rfl).1.symm⟩
  obtain ⟨rfl, rfl⟩ := hh
  refine ⟨o2, l2, e1, e2, ?_, ?_, a1, b1⟩
  · cases o2 with
    | true => exact (good_max (a1 rfl)).1
    | false => rw [(b1 rfl).1]; simp
  · cases o2 with
    | true => exact (good_max (a1 rfl)).2
    | false => rw [(b1 rfl).1]; exact fun x hx => by cases hx
theorem law_ParseList (t : ByteArray) : ∃ k, laws_FnExactParseList.f k t = some true := by
  refine ⟨3000, ?_⟩
  rw [show (3000 : Nat) = 2999 + 1 from rfl, laws_FnExactParseList.f_eq]
  by_cases h : t.size ≤ 1048576
  · obtain ⟨l, rfl⟩ : ∃ l, t = tB l := ⟨t.data.toList, (tB_list t).symm⟩
    rw [tB_size] at h
    obtain ⟨ok, r, e1, e2, hn, _, _, _⟩ := parse_both l (by omega) 2998 (by omega)
    obtain ⟨ok', r', e3, _, _⟩ := parseS l (by omega) 2999 (by omega)
    have e4 : impl_ParseList.f 2999 (tB l) = some (ok, r) := by
      rw [show (2999 : Nat) = 2998 + 1 from rfl, impl_ParseList.f_eq, e2, bs]
    obtain ⟨o5, r5, e5, e6, _⟩ := parse_both l (by omega) 2999 (by omega)
    have e7 : spec_ParseList.f 2999 (tB l) = some (ok, r) := by
      obtain ⟨oa, ra, ea, pa, qa⟩ := parseS l (by omega) 2998 (by omega)
      obtain ⟨ob, rb, eb, pb, qb⟩ := parseS l (by omega) 2999 (by omega)
      rw [e1] at ea
      obtain ⟨rfl, rfl⟩ : ok = oa ∧ r = ra := by injection ea with ea; injection ea with x y; exact ⟨x, y⟩
      rw [eb]
      cases ok with
      | true =>
        cases ob with
        | true => rw [(pa rfl).one (pb rfl)]
        | false => exact absurd (pa rfl) ((qb rfl).2 r)
      | false =>
        cases ob with
        | true => exact absurd (pb rfl) ((qa rfl).2 rb)
        | false => rw [(qa rfl).1, (qb rfl).1]
    rw [tB_size, if_neg (by omega), e7, bs, e4, bs, eqIntS_f r (by omega) _ (by omega), bs, if_neg (by decide), if_neg (by simp), markI_f r 1 (by omega) (by omega) (by omega) _ (by omega), bs,
      heldI_f 1 r.length (by omega) (by omega) (by omega) _ (by omega), bs, if_neg (by omega), if_neg (by simp), bs, eqIntS_f r (by omega) _ (by omega), bs, if_neg (by decide), if_neg (by simp), bs, if_neg (by omega), if_neg (by simp)]
  · rw [if_pos (by omega)]
end Go.Vm.Pu
