/- The reading is sound: each step of the program does what the reading tells; the conditions are those of each lemma. -/
import Derived.Test.YtiljmehapdeanaaDoorVmC
import Derived.ProofKit
import Derived.OpenShut
import Derived.ChangeSlices
import Derived.DataReads
namespace Go.Vm
open Go Go.RowKit
set_option linter.unusedVariables false
set_option linter.unusedSimpArgs false
variable {E : Env} {orc : Orc E} {ops : Array Oper} {ntm : Nat} {base : St}
theorem Trc.bounds : ∀ {acc : List Ent} {nx : Nat}, Trc orc ops ntm base acc nx → base.nx ≤ nx ∧ ∀ e ∈ acc, base.nx ≤ e.lo ∧ e.lo ≤ e.hi ∧ e.hi ≤ nx := by
  intro acc nx h
  induction h with
  | nil => exact ⟨Nat.le_refl _, fun e he => by simp at he⟩
  | cons h hi ho hd hb hdst hok hnew hun hlo did ih =>
    rename_i acc nx o e
    have hf := did.facts.le
    refine ⟨Nat.le_trans ih.1 hf, fun e' he' => ?_⟩
    cases he' with
    | head => exact ⟨by rw [hlo]; exact ih.1, by rw [hlo]; exact hf, Nat.le_refl _⟩
    | tail _ he' =>
      obtain ⟨h1, h2, h3⟩ := ih.2 e' he'
      exact ⟨h1, h2, Nat.le_trans h3 hf⟩
theorem Trc.split : ∀ {l1 l2 : List Ent} {e : Ent} {nx : Nat}, Trc orc ops ntm base (l1 ++ e :: l2) nx → ∃ o, Trc orc ops ntm base l2 e.lo ∧ e.idx = l2.length ∧ ops[l2.length]? = some o ∧ e.deps = depsOf l2 o.after.toList ∧ backE l2.length o.after.toList = true ∧ e.dst = o.dst ∧ dstOk ntm o.dst = true ∧
    newDst o.dst l2 = true ∧ Did orc ops base l2 e.lo o e ∧ e.hi ≤ nx
  | [], l2, e, nx, h => by
    cases h with
    | cons h hi ho hd hb hdst hok hnew hun hlo did =>
      subst hlo
      exact ⟨_, h, hi, ho, hd, hb, hdst, hok, hnew, did, Nat.le_refl _⟩
  | m :: l1, l2, e, nx, h => by
    cases h with
    | cons h hi ho hd hb hdst hok hnew hun hlo did =>
      obtain ⟨o, g1, g2, g3, g4, g5, g6, g7, g8, g9, g10⟩ := Trc.split (l1 := l1) h
      exact ⟨o, g1, g2, g3, g4, g5, g6, g7, g8, g9, Nat.le_trans g10 (did.facts.le)⟩
theorem madeBy_iff {D n i : Nat} : ∀ {acc : List Ent}, madeBy D n acc i = true → i < n ∨ ∃ e ∈ acc, Nat.testBit D e.idx = true ∧ e.lo ≤ i ∧ i < e.hi
  | [], h => .inl (Nat.le_of_ble_eq_true h)
  | e :: l, h => by
    simp only [madeBy, Bool.or_eq_true, Bool.and_eq_true] at h
    rcases h with ⟨h1, h2, h3⟩ | h
    · exact .inr ⟨e, by simp, h1, Nat.le_of_ble_eq_true h2, Nat.le_of_ble_eq_true h3⟩
    · rcases madeBy_iff h with h | ⟨e', h1, h2⟩
      · exact .inl h
      · exact .inr ⟨e', by simp [h1], h2⟩
/-- The base: its names are below its bound. -/
structure BaseOk (base : St) : Prop where
  lt : ∀ id, hget base.hp id ≠ .dead → id < base.nx
  ids : ∀ id, ∀ i ∈ (hget base.hp id).ids, i < base.nx
theorem Trc.env_lt (hB : BaseOk base) (D : Nat) : ∀ {acc : List Ent} {nx : Nat}, Trc orc ops ntm base acc nx → ∀ id, hget (envHp D acc base.hp) id ≠ .dead → id < nx := by
  intro acc nx h
  induction h generalizing D with
  | nil => exact fun id h => hB.lt id h
  | cons h hi ho hd hb hdst hok hnew hun hlo did ih =>
    rename_i acc nx o e
    intro id hne
    have hf := did.facts
    simp only [envHp] at hne
    split at hne
    · rw [hget_append] at hne
      cases hg : get? e.eff id with
      | none => rw [hg] at hne; exact Nat.lt_of_lt_of_le (ih D id hne) hf.le
      | some B =>
        rcases hf.eff id (mem_keysOf hg) with h1 | h1
        · exact h1.2
        · rw [(hf.view id).resolve_left h1] at h1
          exact Nat.lt_of_lt_of_le (ih e.deps id h1) hf.le
    · rw [hget_deadAll] at hne
      split at hne
      · exact absurd rfl hne
      · exact Nat.lt_of_lt_of_le (ih D id hne) hf.le
theorem Did.view_lt {acc : List Ent} {nx : Nat} {o : Oper} {e : Ent} (hB : BaseOk base) (h : Trc orc ops ntm base acc nx) (did : Did orc ops base acc nx o e) : ∀ id, hget e.view id ≠ .dead → id < nx := by
  intro id hne
  rw [(did.facts.view id).resolve_left hne] at hne
  exact h.env_lt hB _ id hne
/-- What was done behind an operation that is not done touches nothing that it sees. -/
theorem Trc.later (hB : BaseOk base) {Ex : Nat → Bool} {e : Ent} {l2 : List Ent} (hE : Ex e.idx = false) {id : Nat} (hid : id < e.lo) (hq : hget e.view id = .dead → hget (exHp Ex l2 base.hp) id = .dead) :
    ∀ {l1 : List Ent} {nx : Nat}, Trc orc ops ntm base (l1 ++ e :: l2) nx → (∀ m ∈ l1, Ex m.idx = true → ∀ j, Nat.testBit m.deps j = true → Ex j = true) → hget (exHp Ex (l1 ++ e :: l2) base.hp) id = hget (exHp Ex l2 base.hp) id
  | [], nx, h, hc => by simp only [List.nil_append, exHp, hE]
  | m :: l1, nx, h, hc => by
    have h' := h
    cases h with
    | cons ht hi ho hd hb hdst hok hnew hun hlo did =>
      have ih := Trc.later hB hE hid hq ht (fun m' hm => hc m' (by simp [hm]))
      simp only [List.cons_append, exHp]
      cases hm : Ex m.idx with
      | false => exact ih
      | true =>
        simp only
        have hdeps := hc m (by simp) hm
        rw [hget_append, get?_none]
        · exact ih
        · intro hk
          have hf := did.facts
          obtain ⟨o', g1, g2, g3, g4, g5, g6, g7, g8, g9, g10⟩ := Trc.split (l1 := l1) ht
          have hb2 := (g1.bounds)
          have hle : e.lo ≤ e.hi := g9.facts.le
          rcases hf.unseen e (by simp) with h1 | h1
          · rw [hdeps _ h1] at hE; cases hE
          · have hnf : ¬ (m.lo ≤ id) := by rw [hlo]; omega
            rw [hlo] at hnf
            have hdead : hget e.view id = .dead := (h1 id hk).resolve_left hnf
            have hgone := hq hdead
            rcases hf.eff id hk with h2 | h2
            · exact hnf h2.1
            · rw [(hf.view id).resolve_left h2] at h2
              have h3 := (env_sub hdeps (b := base.hp) (id := id) (l1 ++ e :: l2)).resolve_left h2
              exact h2 (h3.trans (ih.trans hgone))
end Go.Vm
namespace Go.Vm
open Go Go.RowKit
set_option linter.unusedVariables false
set_option linter.unusedSimpArgs false
variable {E : Env} {orc : Orc E} {ops : Array Oper} {ntm : Nat} {base : St}
theorem Trc.ex_lt (hB : BaseOk base) (Ex : Nat → Bool) : ∀ {acc : List Ent} {nx : Nat}, Trc orc ops ntm base acc nx → ∀ id, hget (exHp Ex acc base.hp) id ≠ .dead → id < nx := by
  intro acc nx h
  induction h with
  | nil => exact fun id h => hB.lt id h
  | cons h hi ho hd hb hdst hok hnew hun hlo did ih =>
    rename_i acc nx o e
    intro id hne
    have hf := did.facts
    simp only [exHp] at hne
    split at hne
    · rw [hget_append] at hne
      cases hg : get? e.eff id with
      | none => rw [hg] at hne; exact Nat.lt_of_lt_of_le (ih id hne) hf.le
      | some B =>
        rcases hf.eff id (mem_keysOf hg) with h1 | h1
        · exact h1.2
        · exact Nat.lt_of_lt_of_le (did.view_lt hB h id h1) hf.le
    · exact Nat.lt_of_lt_of_le (ih id hne) hf.le
theorem Trc.ex_ids (hB : BaseOk base) (Ex : Nat → Bool) : ∀ {acc : List Ent} {nx : Nat}, Trc orc ops ntm base acc nx → ∀ id, ∀ i ∈ (hget (exHp Ex acc base.hp) id).ids, i < nx := by
  intro acc nx h
  induction h with
  | nil => exact fun id i h => hB.ids id i h
  | cons h hi ho hd hb hdst hok hnew hun hlo did ih =>
    rename_i acc nx o e
    intro id i hi'
    have hf := did.facts
    simp only [exHp] at hi'
    split at hi'
    · rw [hget_append] at hi'
      cases hg : get? e.eff id with
      | none => rw [hg] at hi'; exact Nat.lt_of_lt_of_le (ih id i hi') hf.le
      | some B =>
        rw [hg] at hi'
        rcases hf.effIds i (hpIds_mem hg i hi') with h1 | h1
        · exact h1.2
        · rcases madeBy_iff h1 with h2 | ⟨e', h2, h3, h4, h5⟩
          · exact Nat.lt_of_lt_of_le h2 (Nat.le_trans h.bounds.1 hf.le)
          · exact Nat.lt_of_lt_of_le h5 (Nat.le_trans (h.bounds.2 e' h2).2.2 hf.le)
    · exact Nat.lt_of_lt_of_le (ih id i hi') hf.le
theorem Trc.order {e : Ent} {l2 : List Ent} : ∀ {l1 : List Ent} {nx : Nat}, Trc orc ops ntm base (l1 ++ e :: l2) nx → ∀ m ∈ l1, e.hi ≤ m.lo
  | [], nx, h, m, hm => by simp at hm
  | a :: l1, nx, h, m, hm => by
    cases h with
    | cons ht hi ho hd hb hdst hok hnew hun hlo did =>
      cases hm with
      | head =>
        obtain ⟨o', g1, g2, g3, g4, g5, g6, g7, g8, g9, g10⟩ := Trc.split (l1 := l1) ht
        rw [hlo]; exact g10
      | tail _ hm => exact Trc.order (l1 := l1) ht m hm
/-- The new names of an operation that is not done yet. -/
theorem Trc.fresh (hB : BaseOk base) {Ex : Nat → Bool} {e : Ent} {l2 : List Ent} (hE : Ex e.idx = false) {id : Nat} (h1 : e.lo ≤ id) (h2 : id < e.hi) :
    ∀ {l1 : List Ent} {nx : Nat}, Trc orc ops ntm base (l1 ++ e :: l2) nx → (∀ m ∈ l1, Ex m.idx = true → ∀ j, Nat.testBit m.deps j = true → Ex j = true) → hget (exHp Ex (l1 ++ e :: l2) base.hp) id = .dead
  | [], nx, h, hc => by
    obtain ⟨o', g1, _⟩ := Trc.split (l1 := []) h
    simp only [List.nil_append, exHp, hE]
    cases hd : isDead (exHp Ex l2 base.hp) id with
    | true => exact isDead_iff.1 hd
    | false =>
      have := g1.ex_lt hB Ex id (isDead_false.1 hd)
      omega
  | m :: l1, nx, h, hc => by
    have ho := Trc.order h m (by simp)
    cases h with
    | cons ht hi ho' hd hb hdst hok hnew hun hlo did =>
      have ih := Trc.fresh hB hE h1 h2 (l1 := l1) ht (fun m' hm => hc m' (by simp [hm]))
      simp only [List.cons_append, exHp]
      cases hm : Ex m.idx with
      | false => exact ih
      | true =>
        simp only
        have hdeps := hc m (by simp) hm
        rw [hget_append, get?_none]
        · exact ih
        · intro hk
          have hf := did.facts
          rcases hf.eff id hk with h3 | h3
          · rw [← hlo] at h3; omega
          · rw [(hf.view id).resolve_left h3] at h3
            exact h3 (((env_sub hdeps (b := base.hp) (id := id) (l1 ++ e :: l2)).resolve_left h3).trans ih)
theorem Trc.clean (hB : BaseOk base) {Ex : Nat → Bool} {e : Ent} {l2 : List Ent} (hE : Ex e.idx = false) {id i : Nat} :
    ∀ {l1 : List Ent} {nx : Nat}, Trc orc ops ntm base (l1 ++ e :: l2) nx → (∀ m ∈ l1, Ex m.idx = true → ∀ j, Nat.testBit m.deps j = true → Ex j = true) → i ∈ (hget (exHp Ex (l1 ++ e :: l2) base.hp) id).ids → ¬ (e.lo ≤ i ∧ i < e.hi)
  | [], nx, h, hc, hi => by
    obtain ⟨o', g1, _⟩ := Trc.split (l1 := []) h
    simp only [List.nil_append, exHp, hE] at hi
    have := g1.ex_ids hB Ex id i hi
    omega
  | m :: l1, nx, h, hc, hi => by
    have ho := Trc.order h m (by simp)
    cases h with
    | cons ht hix ho' hd hb hdst hok hnew hun hlo did =>
      have ih := Trc.clean hB hE (id := id) (i := i) (l1 := l1) ht (fun m' hm => hc m' (by simp [hm]))
      simp only [List.cons_append, exHp] at hi
      cases hm : Ex m.idx with
      | false => rw [hm] at hi; exact ih hi
      | true =>
        rw [hm] at hi
        simp only at hi
        have hdeps := hc m (by simp) hm
        rw [hget_append] at hi
        cases hg : get? m.eff id with
        | none => rw [hg] at hi; exact ih hi
        | some B =>
          rw [hg] at hi
          have hf := did.facts
          obtain ⟨o', g1, _⟩ := Trc.split (l1 := l1) ht
          rcases hf.effIds i (hpIds_mem hg i hi) with h3 | h3
          · rw [← hlo] at h3; omega
          · rcases madeBy_iff h3 with h4 | ⟨e', h4, h5, h6, h7⟩
            · have := g1.bounds.1; omega
            · have h4' : e' ∈ l1 ++ e :: l2 := h4
              rcases List.mem_append.1 h4' with h8 | h8
              · have := Trc.order (l1 := l1) ht e' h8; omega
              · cases h8 with
                | head => rw [hdeps _ h5] at hE; cases hE
                | tail _ h8 => have := (g1.bounds.2 e' h8).2.2; omega
end Go.Vm
namespace Go.Vm
open Go Go.RowKit
set_option linter.unusedVariables false
set_option linter.unusedSimpArgs false
variable {E : Env} {orc : Orc E} {ops : Array Oper} {ntm : Nat} {base : St}
theorem Trc.sees (hB : BaseOk base) {Ex : Nat → Bool} {e : Ent} {l1 l2 : List Ent} {nx : Nat} {X : Cx} {C : Cc} (h : Trc orc ops ntm base (l1 ++ e :: l2) nx) (hE : Ex e.idx = false) (hD : ∀ j, Nat.testBit e.deps j = true → Ex j = true)
    (hc : ∀ m ∈ l1, Ex m.idx = true → ∀ j, Nat.testBit m.deps j = true → Ex j = true) (hown : ∀ i ∈ hpIds e.view, qOk e.deps base.nx l2 (envHp e.deps l2 base.hp) e.view i = true) :
    View X C (exHp Ex (l1 ++ e :: l2) base.hp) e.view e.lo (fun i => qOk e.deps base.nx l2 (envHp e.deps l2 base.hp) e.view i = true) := by
  obtain ⟨o, g1, g2, g3, g4, g5, g6, g7, g8, g9, g10⟩ := h.split
  have hv := g9.facts.view
  have hplt : ∀ id, qOk e.deps base.nx l2 (envHp e.deps l2 base.hp) e.view id = true → id < e.lo := by
    intro id hp
    simp only [qOk, pOk, Bool.and_eq_true] at hp
    rcases madeBy_iff hp.1.1 with h1 | ⟨e', h1, h2, h3, h4⟩
    · exact Nat.lt_of_lt_of_le h1 g1.bounds.1
    · exact Nat.lt_of_lt_of_le h4 (g1.bounds.2 e' h1).2.2
  have hlt : ∀ id, hget e.view id ≠ .dead → id < e.lo := g9.view_lt hB g1
  refine ⟨fun id hp => ?_, hplt, fun id i hi => ?_, fun id => ?_, hlt⟩
  · have hp' := hp
    simp only [qOk, pOk, Bool.and_eq_true, Bool.not_eq_true', Bool.or_eq_true] at hp
    have e0 : hget e.view id = hget (envHp e.deps l2 base.hp) id := by
      rcases hv id with h0 | h0
      · rcases hp.2 with h1 | h1
        · exact absurd h0 (isDead_false.1 h1)
        · rw [h0, isDead_iff.1 h1]
      · exact h0
    have e1 : hget e.view id = hget (exHp Ex l2 base.hp) id := by rw [e0]; exact env_eq hD l2 hp.1.2
    rw [h.later hB hE (hplt id hp') (fun hd => by rw [← e1]; exact hd) hc]
    exact e1
  · unfold hget at hi
    split at hi
    · rename_i B hg
      exact hown i (hpIds_mem hg i hi)
    · simp [Blk.ids] at hi
  · cases hd : isDead e.view id with
    | true => exact .inl (isDead_iff.1 hd)
    | false =>
      have ha := isDead_false.1 hd
      right
      have e1 : hget e.view id = hget (exHp Ex l2 base.hp) id := by
        have := env_sub hD (b := base.hp) (id := id) l2
        rw [← (hv id).resolve_left ha] at this
        exact this.resolve_left ha
      rw [h.later hB hE (hlt id ha) (fun hd => absurd hd ha) hc]
      exact e1
/-- Slots that an operation reads. -/
theorem ex_tm1 {Ex : Nat → Bool} {D : Nat} (hD : ∀ j, Nat.testBit D j = true → Ex j = true) {b : Tm} {t : Nat} : ∀ acc : List Ent, tget (envTm D acc b) t = .junk ∨ tget (envTm D acc b) t = tget (exTm Ex acc b) t
  | [] => .inr rfl
  | e :: l => by
    have ih := ex_tm1 hD (b := b) (t := t) l
    simp only [envTm, exTm]
    cases hd : e.dst with
    | none =>
      simp only
      cases Ex e.idx with
      | true => exact ih
      | false => exact ih
    | some d =>
      simp only
      cases hdd : Nat.testBit D e.idx with
      | true =>
        rw [hD _ hdd]
        simp only
        rw [tget_cons, tget_cons]
        split
        · exact .inr rfl
        · exact ih
      | false =>
        simp only
        rw [tget_cons]
        split
        · exact .inl rfl
        · rename_i hne
          cases Ex e.idx with
          | true => simp only; rw [tget_cons, if_neg hne]; exact ih
          | false => exact ih
theorem unread_mem {D d : Nat} : ∀ {acc : List Ent}, unread D (some d) acc = true → ∀ e ∈ acc, Nat.testBit D e.idx = true ∨ d ∉ e.rd
  | [], _, e, he => by simp at he
  | a :: l, h, e, he => by
    simp only [unread, Bool.and_eq_true, Bool.or_eq_true, Bool.not_eq_true'] at h
    cases he with
    | head =>
      rcases h.1 with h1 | h1
      · exact .inl h1
      · refine .inr fun hm => ?_
        rw [memN_iff.2 hm] at h1; cases h1
    | tail _ he => exact unread_mem h.2 e he
theorem ex_tm {Ex : Nat → Bool} {e : Ent} {l2 : List Ent} (hE : Ex e.idx = false) (hD : ∀ j, Nat.testBit e.deps j = true → Ex j = true) {b : Tm} {t : Nat} (ht : t ∈ e.rd ∨ ∃ m ∈ l2, m.dst = some t) : ∀ {l1 : List Ent} {nx : Nat}, Trc orc ops ntm base (l1 ++ e :: l2) nx →
    (∀ m ∈ l1, Ex m.idx = true → ∀ j, Nat.testBit m.deps j = true → Ex j = true) → tget (envTm e.deps l2 b) t = .junk ∨ tget (envTm e.deps l2 b) t = tget (exTm Ex (l1 ++ e :: l2) b) t
  | [], nx, h, hc => by
    have := ex_tm1 hD (b := b) (t := t) l2
    simpa only [List.nil_append, exTm, hE] using this
  | m :: l1, nx, h, hc => by
    cases h with
    | cons h' hi ho hd hb hdst hok hnew hun hlo did =>
      have ih := ex_tm hE hD ht (b := b) (l1 := l1) h' (fun m' hm => hc m' (by simp [hm]))
      have hs : tget (exTm Ex (m :: (l1 ++ e :: l2)) b) t = tget (exTm Ex (l1 ++ e :: l2) b) t := by
        simp only [exTm]
        cases hx : Ex m.idx with
        | false => rfl
        | true =>
          cases hmd : m.dst with
          | none => rfl
          | some d =>
            simp only
            rw [tget_cons, if_neg]
            rintro rfl
            rcases ht with ht | ⟨m', h1, h2⟩
            · rw [← hdst, hmd] at hun
              rcases unread_mem hun e (by simp) with h3 | h3
              · have := hc m (by simp) hx _ h3
                rw [hE] at this; cases this
              · exact h3 ht
            · rw [← hdst, hmd] at hnew
              exact newDst_mem hnew m' (by simp [h1]) h2
      rw [List.cons_append, hs]
      exact ih
end Go.Vm
namespace Go.Vm
open Go Go.RowKit
set_option linter.unusedVariables false
set_option linter.unusedSimpArgs false
variable {E : Env} {orc : Orc E} {ops : Array Oper} {ntm : Nat} {base : St}
end Go.Vm
namespace Go.Vm
open Go Go.RowKit
set_option linter.unusedVariables false
set_option linter.unusedSimpArgs false
variable {E : Env} {orc : Orc E} {ops : Array Oper} {ntm : Nat} {base : St}
theorem exTm_from {Ex : Nat → Bool} {b : Tm} {t : Nat} : ∀ acc : List Ent, tget (exTm Ex acc b) t = tget b t ∨ ∃ m ∈ acc, Ex m.idx = true ∧ m.dst = some t ∧ tget (exTm Ex acc b) t = m.v
  | [] => .inl rfl
  | e :: l => by
    have up : (tget (exTm Ex l b) t = tget b t ∨ ∃ m ∈ l, Ex m.idx = true ∧ m.dst = some t ∧ tget (exTm Ex l b) t = m.v) → (tget (exTm Ex l b) t = tget b t ∨ ∃ m ∈ e :: l, Ex m.idx = true ∧ m.dst = some t ∧ tget (exTm Ex l b) t = m.v) := by
      rintro (h | ⟨m, h1, h2⟩)
      · exact .inl h
      · exact .inr ⟨m, by simp [h1], h2⟩
    have ih := up (exTm_from l)
    simp only [exTm]
    cases hx : Ex e.idx with
    | true =>
      simp only
      cases hd : e.dst with
      | none => exact ih
      | some d =>
        simp only
        rw [tget_cons]
        split
        · rename_i h; subst h; exact .inr ⟨e, by simp, hx, hd, rfl⟩
        · exact ih
    | false => exact ih
theorem envTm_from {D : Nat} {b : Tm} {t : Nat} : ∀ acc : List Ent, tget (envTm D acc b) t = tget b t ∨ tget (envTm D acc b) t = .junk ∨ ∃ m ∈ acc, tget (envTm D acc b) t = m.v
  | [] => .inl rfl
  | e :: l => by
    have up : (tget (envTm D l b) t = tget b t ∨ tget (envTm D l b) t = .junk ∨ ∃ m ∈ l, tget (envTm D l b) t = m.v) → (tget (envTm D l b) t = tget b t ∨ tget (envTm D l b) t = .junk ∨ ∃ m ∈ e :: l, tget (envTm D l b) t = m.v) := by
      rintro (h | h | ⟨m, h1, h2⟩)
      · exact .inl h
      · exact .inr (.inl h)
      · exact .inr (.inr ⟨m, by simp [h1], h2⟩)
    have ih := up (envTm_from l)
    simp only [envTm]
    cases hd : e.dst with
    | none => exact ih
    | some d =>
      simp only
      cases hx : Nat.testBit D e.idx with
      | true =>
        simp only
        rw [tget_cons]
        split
        · exact .inr (.inr ⟨e, by simp, rfl⟩)
        · exact ih
      | false =>
        simp only
        rw [tget_cons]
        split
        · exact .inr (.inl rfl)
        · exact ih
/-- Values of a trace speak of names below its bound. -/
theorem Trc.v_lt : ∀ {acc : List Ent} {nx : Nat}, Trc orc ops ntm base acc nx → ∀ m ∈ acc, ∀ i ∈ m.v.ids, i < nx := by
  intro acc nx h
  induction h with
  | nil => exact fun e he => by simp at he
  | cons h hi ho hd hb hdst hok hnew hun hlo did ih =>
    rename_i acc nx o e
    intro m hm i hi'
    have hf := did.facts
    cases hm with
    | head =>
      rcases hf.ids i hi' with h1 | h1
      · exact h1.2
      · rcases madeBy_iff h1 with h2 | ⟨e', h2, h3, h4, h5⟩
        · exact Nat.lt_of_lt_of_le h2 (Nat.le_trans h.bounds.1 hf.le)
        · exact Nat.lt_of_lt_of_le h5 (Nat.le_trans (h.bounds.2 e' h2).2.2 hf.le)
    | tail _ hm => exact Nat.lt_of_lt_of_le (ih m hm i hi') hf.le
theorem Trc.v_clean {Ex : Nat → Bool} {e : Ent} {l2 : List Ent} (hE : Ex e.idx = false) {i : Nat} :
    ∀ {l1 : List Ent} {nx : Nat}, Trc orc ops ntm base (l1 ++ e :: l2) nx → (∀ m ∈ l1, Ex m.idx = true → ∀ j, Nat.testBit m.deps j = true → Ex j = true) → ∀ m ∈ l1 ++ e :: l2, Ex m.idx = true → i ∈ m.v.ids → ¬ (e.lo ≤ i ∧ i < e.hi)
  | [], nx, h, hc, m, hm, hx, hi => by
    obtain ⟨o', g1, _⟩ := Trc.split (l1 := []) h
    cases hm with
    | head => rw [hx] at hE; cases hE
    | tail _ hm => have := g1.v_lt m hm i hi; omega
  | a :: l1, nx, h, hc, m, hm, hx, hi => by
    have ho := Trc.order h a (by simp)
    cases h with
    | cons ht hix ho' hd hb hdst hok hnew hun hlo did =>
      have hm' : m ∈ a :: (l1 ++ e :: l2) := hm
      cases hm' with
      | tail _ hm' => exact Trc.v_clean hE (l1 := l1) ht (fun m' h => hc m' (by simp [h])) m hm' hx hi
      | head =>
        have hdeps := hc a (by simp) hx
        have hf := did.facts
        obtain ⟨o', g1, _⟩ := Trc.split (l1 := l1) ht
        rcases hf.ids i hi with h3 | h3
        · rw [← hlo] at h3; omega
        · rcases madeBy_iff h3 with h4 | ⟨e', h4, h5, h6, h7⟩
          · have := g1.bounds.1; omega
          · have h4' : e' ∈ l1 ++ e :: l2 := h4
            rcases List.mem_append.1 h4' with h8 | h8
            · have := Trc.order (l1 := l1) ht e' h8; omega
            · cases h8 with
              | head => rw [hdeps _ h5] at hE; cases hE
              | tail _ h8 => have := (g1.bounds.2 e' h8).2.2; omega
end Go.Vm
namespace Go.Vm
open Go Go.RowKit
set_option linter.unusedVariables false
set_option linter.unusedSimpArgs false
variable {E : Env} {orc : Orc E} {ops : Array Oper} {ntm : Nat} {base : St}
structure Inv (X : Cx) (base : St) (acc : List Ent) (N ntm : Nat) (Ex : Nat → Bool) (C : Cc) (a : Act) : Prop where
  closed : ∀ m ∈ acc, Ex m.idx = true → ∀ j, Nat.testBit m.deps j = true → Ex j = true
  defers : a.defers = []
  size : a.tmps.size = ntm
  hp : HpOk X C (exHp Ex acc base.hp) N
  fr : Fr X C
  mu0 : ∀ i, i < X.n0 → hget (exHp Ex acc base.hp) i ≠ .dead → C.μ i = X.μ0 i
  tm : ∀ t, RepA X C (exHp Ex acc base.hp) N (tget (exTm Ex acc base.tm) t) (a.tmps.getD t undef)
def setX (Ex : Nat → Bool) (k j : Nat) : Bool := Nat.beq j k || Ex j
theorem setX_self {Ex : Nat → Bool} {k : Nat} : setX Ex k k = true := by simp [setX]
theorem setX_ne {Ex : Nat → Bool} {k j : Nat} (h : j ≠ k) : setX Ex k j = Ex j := by simp [setX, beq_false' h]
theorem exHp_same {Ex : Nat → Bool} {k : Nat} {b : Hp} : ∀ {acc : List Ent}, (∀ m ∈ acc, m.idx ≠ k) → exHp (setX Ex k) acc b = exHp Ex acc b
  | [], _ => rfl
  | e :: l, h => by simp only [exHp, setX_ne (h e (by simp)), exHp_same (acc := l) fun m hm => h m (by simp [hm])]
/-- Its effects lie on top. -/
theorem Trc.exHp_set (hB : BaseOk base) {Ex : Nat → Bool} {e : Ent} {l2 : List Ent} (hE : Ex e.idx = false) {id : Nat} :
    ∀ {l1 : List Ent} {nx : Nat}, Trc orc ops ntm base (l1 ++ e :: l2) nx → (∀ m ∈ l1, Ex m.idx = true → ∀ j, Nat.testBit m.deps j = true → Ex j = true) →
      hget (exHp (setX Ex e.idx) (l1 ++ e :: l2) base.hp) id = hget (e.eff ++ exHp Ex (l1 ++ e :: l2) base.hp) id
  | [], nx, h, hc => by
    obtain ⟨o', g1, g2, _⟩ := Trc.split (l1 := []) h
    have h0 : ∀ m ∈ l2, m.idx ≠ e.idx := fun m hm => by have := (g1.deps_lt m hm).1; omega
    simp only [List.nil_append, exHp, hE, setX_self, exHp_same h0]
  | m :: l1, nx, h, hc => by
    have hor := Trc.order h m (by simp)
    have hfresh := fun h1 h2 => Trc.fresh (id := id) hB hE h1 h2 (l1 := m :: l1) h hc
    have hlt1 := (h.deps_lt e (by simp)).1
    cases h with
    | cons ht hi ho hd hb hdst hok hnew hun hlo did =>
      have ih := Trc.exHp_set hB hE (id := id) (l1 := l1) ht (fun m' hm => hc m' (by simp [hm]))
      have hne : m.idx ≠ e.idx := by
        have := (ht.deps_lt e (by simp)).1
        rw [hi]; omega
      obtain ⟨o', g1, g2, g3, g4, g5, g6, g7, g8, g9, g10⟩ := Trc.split (l1 := l1) ht
      simp only [List.cons_append, exHp, setX_ne hne]
      cases hm : Ex m.idx with
      | false => exact ih
      | true =>
        simp only
        have hdeps := hc m (by simp) hm
        have hf := did.facts
        rw [hget_append, ih, hget_append, hget_append, hget_append]
        cases hg : get? m.eff id with
        | none => rfl
        | some B =>
          cases hg2 : get? e.eff id with
          | none => rfl
          | some B2 =>
            exfalso
            have hfe := g9.facts
            have hk := mem_keysOf hg
            rcases hfe.eff id (mem_keysOf hg2) with h1 | h1
            · rcases hf.eff id hk with h2 | h2
              · rw [← hlo] at h2; omega
              · have hfr := Trc.fresh (id := id) hB hE h1.1 h1.2 (l1 := l1) ht (fun m' hm => hc m' (by simp [hm]))
                rw [(hf.view id).resolve_left h2] at h2
                exact h2 (((env_sub hdeps (b := base.hp) (id := id) (l1 ++ e :: l2)).resolve_left h2).trans hfr)
            · have hlt := g9.view_lt hB g1 id h1
              rcases hf.unseen e (by simp) with h2 | h2
              · rw [hdeps _ h2] at hE; cases hE
              · rcases h2 id hk with h3 | h3
                · rw [← hlo] at h3; have := hfe.le; omega
                · exact h1 h3
end Go.Vm
namespace Go.Vm
open Go Go.RowKit
set_option linter.unusedVariables false
set_option linter.unusedSimpArgs false
variable {E : Env} {orc : Orc E} {ops : Array Oper} {ntm : Nat} {base : St}
section
variable {X : Cx} {C : Cc} {hp hp' : Hp} {nx : Nat}
/-- Memories that look alike. -/
theorem EvoP.same (hh : HpOk X C hp nx) (he : ∀ id, hget hp' id = hget hp id) : EvoP X X C C hp hp' (fun id => id < nx) nx where
  lt := fun _ h => h
  row := fun id _ v t xs inner e => ⟨rfl, v, xs, inner, by rw [← he]; exact e, rfl, Nat.le_refl _, fun _ => ⟨he id, fun b h => ⟨h, rfl⟩⟩⟩
  cells := fun id _ l e => ⟨rfl, l, by rw [← he]; exact e⟩
  sh := fun _ _ h ho => ⟨h, ho⟩
  clo := fun id _ _ v t xs inner e l hl => blk_ids_lt hh id _ (by rw [e]; simp only [Blk.ids]; exact lbIds_mem hl)
theorem RepA.same (hh : HpOk X C hp nx) (he : ∀ id, hget hp' id = hget hp id) {a : AV} {v : Value} (h : RepA X C hp nx a v) : RepA X C hp' nx a v :=
  h.move (EvoP.same hh he) hh h.ids_lt
theorem HpOk.same (hh : HpOk X C hp nx) (he : ∀ id, hget hp' id = hget hp id) : HpOk X C hp' nx := by
  intro id
  by_cases hd : hget hp id = .dead
  · rw [he, hd]; trivial
  · exact blkOk.move (EvoP.same hh he) hh (hp_lt hh hd) (blk_ids_lt hh id) (he id) (fun b h => ⟨h, rfl⟩)
end
theorem Trc.idx_inj : ∀ {acc : List Ent} {nx : Nat}, Trc orc ops ntm base acc nx → ∀ m ∈ acc, ∀ e ∈ acc, m.idx = e.idx → m = e := by
  intro acc nx h
  induction h with
  | nil => intro m hm; simp at hm
  | cons h hi ho hd hb hdst hok hnew hun hlo did ih =>
    intro m hm e he hme
    cases hm with
    | head =>
      cases he with
      | head => rfl
      | tail _ he => have := (h.deps_lt e he).1; omega
    | tail _ hm =>
      cases he with
      | head => have := (h.deps_lt m hm).1; omega
      | tail _ he => exact ih m hm e he hme
end Go.Vm
namespace Go.Vm
open Go Go.RowKit
set_option linter.unusedVariables false
set_option linter.unusedSimpArgs false
variable {E : Env} {orc : Orc E} {ops : Array Oper} {ntm : Nat} {base : St}
theorem exTm_set {Ex : Nat → Bool} {e : Ent} {l2 : List Ent} (hE : Ex e.idx = false) {b : Tm} {t : Nat} : ∀ {l1 : List Ent} {nx : Nat}, Trc orc ops ntm base (l1 ++ e :: l2) nx →
    tget (exTm (setX Ex e.idx) (l1 ++ e :: l2) b) t = if e.dst = some t then e.v else tget (exTm Ex (l1 ++ e :: l2) b) t := by
  intro l1 nx h
  have hinj := h.idx_inj
  have same : ∀ l : List Ent, (∀ m ∈ l, m.idx ≠ e.idx) → exTm (setX Ex e.idx) l b = exTm Ex l b := by
    intro l
    induction l with
    | nil => intro _; rfl
    | cons m l ih => intro h; simp only [exTm, setX_ne (h m (by simp)), ih fun m hm => h m (by simp [hm])]
  have hlen := (h.deps_lt e (by simp)).1
  obtain ⟨o', g1, g2, g3, g4, g5, g6, g7, g8, g9, g10⟩ := h.split
  have h2 : ∀ m ∈ l2, m.idx ≠ e.idx := fun m hm => by have := (g1.deps_lt m hm).1; omega
  clear hlen hinj
  induction l1 generalizing nx with
  | nil =>
    simp only [List.nil_append, exTm, hE, setX_self, same l2 h2]
    cases hd : e.dst with
    | none => simp
    | some d =>
      simp only [tget_cons, Option.some.injEq]
  | cons m l1 ih =>
    have hne : m.idx ≠ e.idx := by
      cases h with
      | cons ht hi _ _ _ _ _ _ _ _ _ => have := (ht.deps_lt e (by simp)).1; rw [hi]; omega
    cases h with
    | cons ht hi ho hd hb hdst hok hnew hun hlo did =>
      obtain ⟨_, _, _, _, _, _, _, _, _, _, g10'⟩ := Trc.split (l1 := l1) ht
      have ih := ih ht g10'
      simp only [List.cons_append, exTm, setX_ne hne]
      cases hx : Ex m.idx with
      | false => exact ih
      | true =>
        simp only
        cases hmd : m.dst with
        | none => exact ih
        | some d =>
          simp only [tget_cons]
          rw [ih]
          by_cases hdt : d = t
          · subst hdt
            have hno : e.dst ≠ some d := newDst_mem (by rw [← hdst, hmd] at hnew; exact hnew) e (by simp)
            simp [hno]
          · simp [hdt]
theorem Inv.after {X : Cx} {C C2 : Cc} {a : Act} {acc l1 l2 : List Ent} {e : Ent} {N : Nat} {Ex : Nat → Bool} {u : Value} (hB : BaseOk base) (hacc : acc = l1 ++ e :: l2) (h : Trc orc ops ntm base acc N) (inv : Inv X base acc N ntm Ex C a)
    (hE : Ex e.idx = false) (hD : ∀ j, Nat.testBit e.deps j = true → Ex j = true) (hn0 : X.n0 ≤ base.nx) (hok : dstOk ntm e.dst = true)
    (hhp : HpOk X C2 (e.eff ++ exHp Ex acc base.hp) N) (hfr : Fr X C2) (hold : ∀ t, RepA X C2 (e.eff ++ exHp Ex acc base.hp) N (tget (exTm Ex acc base.tm) t) (a.tmps.getD t undef))
    (hval : RepA X C2 (e.eff ++ exHp Ex acc base.hp) N e.v u) (hmu : ∀ i, i < X.n0 → hget (e.eff ++ exHp Ex acc base.hp) i ≠ .dead → C2.μ i = X.μ0 i) : Inv X base acc N ntm (setX Ex e.idx) C2 (a.put e.dst u) := by
  subst hacc
  have hc : ∀ m ∈ l1, Ex m.idx = true → ∀ j, Nat.testBit m.deps j = true → Ex j = true := fun m hm => inv.closed m (by simp [hm])
  have hsame : ∀ id, hget (exHp (setX Ex e.idx) (l1 ++ e :: l2) base.hp) id = hget (e.eff ++ exHp Ex (l1 ++ e :: l2) base.hp) id := fun id => h.exHp_set hB hE hc
  have up : ∀ j, Ex j = true → setX Ex e.idx j = true := fun j hj => by simp [setX, hj]
  refine ⟨fun m hm hx j hj => ?_, ?_, ?_, hhp.same hsame, hfr, fun i hi hne => hmu i hi (by rw [← hsame]; exact hne), fun t => ?_⟩
  · by_cases hme : m.idx = e.idx
    · have := h.idx_inj m hm e (by simp) hme
      subst this
      exact up j (hD j hj)
    · rw [setX_ne hme] at hx
      exact up j (inv.closed m hm hx j hj)
  · cases hd : e.dst <;> simp [Act.put, inv.defers]
  · cases hd : e.dst <;> simp [Act.put, inv.size]
  · refine RepA.same hhp hsame ?_
    rw [exTm_set hE h]
    cases hd : e.dst with
    | none => simp only [reduceCtorEq, if_false]; exact hold t
    | some d =>
      have hdn : d < ntm := by
        rw [hd] at hok
        exact Nat.le_of_ble_eq_true hok
      by_cases ht : d = t
      · subst ht
        rw [if_pos rfl]
        have : (a.tmps.setIfInBounds d u).getD d undef = u := by
          rw [Array.getD_eq_getD_getElem?]
          simp [Array.getElem?_setIfInBounds, inv.size, hdn]
        show RepA _ _ _ _ _ ((a.tmps.setIfInBounds d u).getD d undef)
        rw [this]
        exact hval
      · rw [if_neg (by simpa using ht)]
        have : (a.tmps.setIfInBounds d u).getD t undef = a.tmps.getD t undef := by
          simp [Array.getD_eq_getD_getElem?, Array.getElem?_setIfInBounds, ht]
        show RepA _ _ _ _ _ ((a.tmps.setIfInBounds d u).getD t undef)
        rw [this]
        exact hold t
end Go.Vm
namespace Go.Vm
open Go Go.RowKit
set_option linter.unusedVariables false
set_option linter.unusedSimpArgs false
variable {E : Env} {orc : Orc E} {ops : Array Oper} {ntm : Nat} {base : St}
theorem allB_or {f : Nat → Bool} {l : List Nat} (h : allB f l = true) : ∀ i ∈ l, f i = true := allB_mem h
theorem Inv.look {X : Cx} {C : Cc} {a : Act} {l1 l2 : List Ent} {e : Ent} {o : Oper} {N : Nat} {Ex : Nat → Bool} {tm : Tm} {v0 : AV} (hEn : EnvOk E X.P) (hS : SigOk E X.P) (hP : FnOk X.P X.J E orc) (hB : BaseOk base) (hBt : ∀ t, ∀ i ∈ (tget base.tm t).ids, i < base.nx)
    (h : Trc orc ops ntm base (l1 ++ e :: l2) N) (inv : Inv X base (l1 ++ e :: l2) N ntm Ex C a) (hE : Ex e.idx = false) (hD : ∀ j, Nat.testBit e.deps j = true → Ex j = true) (hn0 : X.n0 ≤ base.nx) (hdo : e.dst = o.dst) (hok : dstOk ntm o.dst = true)
    (ht : ∀ t, Wk (tget (envTm e.deps l2 base.tm) t) (tget tm t)) (hrd : ∀ t, t ∉ e.rd → tget tm t = .junk) (hr : (evalOp o ⟨tm, e.view, e.lo⟩ : Tr E Out).run orc some = some ⟨v0, e.eff, e.hi⟩) (hv : Wk v0 e.v) (hown : ∀ i ∈ hpIds e.view, qOk e.deps base.nx l2 (envHp e.deps l2 base.hp) e.view i = true) (hal : ∀ i ∈ v0.ids ++ hpIds e.eff, qOk e.deps base.nx l2 (envHp e.deps l2 base.hp) e.view i = true ∨ (e.lo ≤ i ∧ i < e.hi)) :
    OpGoes X.P o a C.w fun v w' => ∃ C2, C2.w = w' ∧ Inv X base (l1 ++ e :: l2) N ntm (setX Ex e.idx) C2 (a.put o.dst v) := by
  have hc : ∀ m ∈ l1, Ex m.idx = true → ∀ j, Nat.testBit m.deps j = true → Ex j = true := fun m hm => inv.closed m (by simp [hm])
  obtain ⟨o', g1, g2, g3, g4, g5, g6, g7, g8, g9, g10⟩ := h.split
  have hV := h.sees (X := X) (C := C) hB hE hD hc hown
  have hj := inv.fr.inv
  have hrel : Rel (X.inner C e.view hj) (C.hide e.view) ⟨tm, e.view, e.lo⟩ ntm a := by
    refine ⟨inv.defers, inv.size, fun t => ?_, hV.hp inv.hp, View.fr inv.fr, Nat.zero_le _, fun i hi => absurd hi (Nat.not_lt_zero _)⟩
    by_cases hrt : t ∈ e.rd
    · refine ht t _ _ _ _ _ ?_
      rcases ex_tm hE hD (.inl hrt) (b := base.tm) h hc with h0 | h0
      · rw [h0]; simp only [RepA]
      · rw [h0]
        refine RepA.move hV.evo inv.hp (fun i hi => ?_) (inv.tm t)
        rw [← h0] at hi
        rcases envTm_from (D := e.deps) (b := base.tm) (t := t) l2 with h1 | h1 | ⟨m, h1, h2⟩
        · rw [h1] at hi; exact Nat.lt_of_lt_of_le (hBt t i hi) g1.bounds.1
        · rw [h1] at hi; simp [AV.ids] at hi
        · rw [h2] at hi; exact g1.v_lt m h1 i hi
    · rw [hrd t hrt]; simp only [RepA]
  intro next Q hn
  refine op_sound (X := X.inner C e.view hj) (C := C.hide e.view) (κ := some) hEn hS hP hrel hr next Q ?_
  rintro v w' ⟨out, C', rfl, ho, fin⟩
  cases ho
  have lf := lift hV inv.hp inv.fr g10 (fun id i hi => h.clean hB hE hc hi) fin g9.facts.eff hal (fun id h1 h2 => h.fresh hB hE h1 h2 hc)
  refine hn v _ ⟨C'.show C e.view (e.eff ++ e.view), rfl, ?_⟩
  rw [← hdo]
  refine inv.after hB rfl h hE hD hn0 (by rw [hdo]; exact hok) lf.hp lf.fr (fun t => ?_) (hv _ _ _ _ _ lf.val) (fun i hi hne => ?_)
  · refine (inv.tm t).move lf.evo inv.hp fun i hi => ⟨(inv.tm t).ids_lt i hi, ?_⟩
    rcases exTm_from (Ex := Ex) (b := base.tm) (t := t) (l1 ++ e :: l2) with h1 | ⟨m, h1, h2, h3, h4⟩
    · rw [h1] at hi
      have := hBt t i hi
      have := g1.bounds.1
      omega
    · rw [h4] at hi
      exact h.v_clean hE hc m h1 h2 hi
  · have hlt : i < N ∧ ¬ (e.lo ≤ i ∧ i < e.hi) := by
      have := g1.bounds.1
      have := h.bounds.1
      constructor <;> omega
    cases hg : hget (e.eff ++ exHp Ex (l1 ++ e :: l2) base.hp) i with
    | dead => exact absurd hg hne
    | cells l =>
      obtain ⟨k1, l', k2⟩ := lf.evo.cells i hlt _ hg
      rw [k1]; exact inv.mu0 i hi (by rw [k2]; simp)
    | row v t xs inner =>
      obtain ⟨k1, v', xs', inner', k2, _⟩ := lf.evo.row i hlt _ _ _ _ hg
      rw [k1]; exact inv.mu0 i hi (by rw [k2]; simp)
end Go.Vm
namespace Go.Vm
open Go Go.RowKit
set_option linter.unusedVariables false
set_option linter.unusedSimpArgs false
variable {E : Env} {orc : Orc E} {ops : Array Oper} {ntm : Nat} {base : St}
theorem Inv.still {X : Cx} {C : Cc} {a : Act} {l1 l2 : List Ent} {e : Ent} {N : Nat} {Ex : Nat → Bool} {u : Value} (hB : BaseOk base) (h : Trc orc ops ntm base (l1 ++ e :: l2) N) (inv : Inv X base (l1 ++ e :: l2) N ntm Ex C a) (hE : Ex e.idx = false)
    (hD : ∀ j, Nat.testBit e.deps j = true → Ex j = true) (hn0 : X.n0 ≤ base.nx) (hok : dstOk ntm e.dst = true) (he : e.eff = []) (hv : RepA X C (exHp Ex (l1 ++ e :: l2) base.hp) N e.v u) : Inv X base (l1 ++ e :: l2) N ntm (setX Ex e.idx) C (a.put e.dst u) :=
  inv.after hB rfl h hE hD hn0 hok (by rw [he]; exact inv.hp) inv.fr (fun t => by rw [he]; exact inv.tm t) (by rw [he]; exact hv) (fun i hi hne => inv.mu0 i hi (by rw [he] at hne; exact hne))
theorem Inv.free {X : Cx} {C : Cc} {a : Act} {l1 l2 : List Ent} {e : Ent} {o : Oper} {N : Nat} {Ex : Nat → Bool} {tm : Tm} {v0 : AV} (hEn : EnvOk E X.P) (hS : SigOk E X.P) (hP : FnOk X.P X.J E orc) (hB : BaseOk base)
    (h : Trc orc ops ntm base (l1 ++ e :: l2) N) (inv : Inv X base (l1 ++ e :: l2) N ntm Ex C a) (hE : Ex e.idx = false) (hD : ∀ j, Nat.testBit e.deps j = true → Ex j = true) (hn0 : X.n0 ≤ base.nx) (hdo : e.dst = o.dst) (hok : dstOk ntm o.dst = true) (hfr : hpFree o.op = true)
    (ht : ∀ t, Wk (tget (envTm e.deps l2 base.tm) t) (tget tm t)) (hrd : ∀ t, t ∉ e.rd → tget tm t = .junk) (hr : (evalOp o ⟨tm, e.view, e.lo⟩ : Tr E Out).run orc some = some ⟨v0, e.eff, e.hi⟩) (hv : Wk v0 e.v) :
    OpGoes X.P o a C.w fun v w' => ∃ C2, C2.w = w' ∧ Inv X base (l1 ++ e :: l2) N ntm (setX Ex e.idx) C2 (a.put o.dst v) := by
  have hb := h.bounds.1
  obtain ⟨u1, _, u3⟩ := un_op (s := ⟨tm, e.view, e.lo⟩) (s' := ⟨tm, exHp Ex (l1 ++ e :: l2) base.hp, N⟩) hfr rfl _ hr
  simp only at u1 u3
  have hrel : Rel X C ⟨tm, exHp Ex (l1 ++ e :: l2) base.hp, N⟩ ntm a := by
    refine ⟨inv.defers, inv.size, fun t => ?_, inv.hp, inv.fr, by simp only; omega, inv.mu0⟩
    by_cases hrt : t ∈ e.rd
    · refine ht t _ _ _ _ _ ?_
      rcases ex_tm hE hD (.inl hrt) (b := base.tm) h (fun m hm => inv.closed m (by simp [hm])) with h0 | h0
      · rw [h0]; simp only [RepA]
      · rw [h0]; exact inv.tm t
    · rw [hrd t hrt]; simp only [RepA]
  intro next Q hn
  refine op_sound (κ := some) hEn hS hP hrel u3 next Q ?_
  rintro v w' ⟨out, C', rfl, ho, fin⟩
  cases ho
  refine hn v _ ⟨C', rfl, ?_⟩
  have hput := hrel.put (dst := none) (v := v) rfl fin
  rw [← hdo]
  exact inv.after hB rfl h hE hD hn0 (by rw [hdo]; exact hok) (by rw [u1]; exact fin.hp) fin.fr (fun t => by rw [u1]; exact (inv.tm t).evo fin.evo inv.hp) (by rw [u1]; exact hv _ _ _ _ _ fin.val) (fun i hi hne => hput.mu0 i hi (by rw [u1] at hne; exact hne))
end Go.Vm
namespace Go.Vm
open Go Go.RowKit
set_option linter.unusedVariables false
set_option linter.unusedSimpArgs false
variable {E : Env} {orc : Orc E} {ops : Array Oper} {ntm : Nat} {base : St}
theorem exHp_all {Ex : Nat → Bool} {b : Hp} : ∀ {acc : List Ent}, (∀ m ∈ acc, Ex m.idx = true) → exHp Ex acc b = allHp acc b
  | [], _ => rfl
  | e :: l, h => by simp only [exHp, allHp, h e (by simp), exHp_all (acc := l) fun m hm => h m (by simp [hm])]
theorem exTm_all {Ex : Nat → Bool} {b : Tm} : ∀ {acc : List Ent}, (∀ m ∈ acc, Ex m.idx = true) → exTm Ex acc b = allTm acc b
  | [], _ => rfl
  | e :: l, h => by simp only [exTm, allTm, h e (by simp), exTm_all (acc := l) fun m hm => h m (by simp [hm])]; cases e.dst <;> rfl
theorem Oper.wp_of {P : Program} {o : Oper} {a : Act} {w : World} {φ : Value → World → Prop} {K : Act → World → Prop} {Q : Exit → Act → World → Prop} (h : OpGoes P o a w φ) (hk : ∀ v w', φ v w' → K (a.put o.dst v) w') : o.wp P a w K Q := h K Q hk
/-- One operation, wherever it stands. -/
theorem Inv.one {X : Cx} {C : Cc} {a : Act} {l1 l2 : List Ent} {e : Ent} {o : Oper} {N : Nat} {Ex : Nat → Bool} (hEn : EnvOk E X.P) (hS : SigOk E X.P) (hP : FnOk X.P X.J E orc) (hB : BaseOk base) (hBt : ∀ t, ∀ i ∈ (tget base.tm t).ids, i < base.nx)
    (h : Trc orc ops ntm base (l1 ++ e :: l2) N) (inv : Inv X base (l1 ++ e :: l2) N ntm Ex C a) (hE : Ex e.idx = false) (hD : ∀ j, Nat.testBit e.deps j = true → Ex j = true) (hn0 : X.n0 ≤ base.nx) (ho : ops[e.idx]? = some o) {K : Act → World → Prop} {Q : Exit → Act → World → Prop}
    (hK : ∀ C2 a2, Inv X base (l1 ++ e :: l2) N ntm (setX Ex e.idx) C2 a2 → K a2 C2.w) : wpOp X.P ops Q e.idx K a C.w := by
  obtain ⟨o', g1, g2, g3, g4, g5, g6, g7, g8, g9, g10⟩ := h.split
  rw [← g2, ho] at g3
  cases g3
  unfold wpOp
  simp only [ho]
  have guardTm : ∀ {j t : Nat} {φ : Value → Prop}, Nat.testBit e.deps j = true → dstOf ops j = some t → Says (tget (envTm e.deps l2 base.tm) t) φ → tget (envTm e.deps l2 base.tm) t ≠ .junk → φ (a.tmps.getD t undef) := by
    intro j t φ hjb hjt hs hne
    have hlt := (h.deps_lt e (by simp)).2 j hjb
    obtain ⟨m, k1, k2, k3⟩ := g1.writer hjt (by omega)
    rcases ex_tm hE hD (.inr ⟨m, k1, k3⟩) (b := base.tm) h (fun m hm => inv.closed m (by simp [hm])) with h0 | h0
    · exact absurd h0 hne
    · exact hs X C _ N _ (by rw [h0]; exact inv.tm t)
  have notJunk : ∀ {t : Nat} {φ : Value → Prop}, Says (tget (envTm e.deps l2 base.tm) t) φ → ¬ φ (.int .i64 0) → tget (envTm e.deps l2 base.tm) t ≠ .junk := by
    intro t φ hs hn hjk
    rw [hjk] at hs
    exact hn (hs X C [] 0 (.int .i64 0) (by simp only [RepA]))
  cases g9 with
  | skip j t want hv hi he hw hh hg hbt hd hs =>
    have hu := guardTm hbt hd hs (notJunk hs (by simp))
    have hwant : Region.wanted o (yielded ops a.tmps) = false := by
      rcases hu with hu | hu
      · rw [wanted_is hg hd hu]; cases want <;> rfl
      · exact wanted_undef hg hd hu
    rw [hwant]
    simp only [Bool.false_eq_true, if_false]
    rw [← g6]
    exact hK C _ (inv.still hB h hE hD hn0 (by rw [g6]; exact g7) he (hv _ _ _ _ _ (by simp only [RepA]; exact ⟨#[], rfl, by simp [RepL]⟩)))
  | done tm v0 ht hrd hr hv hi hw hok hg =>
    have hwant : Region.wanted o (yielded ops a.tmps) = true := by
      rcases hg with hg | ⟨j, t, want, h1, hbt, h2, h3⟩
      · simp only [Region.wanted, hg]
      · rw [wanted_is h1 h2 (guardTm hbt h2 h3 (notJunk h3 (by simp)))]; cases want <;> rfl
    rw [hwant]
    simp only [if_true]
    left
    cases hf : hpFree o.op with
    | true =>
      refine Oper.wp_of (inv.free hEn hS hP hB h hE hD hn0 g6 g7 hf ht hrd hr hv) ?_
      rintro v w' ⟨C2, rfl, hi2⟩
      exact hK C2 _ hi2
    | false =>
      unfold entOk at hok
      rw [hf] at hok
      simp only [Bool.and_eq_true] at hok
      refine Oper.wp_of (inv.look hEn hS hP hB hBt h hE hD hn0 g6 g7 ht hrd hr hv (allB_mem hok.2.2.2) (fun i hi' => ?_)) ?_
      · have := allB_mem hok.2.2.1 i hi'
        simp only [Bool.or_eq_true, Bool.and_eq_true] at this
        rcases this with h | h
        · exact .inr ⟨Nat.le_of_ble_eq_true h.1, Nat.le_of_ble_eq_true h.2⟩
        · exact .inl h
      · rintro v w' ⟨C2, rfl, hi2⟩
        exact hK C2 _ hi2
end Go.Vm
namespace Go.Vm
open Go Go.RowKit
set_option linter.unusedVariables false
set_option linter.unusedSimpArgs false
variable {E : Env} {orc : Orc E} {ops : Array Oper} {ntm : Nat} {base : St}
def lEx (listed : Array Bool) (j : Nat) : Bool := listed.getD j false
theorem lEx_set {listed : Array Bool} {i : Nat} (hi : i < listed.size) : lEx (listed.setIfInBounds i true) = setX (lEx listed) i := by
  funext j
  unfold lEx setX
  by_cases h : j = i
  · subst h; simp [hi]
  · rw [getD_set_ne false (Ne.symm h), beq_false' h]; rfl
theorem lEx_true {listed : Array Bool} {i : Nat} (hi : i < listed.size) : listed.getD i true = lEx listed i := by
  unfold lEx
  simp [hi]
theorem lEx_none {n j : Nat} : lEx (Array.replicate n false) j = false := by
  unfold lEx
  by_cases h : j < n <;> simp [h]
def leftN (f : Nat → Bool) : Nat → Nat
  | 0 => 0
  | n + 1 => leftN f n + (match f n with | true => 0 | false => 1)
theorem leftN_le {f : Nat → Bool} : ∀ {n : Nat}, leftN f n ≤ n
  | 0 => Nat.le_refl _
  | n + 1 => by
    have := leftN_le (f := f) (n := n)
    simp only [leftN]
    split <;> omega
theorem leftN_same {f : Nat → Bool} {i : Nat} : ∀ {n : Nat}, n ≤ i → leftN (setX f i) n = leftN f n
  | 0, _ => rfl
  | n + 1, h => by simp only [leftN, setX_ne (show n ≠ i by omega), leftN_same (show n ≤ i by omega)]
theorem leftN_set {f : Nat → Bool} {i : Nat} (hf : f i = false) : ∀ {n : Nat}, i < n → leftN (setX f i) n + 1 = leftN f n
  | n + 1, h => by
    simp only [leftN]
    by_cases hi : n = i
    · subst hi
      rw [leftN_same (Nat.le_refl _), setX_self, hf]
      rfl
    · rw [setX_ne hi, ← leftN_set hf (show i < n by omega)]; omega
theorem any_sound {X : Cx} (hEn : EnvOk E X.P) (hS : SigOk E X.P) (hP : FnOk X.P X.J E orc) (hB : BaseOk base) (hBt : ∀ t, ∀ i ∈ (tget base.tm t).ids, i < base.nx) {acc : List Ent} {N : Nat}
    (h : Trc orc ops ntm base acc N) (hlen : acc.length = ops.size) (hn0 : X.n0 ≤ base.nx) {Q : Exit → Act → World → Prop}
    (hQ : ∀ C a, Rel X C ⟨allTm acc base.tm, allHp acc base.hp, N⟩ ntm a → Q .normal a C.w) :
    ∀ (fuel : Nat) (listed : Array Bool) (C : Cc) (a : Act), listed.size = ops.size → leftN (lEx listed) ops.size ≤ fuel → Inv X base acc N ntm (lEx listed) C a → wpAny X.P .any ops Q fuel listed a C.w := by
  have part : ∀ i, i < ops.size → ∃ l1 e l2, acc = l1 ++ e :: l2 ∧ e.idx = i := fun i hi => h.entry i (by rw [hlen]; exact hi)
  have none : ∀ (listed : Array Bool) (C : Cc) (a : Act), listed.size = ops.size → Inv X base acc N ntm (lEx listed) C a → Region.ready .any ops listed = [] → Q .normal a C.w := by
    intro listed C a hs inv hr
    have all : ∀ n i, i < n → i < ops.size → lEx listed i = true := by
      intro n
      induction n with
      | zero => intro i hi; omega
      | succ n ih =>
        intro i hi hlt
        cases hx : lEx listed i with
        | true => rfl
        | false =>
          exfalso
          obtain ⟨l1, e, l2, h1, h2⟩ := part i hlt
          subst h1
          obtain ⟨o, g1, g2, g3, g4, g5, g6, g7, g8, g9, g10⟩ := h.split
          have hmem : i ∈ Region.ready .any ops listed := by
            rw [mem_ready]
            refine ⟨by rw [lEx_true (by omega)]; exact hx, o, by rw [← h2, g2]; exact g3, fun x hx hb => ?_⟩
            have hlt' := backE_mem g5 x (by simpa using hx) hb
            exact ih x.on (by omega) (by omega)
          rw [hr] at hmem
          cases hmem
    have hall : ∀ m ∈ acc, lEx listed m.idx = true := fun m hm => by
      have := (h.deps_lt m hm).1
      exact all (m.idx + 1) m.idx (Nat.lt_succ_self _) (by omega)
    refine hQ C a ⟨inv.defers, inv.size, fun t => ?_, ?_, inv.fr, Nat.le_trans hn0 h.bounds.1, fun i hi hne => ?_⟩
    · have := inv.tm t
      rw [exHp_all hall, exTm_all hall] at this
      exact this
    · have := inv.hp
      rw [exHp_all hall] at this
      exact this
    · have := inv.mu0 i hi
      rw [exHp_all hall] at this
      exact this hne
  intro fuel
  induction fuel with
  | zero =>
    intro listed C a hs hl inv
    have hr : Region.ready .any ops listed = [] := by
      rw [List.eq_nil_iff_forall_not_mem]
      intro i hi
      obtain ⟨h0, o, ho, hall⟩ := mem_ready.1 hi
      have hlt : i < ops.size := (Array.getElem?_eq_some_iff.1 ho).1
      rw [lEx_true (by omega)] at h0
      have := leftN_set h0 hlt
      omega
    exact ⟨hr, none listed C a hs inv hr⟩
  | succ fuel ih =>
    intro listed C a hs hl inv
    refine ⟨none listed C a hs inv, fun i hi => ?_⟩
    obtain ⟨h0, o, ho, hall⟩ := mem_ready.1 hi
    have hlt : i < ops.size := (Array.getElem?_eq_some_iff.1 ho).1
    rw [lEx_true (by omega)] at h0
    obtain ⟨l1, e, l2, h1, h2⟩ := part i hlt
    subst h1
    subst h2
    refine Inv.one hEn hS hP hB hBt h inv h0 (fun j hjd => ?_) hn0 ho fun C2 a2 inv2 => ?_
    · obtain ⟨o', g1, g2, g3, g4, g5, g6, g7, g8, g9, g10⟩ := h.split
      rw [← g2, ho] at g3
      cases g3
      rw [g4] at hjd
      obtain ⟨x, k1, k2, k3⟩ := depsOf_mem hjd
      have hon : lEx listed x.on = true := hall x (by simpa using k1) k2
      rcases k3 with rfl | ⟨e', k4, k5, k6⟩
      · exact hon
      · exact inv.closed e' (by simp [k4]) (by rw [k5]; exact hon) j k6
    · refine ih (listed.setIfInBounds e.idx true) C2 a2 (by simp [hs]) ?_ ?_
      · rw [lEx_set (by omega)]
        have := leftN_set h0 hlt
        omega
      · rw [lEx_set (by omega)]
        exact inv2
theorem exHp_none {Ex : Nat → Bool} {b : Hp} (h : ∀ j, Ex j = false) : ∀ acc : List Ent, exHp Ex acc b = b
  | [] => rfl
  | e :: l => by simp only [exHp, h e.idx, exHp_none h l]
theorem exTm_none {Ex : Nat → Bool} {b : Tm} (h : ∀ j, Ex j = false) : ∀ acc : List Ent, exTm Ex acc b = b
  | [] => rfl
  | e :: l => by simp only [exTm, h e.idx, exTm_none h l]
end Go.Vm
namespace Go.Vm
open Go Go.RowKit
set_option linter.unusedVariables false
set_option linter.unusedSimpArgs false
variable {E : Env} {R : Type} {X : Cx} {r : R} {orc : Orc E}
theorem regD_sound (hE : EnvOk E X.P) (hS : SigOk E X.P) (hP : FnOk X.P X.J E orc) {ntm : Nat} {ops : Array Oper} {κ : St → Option R} {Q : Exit → Act → World → Prop} (hκ : ∀ s C a, κ s = some r → Rel X C s ntm a → Q .normal a C.w)
   {s : St} {C : Cc} {a : Act} (h : Rel X C s ntm a) (hr : regD orc ntm ops κ s ops.toList 0 [] s.nx = some r) : wpAny X.P .any ops Q ops.size (Array.replicate ops.size false) a { C.w with drawn := C.w.drawn + 1 } := by
  obtain ⟨acc, N, ht, hlen, hk⟩ := regD_trace (base := s) ops.toList 0 [] s.nx rfl (fun j => by simp) .nil hr
  have hB : BaseOk s := by
    refine ⟨fun id hne => ?_, fun id => blk_ids_lt h.hp id⟩
    have := h.hp id
    revert this hne
    cases hget s.hp id with
    | dead => intro h0; exact absurd rfl h0
    | cells l => intro _ h1; exact h1.1
    | row v t xs inner => intro _ h1; exact h1.1
  have hBt : ∀ t, ∀ i ∈ (tget s.tm t).ids, i < s.nx := fun t i hi => (h.tm t).ids_lt i hi
  have hle : s.nx ≤ N := ht.bounds.1
  have hev : EvoP X X C { C with w := { C.w with drawn := C.w.drawn + 1 } } s.hp s.hp (fun id => id < s.nx) N :=
    { lt := fun id hid => Nat.lt_of_lt_of_le hid hle
      row := fun id hid v' t xs' inner' e => ⟨rfl, v', xs', inner', e, rfl, Nat.le_refl _, fun _ => ⟨rfl, fun b hb => ⟨hb, rfl⟩⟩⟩
      cells := fun id hid l' e => ⟨rfl, l', e⟩
      sh := fun b o hs ho => ⟨hs, ho⟩
      clo := fun id hid _ v t xs inner e l hl => by
        have := h.hp id
        rw [e] at this
        exact (this.2.2.2 l hl).1 }
  have inv : Inv X s acc N ntm (lEx (Array.replicate ops.size false)) { C with w := { C.w with drawn := C.w.drawn + 1 } } a := by
    refine ⟨fun m hm hx => (by rw [lEx_none] at hx; cases hx), h.defers, h.size, ?_, ⟨h.fr.os, h.fr.tape, h.fr.output, h.fr.size, h.fr.block, h.fr.own⟩, ?_, fun t => ?_⟩
    · rw [exHp_none fun j => lEx_none]
      intro id
      cases hd : hget s.hp id with
      | dead => trivial
      | cells l =>
        rw [← hd]
        refine blkOk.move hev h.hp (hB.lt id (by rw [hd]; simp)) (blk_ids_lt h.hp id) rfl fun b hb => ⟨hb, rfl⟩
      | row v t xs inner =>
        rw [← hd]
        refine blkOk.move hev h.hp (hB.lt id (by rw [hd]; simp)) (blk_ids_lt h.hp id) rfl fun b hb => ⟨hb, rfl⟩
    · rw [exHp_none fun j => lEx_none]
      exact h.mu0
    · rw [exHp_none fun j => lEx_none, exTm_none fun j => lEx_none]
      exact RepA.move hev h.hp (fun i hi => (h.tm t).ids_lt i hi) (h.tm t)
  exact any_sound hE hS hP hB hBt ht hlen h.n0 (fun C2 a2 h2 => hκ _ C2 a2 hk h2) ops.size (Array.replicate ops.size false) { C with w := { C.w with drawn := C.w.drawn + 1 } } a (by simp) leftN_le inv
end Go.Vm
namespace Go.Vm
open Go Go.RowKit
set_option linter.unusedVariables false
set_option linter.unusedSimpArgs false
variable {E : Env} {R : Type} {X : Cx} {r : R} {orc : Orc E}
def exOf : Ex → Exit
  | .normal => .normal
  | .exit i => .exit i
  | .ret => .ret
def unrLen : An → Nat
  | .unr _ l => unrLen l + 1
  | _ => 0
def Onto (X : Cx) {R : Type} (r : R) (ntm : Nat) (κ : Ex → St → Option R) (Q : Exit → Act → World → Prop) : Prop := ∀ e s C a, κ e s = some r → Rel X C s ntm a → Q (exOf e) a C.w
theorem cond_sound {C : Cc} {s : St} {ntm : Nat} {a : Act} (h : Rel X C s ntm a) {c : Operand} {x y : Code} {Q : Exit → Act → World → Prop} {p q : Option R} (hx : p = some r → x.wp X.P Q a C.w) (hy : q = some r → y.wp X.P Q a C.w)
    (hr : (match opnd s.tm c with
      | .tt => p
      | .ff => q
      | .bool x => if x = true then p else q
      | .prop b d => @ite _ b d p q
      | _ => none) = some r) : (Code.cond c x y).wp X.P Q a C.w := by
  have hc := eval_opnd h c
  split at hr
  · rename_i e
    rw [e] at hc
    simp only [RepA] at hc
    exact wp_cond_true hc (hx hr)
  · rename_i e
    rw [e] at hc
    simp only [RepA] at hc
    exact wp_cond_false hc (hy hr)
  · rename_i b e
    rw [e] at hc
    simp only [RepA] at hc
    cases b with
    | true => exact wp_cond_true hc (hx (by simpa using hr))
    | false => exact wp_cond_false hc (hy (by simpa using hr))
  · rename_i b d e
    rw [e] at hc
    simp only [RepA] at hc
    by_cases hb : b
    · rw [if_pos hb] at hr
      exact wp_cond_true (by simpa [hb] using hc) (hx hr)
    · rw [if_neg hb] at hr
      exact wp_cond_false (by simpa [hb] using hc) (hy hr)
  · cases hr
theorem den_sound (hE : EnvOk E X.P) (hS : SigOk E X.P) (hP : FnOk X.P X.J E orc) {hi : HSk} (hn : X.n0 = nextOf hi) (hdn : ∀ i, i < nextOf hi → memH hi i = true) {ntm n : Nat} : ∀ (c : Code) (an : An) (κ : Ex → St → Option R) (Q : Exit → Act → World → Prop), Onto X r ntm κ Q →
    ∀ (s : St) (C : Cc) (a : Act), Rel X C s ntm a → den orc hi ntm n c an κ s = some r → c.wp X.P Q a C.w
  | .skip, an, κ, Q, hκ, s, C, a, h, hr => by
    simp only [den] at hr
    exact wp_skip (hκ _ _ _ _ hr h)
  | .exit id, an, κ, Q, hκ, s, C, a, h, hr => by
    simp only [den] at hr
    exact wp_exit (hκ _ _ _ _ hr h)
  | .ret, an, κ, Q, hκ, s, C, a, h, hr => by
    simp only [den] at hr
    exact wp_ret (hκ _ _ _ _ hr h)
  | .region id ops draw, an, κ, Q, hκ, s, C, a, h, hr => by
    simp only [den] at hr
    have hκ' : ∀ s C a, κ .normal s = some r → Rel X C s ntm a → Q .normal a C.w := fun s C a hr h => hκ _ _ _ _ hr h
    cases draw with
    | false => exact wp_region_list (regS_sound hE hS hP hκ' ops.toList s C a h hr)
    | true => exact wp_region_any hE.mixed (regD_sound hE hS hP hκ' h hr)
  | .seq x y, an, κ, Q, hκ, s, C, a, h, hr => by
    have plain : ∀ l r' : An, den orc hi ntm n x l (onNormal (den orc hi ntm n y r' κ) κ) s = some r → (Code.seq x y).wp X.P Q a C.w := by
      intro l r' hr
      refine wp_seq (den_sound hE hS hP hn hdn x l _ _ ?_ s C a h hr)
      intro e s C a hk h
      cases e with
      | normal => exact den_sound hE hS hP hn hdn y r' κ Q hκ s C a h hk
      | exit i => exact hκ _ _ _ _ hk h
      | ret => exact hκ _ _ _ _ hk h
    cases an with
    | cut p T q =>
      simp only [den] at hr
      refine wp_seq (den_sound hE hS hP hn hdn x p _ _ ?_ s C a h hr)
      intro e s C a hk h
      cases e with
      | normal =>
        simp only [onNormal] at hk
        cases ht : T.take hi s with
        | none => rw [ht] at hk; cases hk
        | some d =>
          rw [ht] at hk
          obtain ⟨C', hw, h'⟩ := cut_sound hn hdn h ht
          show y.wp X.P Q a C.w
          rw [← hw]
          exact den_sound hE hS hP hn hdn y q κ Q hκ _ C' a h' hk
      | exit i => exact hκ _ _ _ _ hk h
      | ret => exact hκ _ _ _ _ hk h
    | nil => simp only [den] at hr; exact plain _ _ hr
    | seq p q => simp only [den] at hr; exact plain _ _ hr
    | loop T p => simp only [den] at hr; exact plain _ _ hr
    | unr p q => simp only [den] at hr; exact plain _ _ hr
  | .cond c x y, an, κ, Q, hκ, s, C, a, h, hr => by
    simp only [den] at hr
    exact cond_sound h (fun hr => den_sound hE hS hP hn hdn x _ κ Q hκ s C a h hr) (fun hr => den_sound hE hS hP hn hdn y _ κ Q hκ s C a h hr) hr
  | .block id c, an, κ, Q, hκ, s, C, a, h, hr => by
    simp only [den] at hr
    refine wp_block (den_sound hE hS hP hn hdn c an _ _ ?_ s C a h hr)
    intro e s C a hk h
    cases e with
    | normal => exact hκ _ _ _ _ hk h
    | exit i =>
      simp only [onExit] at hk
      show if i = id then Q .normal a C.w else Q (.exit i) a C.w
      by_cases hi' : i = id
      · subst hi'
        rw [if_pos rfl]
        simp only [Nat.beq_refl] at hk
        exact hκ _ _ _ _ hk h
      · rw [if_neg hi']
        rw [beq_false' hi'] at hk
        exact hκ _ _ _ _ hk h
    | ret => exact hκ _ _ _ _ hk h
  | .loop c, an, κ, Q, hκ, s, C, a, h, hr => by
    have rounds : ∀ an : An, unroll (den orc hi ntm n c) κ an s = some r → (Code.loop c).wp X.P Q a C.w := by
      intro an hr
      refine wp_loop_ghost (fun m a w => ∃ an s C, unrLen an = m ∧ C.w = w ∧ Rel X C s ntm a ∧ unroll (den orc hi ntm n c) κ an s = some r) (unrLen an) ⟨an, s, C, rfl, rfl, h, hr⟩ ?_
      rintro m a w ⟨an, s, C, rfl, rfl, h, hr⟩
      cases an with
      | unr p l =>
        simp only [unroll] at hr
        refine den_sound hE hS hP hn hdn c p _ _ ?_ _ C a h hr
        intro e s C a hk h
        cases e with
        | normal => exact ⟨unrLen l, Nat.lt_succ_self _, l, s, C, rfl, rfl, h, hk⟩
        | exit i => exact hκ _ _ _ _ hk h
        | ret => exact hκ _ _ _ _ hk h
      | nil => cases hr
      | seq _ _ => cases hr
      | cut _ _ _ => cases hr
      | loop _ _ => cases hr
    cases an with
    | unr p l => simp only [den] at hr; exact rounds _ hr
    | loop T p =>
      simp only [den] at hr
      cases ht : T.take hi s with
      | none => rw [ht] at hr; cases hr
      | some d =>
        rw [ht] at hr
        obtain ⟨C', hw, h'⟩ := cut_sound hn hdn h ht
        refine wp_loop_ghost (fun m a w => ∃ C d, C.w = w ∧ Rel X C (T.fill d) ntm a ∧ iter hi T (den orc hi ntm n c p) κ m d = some r) n ⟨C', d, hw, h', hr⟩ ?_
        rintro m a w ⟨C, d, rfl, h, hr⟩
        cases m with
        | zero => cases hr
        | succ m =>
          simp only [iter] at hr
          refine den_sound hE hS hP hn hdn c p _ _ ?_ _ C a h hr
          intro e s C a hk h
          cases e with
          | normal =>
            simp only at hk
            cases ht : T.take hi s with
            | none => rw [ht] at hk; cases hk
            | some d =>
              rw [ht] at hk
              obtain ⟨C', hw, h'⟩ := cut_sound hn hdn h ht
              exact ⟨m, Nat.lt_succ_self m, C', d, hw, h', hk⟩
          | exit i => exact hκ _ _ _ _ hk h
          | ret => exact hκ _ _ _ _ hk h
    | nil => simp only [den] at hr; exact rounds _ hr
    | seq p q => simp only [den] at hr; exact rounds _ hr
    | cut p T q => simp only [den] at hr; exact rounds _ hr
  | .rangeFunc _ _ _ _, an, κ, Q, hκ, s, C, a, h, hr => by simp only [den] at hr; cases hr
  | .scope _, an, κ, Q, hκ, s, C, a, h, hr => by simp only [den] at hr; cases hr
  | .label _, an, κ, Q, hκ, s, C, a, h, hr => by simp only [den] at hr; cases hr
  | .goto _, an, κ, Q, hκ, s, C, a, h, hr => by simp only [den] at hr; cases hr
  | .refuse _, an, κ, Q, hκ, s, C, a, h, hr => by simp only [den] at hr; cases hr
end Go.Vm
namespace Go.Vm
open Go Go.RowKit
set_option linter.unusedVariables false
set_option linter.unusedSimpArgs false
variable {E : Env} {R : Type} {X : Cx} {C : Cc} {s : St} {r : R} {orc : Orc E}
/-- The names that are handed in have no gaps; a function has room for its parameters. -/
structure FnsOk (E : Env) : Prop where
  dense : ∀ g S, get? E.sg g = some S → ∀ i, i < nextOf S.hin → memH S.hin i = true
  room : ∀ g S fn, get? E.sg g = some S → get? E.fn g = some fn → S.params.length ≤ fn.ntmps
theorem step_some {prim : Orc E} {k g : Nat} {ds : List DV} {fn : Func} {S : Sig} (hfn : get? E.fn g = some fn) (hS : get? E.sg g = some S) {d : Ds (E.rats g)} (h : step E prim orc k g ds = some d) :
    ∃ c d', fn.body = some c ∧ body E orc k fn S c ds = some d' ∧ untyped S.rats d' = untyped (E.rats g) d := by
  have key : ∀ (o : Option Sig) (d : Ds (ratsOf o)), o = some S → (match (generalizing := false) o with
      | some S => match fn.body with
        | some c => body E orc k fn S c ds
        | none => none
      | none => none : Option (Ds (ratsOf o))) = some d → ∃ c d', fn.body = some c ∧ body E orc k fn S c ds = some d' ∧ untyped S.rats d' = untyped (ratsOf o) d := by
    intro o d ho h
    subst ho
    simp only at h
    split at h
    · rename_i c hc
      exact ⟨c, d, hc, h, rfl⟩
    · cases h
  unfold step at h
  rw [hfn] at h
  exact key _ d hS h
theorem step_prim {prim : Orc E} {k g : Nat} {ds : List DV} (hfn : get? E.fn g = none) : step E prim orc k g ds = prim g ds := by
  unfold step
  rw [hfn]
theorem ent_keys (f : Nat → Value) : ∀ (l : List Sk) (k : Nat) (vs : List Value), vs.length = l.length → (∀ j v, vs[j]? = some v → f (k + j) = v) → (keys (entTm l k)).map f = vs
  | [], k, vs, h, _ => by cases vs with
    | nil => rfl
    | cons a b => simp at h
  | s :: l, k, [], h, _ => by simp at h
  | s :: l, k, v :: vs, h, hv => by
    simp only [entTm, keys, List.map_cons]
    rw [ent_keys f l (k + 1) vs (by simpa using h) (fun j u hj => by rw [show k + 1 + j = k + (j + 1) by omega]; exact hv (j + 1) u (by simpa using hj))]
    rw [show f k = v from hv 0 v rfl]
theorem ent_vals : ∀ (l : List Sk) (k : Nat), vals (entTm l k) = l
  | [], k => rfl
  | s :: l, k => by simp only [entTm, vals, ent_vals l (k + 1)]
theorem instL_len {bs : List Lb} {f vr : Nat → Nat} : ∀ {l : List Sk} {ds r : List DV} {vs : List AV}, Sk.instL bs f vr l ds = (vs, r) → vs.length = l.length
  | [], ds, r, vs, h => by simp only [Sk.instL] at h; cases h; rfl
  | s :: l, ds, r, vs, h => by
    simp only [Sk.instL] at h
    cases e1 : s.inst bs f vr ds with
    | mk v r1 =>
      rw [e1] at h
      cases e2 : Sk.instL bs f vr l r1 with
      | mk vs' r2 =>
        rw [e2] at h
        simp only at h
        cases h
        simp [instL_len e2]
theorem entry_rel {S : Sig} {ds : List DV} {args : Array Value} {ntm : Nat} (he : EntryOk X C S ds args) (hlen : S.params.length ≤ ntm) : Rel X C (S.entry ds) ntm { tmps := args ++ Array.replicate (ntm - args.size) undef, defers := [] } := by
  obtain ⟨vs, h', r0, e1, e2, e3, e4⟩ := he.args
  have hl := e3.length
  have hl2 := instL_len e1
  have hsz : args.size = S.params.length := by rw [← hl2, ← hl]; simp
  have hent : S.entry ds = ⟨zipT (keys (entTm S.params 0)) vs, h', nextOf S.hin⟩ := by
    unfold Sig.entry SkSt.inst
    simp only [ent_vals, e1, e2]
  rw [hent]
  have hkeys : (keys (entTm S.params 0)).map (fun t => (args ++ Array.replicate (ntm - args.size) undef).getD t undef) = args.toList := by
    refine ent_keys _ _ _ _ (by simp [hsz]) fun j v hj => ?_
    rw [Array.getElem?_toList] at hj
    have hjl : j < args.size := by
      rcases Nat.lt_or_ge j args.size with h | h
      · exact h
      · simp [Array.getElem?_eq_none h] at hj
    simp only [Nat.zero_add]
    rw [Array.getD_eq_getD_getElem?, Array.getElem?_append_left hjl, hj]
    rfl
  refine ⟨rfl, by simp; omega, zip_get (fun t => (args ++ Array.replicate (ntm - args.size) undef).getD t undef) (by rw [hkeys]; exact e3), e4, ⟨by rw [he.w0], by rw [he.w0], by rw [he.w0], by rw [he.w0]; exact Nat.le_refl _, fun b _ _ => by rw [he.w0], fun b id hb => ⟨he.own b id hb, .inr (by rw [he.o0, hb]; simp)⟩⟩, by rw [he.n0]; exact Nat.le_refl _, fun i _ _ => by rw [he.mu0]⟩
def resSem (tmps : Array Value) : ResultVar → Sem Value
  | .tmp t => pure (tmps.getD t undef)
  | .cell a t => do loadVar t (← asAddr (tmps.getD a undef))
theorem results_eq (fn : Func) (tmps : Array Value) : results fn tmps = (do let vs ← fn.results.mapM (resSem tmps); pure (if h : vs.size = 1 then vs[0] else .tuple vs)) := rfl
theorem res_sound (hE : EnvOk E X.P) {ntm : Nat} {a : Act} (h : Rel X C s ntm a) {x : ResultVar} {v : AV} (hv : resOf E s x = some v) :
    ∃ u, (resSem a.tmps x).run X.P C.w = .ok u C.w ∧ RepA X C s.hp s.nx v u := by
  cases x with
  | tmp t =>
    simp only [resOf, Option.some.injEq] at hv
    subst hv
    exact ⟨_, rfl, h.tm t⟩
  | cell b t =>
    simp only [resOf] at hv
    split at hv
    · rename_i ti id off hti hb
      split at hv
      · rename_i l hg
        split at hv
        · rename_i hle
          have hle := Nat.le_of_ble_eq_true hle
          have ha := h.tm b
          rw [hb] at ha
          simp only [RepA] at ha
          obtain ⟨q, hm, hq⟩ := ha.2.2 l hg
          have hk := h.hp id
          rw [hg] at hk
          obtain ⟨_, b', arr, e, hm', ho, hw, hl⟩ := hk
          rw [hm] at hm'
          simp at hm'
          subst hm'
          obtain ⟨u, h1, h2⟩ := load_piece (t := t) (hE.ti _ _ hti) hl (o := 0) (fun j u hj => by rw [cell_blk hw]; simpa using hj) hle hv
          refine ⟨u, ?_, h2⟩
          show (do loadVar t (← asAddr (a.tmps.getD b undef)) : Sem Value).run X.P C.w = _
          rw [hq]
          simp only [Nat.zero_add] at h1
          simp [asAddr, h1]
        · cases hv
      · cases hv
    · cases hv
theorem resL_sound (hE : EnvOk E X.P) {ntm : Nat} {a : Act} (h : Rel X C s ntm a) : ∀ (l : List ResultVar) {vs : List AV}, resL E s l = some vs →
    ∃ us, (l.mapM (resSem a.tmps)).run X.P C.w = .ok us C.w ∧ RepL X C s.hp s.nx vs us
  | [], vs, e => by
    simp only [resL, Option.some.injEq] at e
    subst e
    exact ⟨[], by simp, by simp [RepL]⟩
  | x :: l, vs, e => by
    simp only [resL] at e
    split at e
    · rename_i v hv
      split at e
      · rename_i vs' hvs
        cases e
        obtain ⟨u, h1, h2⟩ := res_sound hE h hv
        obtain ⟨us, h3, h4⟩ := resL_sound hE h l hvs
        refine ⟨u :: us, ?_, ?_⟩
        · rw [List.mapM_cons]
          simp only [Sem.run_bind, h1, Result.andThen, h3, Sem.run_pure]
        · simp only [RepL]
          exact ⟨u, us, rfl, h2, h4⟩
      · cases e
    · cases e
theorem results_sound (hE : EnvOk E X.P) {ntm : Nat} {a : Act} (h : Rel X C s ntm a) {fn : Func} {l : List AV} (hl : resL E s fn.results.toList = some l) :
    ∃ v, (results fn a.tmps).run X.P C.w = .ok v C.w ∧ RepA X C s.hp s.nx (retV l) v := by
  obtain ⟨us, h1, h2⟩ := resL_sound hE h _ hl
  have hlen := h2.length
  rw [results_eq, Array.mapM_eq_mapM_toList]
  refine ⟨if h : us.toArray.size = 1 then us.toArray[0] else .tuple us.toArray, ?_, ?_⟩
  · simp only [Sem.run_bind, map_eq_pure_bind, Result.andThen, Sem.run_pure]
    rw [h1]
  · match l, us, h2, hlen with
    | [], [], h2, _ => simp only [retV, RepA]; exact ⟨#[], rfl, by simp [RepL]⟩
    | [v], [u], h2, _ =>
      simp only [RepL] at h2
      obtain ⟨v1, r1, e, h3, _⟩ := h2
      cases e
      exact h3
    | v1 :: v2 :: l, u1 :: u2 :: us, h2, _ =>
      simp only [retV, RepA]
      refine ⟨(u1 :: u2 :: us).toArray, ?_, h2⟩
      simp
theorem exit_ok {ntm : Nat} {a : Act} {S : Sig} (hn : X.n0 = nextOf S.hin) (hdn : ∀ i, i < nextOf S.hin → memH S.hin i = true) (h : Rel X C s ntm a) {av : AV} {v : Value} (hv : RepA X C s.hp s.nx av v) {d : Ds S.rats} (ho : S.out av s = some d) :
    ∃ C', C'.w = C.w ∧ ExitOk X C' S (untyped S.rats d) v := by
  unfold Sig.out at ho
  split at ho
  · rename_i g hg
    have hut := untyped_typed ho
    obtain ⟨C1, gh, hoo, hls, hrows, hhas, hfin⟩ := take_ok (us := [v]) h.hp h.fr (by simp only [RepL]; exact ⟨v, [], rfl, hv, rfl⟩) hg
    have hfr := gh.fr
    obtain ⟨vs, h', r0, e1, e2, e3, e4⟩ := hfin X (C1.under g.m) rfl (fun i j hij => by simp only [Cc.under, hij]) (fun b j i hb hk => by simp only [Cc.under, hb]; exact hk)
      (fun b hb => ⟨by simp only [Cc.under, hb.1], hb.2⟩)
      (fun l hl hk b hb => ⟨by simp only [Cc.under, hb]; exact hk, by rcases (hfr.own b l.1 hb).2 with h | h; exact .inr (.inl h); exact .inr (.inr h)⟩)
    refine ⟨C1.under g.m, gh.w, ?_, ⟨hfr.os, hfr.tape, hfr.output, hfr.size, fun b hb ho => hfr.block b hb ho, fun b id hb => ?_⟩⟩
    · rw [hut]
      simp only [Sk.instL] at e1
      cases e5 : S.res.inst [] id0 ver0 g.ds with
      | mk av1 r1 =>
        rw [e5] at e1
        simp only at e1
        cases e1
        simp only [RepL] at e3
        obtain ⟨u, r2, e6, e7, _⟩ := e3
        cases e6
        refine ⟨av1, _, h', rfl, e2, e7, e4, fun i hi hne => ?_⟩
        have hmem : memH S.hout i = true := by
          cases hg' : get? h' i with
          | none => simp [hget, hg'] at hne
          | some B => exact hinst_keys e2 i B hg'
        have hii := take_keep hg (inMp_get hi hmem)
        simp only [Cc.under, hii]
        obtain ⟨b, hb⟩ := mem_memH hmem
        have h5 := hrows _ hb i hii
        have hin := memH_lt hi
        have hlt : i < s.nx := Nat.lt_of_lt_of_le (by rw [hn]; exact hin) h.n0
        cases b with
        | row t inner =>
          obtain ⟨v, xs, inner', h6⟩ := h5.1 t inner rfl
          obtain ⟨h7, v', xs', inner'', h8, _⟩ := gh.evo.row i hlt _ _ _ _ h6
          rw [h7]; exact h.mu0 i (by rw [hn]; exact hin) (by rw [h8]; simp)
        | cells sk =>
          obtain ⟨l, h6⟩ := h5.2 sk rfl
          obtain ⟨h7, l', h8⟩ := gh.evo.cells i hlt _ h6
          rw [h7]; exact h.mu0 i (by rw [hn]; exact hin) (by rw [h8]; simp)
    · simp only [Cc.under] at hb
      split at hb
      · rename_i j hj
        exact hfr.own b j hj
      · cases hb
  · cases ho
theorem step_sound {P : Program} {J : Glob} (hE : EnvOk E P) (hS : SigOk E P) (hF : FnsOk E) {prim : Orc E} (hp : FnOk P J E prim) (hP : FnOk P J E orc) (k : Nat) : ∀ g S, get? E.sg g = some S → ∀ ds d, step E prim orc k g ds = some d → ∀ X C args, X.P = P → X.J = J → EntryOk X C S ds args →
    Calls P g args C.w fun e w' => ∃ v C', e = .returned v ∧ C'.w = w' ∧ ExitOk X C' S (untyped (E.rats g) d) v := by
  intro g S hsg ds d hd X C args hXP hXJ he
  subst hXP
  subst hXJ
  cases hfn : get? E.fn g with
  | none =>
    rw [step_prim hfn] at hd
    exact hp g S hsg ds d hd X C args rfl rfl he
  | some fn =>
    obtain ⟨c, d', hc, hb, hu⟩ := step_some hfn hsg hd
    rw [← hu]
    have hdn := hF.dense g S hsg
    refine calls_of_wp (hE.fn g fn hfn).1 hc ?_
    refine den_sound hE hS hP he.n0 hdn c S.ann (finish fn S E) _ ?_ _ C _ (entry_rel he (hF.room g S fn hsg hfn)) hb
    intro e s C a hr h
    have fin : (match resL E s fn.results.toList with
        | some l => S.out (retV l) s
        | none => none) = some d' → a.defers = [] ∧ ∃ v, (results fn a.tmps).run X.P C.w = .ok v C.w ∧ ∃ v' C', Ending.returned v = .returned v' ∧ C'.w = C.w ∧ ExitOk X C' S (untyped S.rats d') v' := by
      intro hr
      split at hr
      · rename_i l hl
        obtain ⟨v, h1, h2⟩ := results_sound hE h hl
        obtain ⟨C', h3, h4⟩ := exit_ok he.n0 hdn h h2 hr
        exact ⟨h.defers, v, h1, v, C', rfl, h3, h4⟩
      · cases hr
    cases e with
    | normal => exact fin hr
    | ret => exact fin hr
    | exit i => cases hr
theorem fun_sound {P : Program} {J : Glob} (hE : EnvOk E P) (hS : SigOk E P) (hF : FnsOk E) {prim : Orc E} (hp : FnOk P J E prim) : ∀ k, FnOk P J E (fun' E prim k)
  | 0 => fun g S hsg ds d hd => by cases hd
  | k + 1 => fun g S hsg ds d hd X C args hX hJ he => step_sound hE hS hF hp (fun_sound hE hS hF hp k) k g S hsg ds d hd X C args hX hJ he
end Go.Vm
namespace Go.Vm
open Go Go.RowKit Go.ChangeShapes Go.WideShapes
set_option linter.unusedVariables false
set_option linter.unusedSimpArgs false
mutual
/-- A type of the program is laid as a data type. -/
inductive TyOk (P : Program) : TypeId → Ty → Prop
  | int {t : TypeId} {k : IntKind} (h : P.underlying t = some (.int k)) : TyOk P t (.int k)
  | bool {t : TypeId} (h : P.underlying t = some .bool) : TyOk P t .bool
  | str {t : TypeId} (h : P.underlying t = some .string) : TyOk P t .str
  | row {t e : TypeId} {el : Ty} (h : P.underlying t = some (.slice e)) (hs : P.cellsOf e = el.sz) (he : TyOk P e el) : TyOk P t (.row el)
  | struct {t : TypeId} {fs : Array Field} {ty : Ty} (h : P.underlying t = some (.struct fs)) (hc : P.cellsOf t = ty.sz) (hf : FsOk P fs.toList 0 ty) : TyOk P t ty
inductive FsOk (P : Program) : List Field → Nat → Ty → Prop
  | last {f : Field} {o : Nat} {ty : Ty} (ho : f.offset = o) (hs : P.cellsOf f.type = ty.sz) (h : TyOk P f.type ty) : FsOk P [f] o ty
  | cons {f : Field} {fs : List Field} {o : Nat} {a b : Ty} (ho : f.offset = o) (hs : P.cellsOf f.type = a.sz) (h : TyOk P f.type a) (hr : FsOk P fs (o + a.sz) b) : FsOk P (f :: fs) o (.pair a b)
end
/-- What is known of a datum that comes in. -/
def WfD : (t : Ty) → t.D → Prop
  | .int k, n => (Lit.int k n).wf = true
  | .bool, _ => True
  | .str, s => s.size ≤ maxLen
  | .row el, xs => xs.length ≤ maxLen ∧ ∀ x ∈ xs, WfD el x
  | .pair a b, x => WfD a x.1 ∧ WfD b x.2
theorem list_of' {α : Type} {p : Nat → α → Prop} : ∀ n : Nat, (∀ i, i < n → ∃ y, p i y) → ∃ l : List α, l.length = n ∧ ∀ i y, l[i]? = some y → p i y := by
  intro n
  induction n with
  | zero => intro _; exact ⟨[], rfl, fun i y h => by simp at h⟩
  | succ n ih =>
    intro h
    obtain ⟨l, hl, hp⟩ := ih (fun i hi => h i (by omega))
    obtain ⟨y, hy⟩ := h n (by omega)
    refine ⟨l ++ [y], by simp [hl], fun i z hz => ?_⟩
    by_cases c : i < n
    · rw [List.getElem?_append_left (by omega)] at hz
      exact hp i z hz
    · have hi : i = n := by
        have := (List.getElem?_eq_some_iff.1 hz).1
        simp [hl] at this
        omega
      subst hi
      rw [List.getElem?_append_right (by omega), hl, Nat.sub_self] at hz
      simp at hz
      subst hz
      exact hy
/-- Cells that can be read lie in one block. -/
theorem cells_at {w : World} {base n : Nat} {a : Addr} {c : List Value} (hn : 0 < n) (h : w.cells? base a n = some c) :
    ∃ arr e fr, a = ⟨a.block, a.off, none⟩ ∧ w.heap[a.block]? = some (.cells arr e fr) ∧ a.off + n ≤ arr.size ∧ c = sl arr a.off n := by
  obtain ⟨_, hcl, hcell⟩ := World.cells?_some h
  have h0 := hcell 0 hn
  have hget : ∃ u, c[0]? = some u := by
    cases hc : c[0]? with
    | none => rw [List.getElem?_eq_none_iff] at hc; omega
    | some u => exact ⟨u, rfl⟩
  obtain ⟨u0, hu0⟩ := hget
  rw [hu0] at h0
  have hadd : a.add 0 = a := by simp [Addr.add]
  rw [hadd] at h0
  unfold World.cell? at h0
  split at h0
  · rename_i arr e fr hb
    split at h0
    · cases h0
    · rename_i hsp
      have hspot : a.spot = none := by simpa using hsp
      have ha : a = ⟨a.block, a.off, none⟩ := by cases a; simp_all
      have hall : ∀ i, i < n → arr[a.off + i]? = c[i]? := by
        intro i hi
        have := hcell i hi
        have hai : (a.add i) = ⟨a.block, a.off + i, none⟩ := by rw [ha, add_lit]
        rw [hai, cell_blk hb] at this
        exact this
      have hle : a.off + n ≤ arr.size := by
        have h1 := hall (n - 1) (by omega)
        have : ∃ u, c[n-1]? = some u := by
          cases hc : c[n-1]? with
          | none => rw [List.getElem?_eq_none_iff] at hc; omega
          | some u => exact ⟨u, rfl⟩
        obtain ⟨u, hu⟩ := this
        rw [hu] at h1
        have := (Array.getElem?_eq_some_iff.1 h1).1
        omega
      refine ⟨arr, e, fr, ha, hb, hle, ?_⟩
      apply List.ext_getElem?
      intro i
      by_cases hi : i < n
      · rw [sl_get hi]; exact (hall i hi).symm
      · rw [List.getElem?_eq_none_iff.2 (by omega), List.getElem?_eq_none_iff.2 (by rw [sl_length hle]; omega)]
  · cases h0
def Any (_ : Nat) : Prop := True
mutual
theorem TyOk.opens {P : Program} : ∀ {t : TypeId} {ty : Ty}, TyOk P t ty → ∀ {H : Type} {enc : TypeId × Value → H} {w : World} {base : Nat} {held : Bool} {fuel : Nat} {cs : List Value} {x : DataW H × List MemPlace},
    DataW.trod enc P w base (fun _ => true) held fuel t cs = some x → ∃ d : ty.D, RepD w Any ty d cs ∧ WfD ty d
  | _, _, .int hu, H, enc, w, base, held, fuel, cs, x, h => by
    obtain ⟨m, rfl, _, hw⟩ := DataW.trod_int hu h
    exact ⟨m, rfl, hw⟩
  | _, _, .bool hu, H, enc, w, base, held, fuel, cs, x, h => by
    obtain ⟨m, rfl, _⟩ := DataW.trod_bool hu h
    exact ⟨m, rfl, trivial⟩
  | _, _, .str hu, H, enc, w, base, held, fuel, cs, x, h => by
    obtain ⟨m, rfl, _, hm⟩ := DataW.trod_string hu h
    exact ⟨m, rfl, hm⟩
  | _, _, .row (el := el) hu hs he, H, enc, w, base, held, fuel, cs, x, h => by
    rcases DataW.trod_slice hu h with ⟨rfl, _⟩ | ⟨a, len, cap, elems, rest, n, _, rfl, _, hb, hl, hm, hlen, hel, _, _⟩
    · exact ⟨[], ⟨none, 0, rfl, Nat.le_refl _, fun h => absurd h (Nat.lt_irrefl _)⟩, by simp [maxLen], by simp⟩
    · have hsz := el.sz_pos
      obtain ⟨l, hll, hlp⟩ := list_of' (p := fun i (y : el.D) => ∃ c, w.cells? base (a.add (i * el.sz)) el.sz = some c ∧ RepD w Any el y c ∧ WfD el y) len (fun i hi => by
        have h1 := hel i hi
        rw [List.getElem?_eq_getElem (by omega : i < elems.length), Option.bind_eq_some_iff, hs] at h1
        obtain ⟨c, hc, hy⟩ := h1
        obtain ⟨y, hK, hw⟩ := TyOk.opens he hy
        exact ⟨y, c, hc, hK, hw⟩)
      refine ⟨l, ⟨some a, cap, by rw [hll], by omega, fun hpos => ?_⟩, by omega, fun y hy => ?_⟩
      · obtain ⟨y0, hy0⟩ : ∃ y, l[0]? = some y := by
          cases hc : l[0]? with
          | none => rw [List.getElem?_eq_none_iff] at hc; omega
          | some y => exact ⟨y, rfl⟩
        obtain ⟨c0, hc0, _, _⟩ := hlp 0 y0 hy0
        have hadd : a.add (0 * el.sz) = a := by simp [Addr.add]
        rw [hadd] at hc0
        obtain ⟨arr, e, fr, ha, hbk, _, _⟩ := cells_at hsz hc0
        have each : ∀ i y, l[i]? = some y → a.off + i * el.sz + el.sz ≤ arr.size ∧ RepD w Any el y (sl arr (a.off + i * el.sz) el.sz) := by
          intro i y hi
          obtain ⟨c, hc, hK, _⟩ := hlp i y hi
          have hai : a.add (i * el.sz) = ⟨a.block, a.off + i * el.sz, none⟩ := by rw [ha, add_lit]
          rw [hai] at hc
          obtain ⟨arr', e', fr', _, hb', hle', rfl⟩ := cells_at hsz hc
          simp only at hb' hle' hK
          rw [hbk] at hb'
          cases hb'
          exact ⟨hle', hK⟩
        refine ⟨a.block, a.off, arr, e, fr, by rw [← ha], trivial, hbk, ?_, fun i y hi => (each i y hi).2⟩
        obtain ⟨yl, hyl⟩ : ∃ y, l[l.length - 1]? = some y := by
          cases hc : l[l.length - 1]? with
          | none => rw [List.getElem?_eq_none_iff] at hc; omega
          | some y => exact ⟨y, rfl⟩
        have h1 := (each _ _ hyl).1
        have h2 : l.length * el.sz = (l.length - 1) * el.sz + el.sz := by
          have : l.length = (l.length - 1) + 1 := by omega
          conv => lhs; rw [this, Nat.succ_mul]
        omega
      · obtain ⟨i, hi⟩ := List.getElem?_of_mem hy
        obtain ⟨c, _, _, hw⟩ := hlp i y hi
        exact hw
  | _, _, .struct hu hc hf, H, enc, w, base, held, fuel, cs, x, h => by
    obtain ⟨xs, n, _, _, hlen, hxl, hfs⟩ := DataW.trod_struct hu h
    have := FsOk.opens hf (cs := cs) (xs := xs) (enc := enc) (w := w) (base := base) (held := held) (n := n) (by simp only [Array.length_toList]; exact hxl) (by rw [Nat.zero_add, hlen, hc]) (fun i f hi => hfs i f (by simpa using hi))
    simpa using this
theorem FsOk.opens {P : Program} : ∀ {fs : List Field} {o : Nat} {ty : Ty}, FsOk P fs o ty → ∀ {H : Type} {enc : TypeId × Value → H} {w : World} {base : Nat} {held : Bool} {n : Nat} {cs : List Value} {xs : List (DataW H × List MemPlace)},
    xs.length = fs.length → cs.length = o + ty.sz → (∀ (i : Nat) (f : Field), fs[i]? = some f → DataW.trod enc P w base (fun _ => true) held n f.type ((cs.drop f.offset).take (P.cellsOf f.type)) = xs[i]?) → ∃ d : ty.D, RepD w Any ty d (cs.drop o) ∧ WfD ty d
  | _, _, _, .last (f := f) ho hs hty, H, enc, w, base, held, n, cs, xs, hl, hcs, hf => by
    have h0 := hf 0 f rfl
    rw [List.getElem?_eq_getElem (by rw [hl]; simp), ho, hs, List.take_of_length_le (by rw [List.length_drop]; omega)] at h0
    exact TyOk.opens hty h0
  | _, _, _, .cons (f := f) (fs := fs) (o := o) (a := a) (b := b) ho hs hty hr, H, enc, w, base, held, n, cs, xs, hl, hcs, hf => by
    have h0 := hf 0 f rfl
    rw [List.getElem?_eq_getElem (by rw [hl]; simp), ho, hs] at h0
    obtain ⟨x, hx, wx⟩ := TyOk.opens hty h0
    obtain ⟨y, hy, wy⟩ := FsOk.opens hr (cs := cs) (xs := xs.drop 1) (enc := enc) (w := w) (base := base) (held := held) (n := n) (by rw [List.length_drop, hl]; simp) (by rw [hcs]; simp only [Ty.sz]; omega)
      (fun i g hi => by rw [List.getElem?_drop, Nat.add_comm 1 i]; exact hf (i + 1) g hi)
    refine ⟨(x, y), ⟨(cs.drop o).take a.sz, cs.drop (o + a.sz), ?_, hx, hy⟩, wx, wy⟩
    rw [← List.drop_drop, List.take_append_drop]
end
/-- The memory of a law's input: all of it is shared. -/
def X0 (P : Program) (J : Glob) (W : World) (hj : J.I W fun _ => none) : Cx := ⟨P, W, fun _ => none, Any, 0, fun _ => undef, J, hj⟩
def C0 (W : World) : Cc := ⟨W, fun _ => undef, fun _ => none⟩
def topV (agg : Bool) (ty : Ty) (d : ty.D) : AV := match agg with
  | true => .agg (ty.avs [] d)
  | false => match ty.avs [] d with
    | [v] => v
    | _ => .junk
theorem topV_rep {P : Program} {J : Glob} {W : World} {hj : J.I W fun _ => none} {agg : Bool} {ty : Ty} {d : ty.D} {v : Value} (h : RepD W Any ty d v.cells.toList) (ha : agg = true → ∃ arr, v = .agg arr) (hb : agg = false → v.cells.toList = [v]) : RepA (X0 P J W hj) (C0 W) [] 0 (topV agg ty d) v := by
  have hr : RepL (X0 P J W hj) (C0 W) [] 0 (ty.avs [] d) v.cells.toList := avs_rep (ls := []) (by simp) rfl (h.mono fun b hb o ho => ⟨ho, .inl ⟨rfl, .inl trivial⟩⟩)
  unfold topV
  cases agg with
  | true =>
    obtain ⟨arr, rfl⟩ := ha rfl
    simp only [RepA]
    exact ⟨arr, rfl, hr⟩
  | false =>
    rw [hb rfl] at hr
    simp only
    split
    · rename_i u hu
      rw [hu] at hr
      simp only [RepL] at hr
      obtain ⟨v', r, e1, e2, _⟩ := hr
      cases e1
      exact e2
    · simp only [RepA]
theorem fn_calls {P : Program} {J : Glob} {E : Env} {orc : Orc E} (hF : FnOk P J E orc) {g : Nat} {S : Sig} (hsg : get? E.sg g = some S) (hin : S.hin = []) (hout : S.hout = []) (hres : S.res = .bool) {W : World} (hj : J.I W fun _ => none) {args : Array Value} {vs : List AV} {ds : List DV}
    (hi : Sk.instL [] id0 ver0 S.params ds = (vs, [])) (hr : RepL (X0 P J W hj) (C0 W) [] 0 vs args.toList) {d : Ds (E.rats g)} (h : orc g ds = some d) (hd : untyped (E.rats g) d = [.bool true]) :
    Calls P g args W fun e W' => e = .returned (.bool true) ∧ Below W.heap.size W W' := by
  have := hF g S hsg ds d h (X0 P J W hj) (C0 W) args rfl rfl ⟨rfl, rfl, by rw [hin]; rfl, rfl, ⟨vs, [], [], hi, by rw [hin]; rfl, by rw [hin]; exact hr, fun id => trivial⟩, fun b id hb => by cases hb⟩
  refine this.mono fun e w' he => ?_
  obtain ⟨v, C', rfl, rfl, ⟨av, r, h', e1, e2, e3, _⟩, fr⟩ := he
  rw [hd, hres] at e1
  simp only [Sk.inst] at e1
  cases e1
  simp only [RepA] at e3
  subst e3
  exact ⟨rfl, fr.os, fr.tape, fr.output, fr.size, fun k hk => fr.block k hk rfl⟩
/-- Checks of the tables, one by one. -/
def AllP {α : Type} (Q : Nat → α → Prop) : List (Nat × α) → Prop
  | [] => True
  | (a, b) :: l => Q a b ∧ AllP Q l
theorem AllP.get {α : Type} {Q : Nat → α → Prop} : ∀ {l : List (Nat × α)}, AllP Q l → ∀ a b, get? l a = some b → Q a b
  | [], _, a, b, h => by cases h
  | (i, x) :: l, hq, a, b, h => by
    rw [get?_cons] at h
    split at h
    · rename_i e; subst e; cases h; exact hq.1
    · exact AllP.get hq.2 a b h
def allGet {α : Type} (f : Nat → α → Bool) : List (Nat × α) → Bool
  | [] => true
  | (a, b) :: l => f a b && allGet f l
theorem allGet_get {α : Type} {f : Nat → α → Bool} : ∀ {l : List (Nat × α)}, allGet f l = true → ∀ a b, get? l a = some b → f a b = true
  | [], _, a, b, h => by cases h
  | (i, x) :: l, hq, a, b, h => by
    simp only [allGet, Bool.and_eq_true] at hq
    rw [get?_cons] at h
    split at h
    · rename_i e; subst e; cases h; exact hq.1
    · exact allGet_get hq.2 a b h
def denseB (S : Sig) : Nat → Bool
  | 0 => true
  | n + 1 => memH S.hin n && denseB S n
theorem denseB_get {S : Sig} : ∀ {n : Nat}, denseB S n = true → ∀ i, i < n → memH S.hin i = true
  | n + 1, h, i, hi => by
    simp only [denseB, Bool.and_eq_true] at h
    by_cases e : i = n
    · subst e; exact h.1
    · exact denseB_get h.2 i (by omega)
theorem fnsOk {E : Env} (hd : allGet (fun _ S => denseB S (nextOf S.hin)) E.sg = true) (hr : allGet (fun g S => match get? E.fn g with | some fn => Nat.ble S.params.length fn.ntmps | none => true) E.sg = true) : FnsOk E where
  dense := fun g S h => denseB_get (allGet_get hd g S h)
  room := fun g S fn h hf => by
    have := allGet_get hr g S h
    simp only [hf] at this
    exact Nat.le_of_ble_eq_true this
end Go.Vm
