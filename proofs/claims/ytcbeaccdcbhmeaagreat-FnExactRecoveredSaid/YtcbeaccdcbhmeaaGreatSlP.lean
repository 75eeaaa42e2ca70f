/- The functions given by hand do what the reading tells; no condition. -/
import Derived.Test.YtcbeaccdcbhmeaaGreatSl
import Derived.Test.YtcbeaccdcbhmeaaGreatRA
namespace Go.Vm.Sl
open Go Go.RowKit Go.Proofs
set_option linter.unusedVariables false
set_option linter.unusedSimpArgs false
theorem primDel_some {T : Ty} {ds l : List DV} (h : primDel T ds = some l) : ∃ (i j : Int) (xs : List T.D), ds = [.int i, .int j, .row T xs] ∧ 0 ≤ i ∧ i < j ∧ j ≤ (xs.length : Int) ∧ l = [.row T (xs.take i.toNat ++ xs.drop j.toNat)] := by
  unfold primDel at h
  split at h
  · rename_i i j u xs
    split at h
    · rename_i ys hc
      split at h
      · rename_i g
        obtain ⟨e, hy⟩ := rowCast_eq hc
        subst e
        subst hy
        exact ⟨i, j, ys, rfl, g.1, g.2.1, g.2.2, (Option.some.inj h).symm⟩
      · cases h
    · cases h
  · cases h
theorem primIns_some {T : Ty} {ds l : List DV} (h : primIns T ds = some l) : ∃ (i : Int) (xs : List T.D) (y : T.D), ds = [.int i, .row T xs, .row T [y]] ∧ 0 ≤ i ∧ i ≤ (xs.length : Int) ∧ xs.length < 1000000000000 ∧ l = [.row T (xs.take i.toNat ++ y :: xs.drop i.toNat)] := by
  unfold primIns at h
  split at h
  · rename_i i u xs v zs
    split at h
    · rename_i ys y hc1 hc2
      split at h
      · rename_i g
        obtain ⟨e1, hy1⟩ := rowCast_eq hc1
        subst e1
        subst hy1
        obtain ⟨e2, hy2⟩ := rowCast_eq hc2
        subst e2
        simp only at hy2
        subst hy2
        exact ⟨i, ys, y, rfl, g.1, g.2.1, g.2.2, (Option.some.inj h).symm⟩
      · cases h
    · cases h
  · cases h
theorem typed_one {T : Ty} {ys : List T.D} {r : List At} (hr : r = [At.row T]) {d : Ds r} (h : typed r [.row T ys] = some d) : untyped r d = [.row T ys] := by
  subst hr
  simp only [typed, At.of, rowCast_self] at h
  cases h
  rfl
theorem prim_ok : FnOk Tryz.prog E prim := by
  intro g S hS ds d hd X C args hX he
  unfold prim at hd
  split at hd
  · rename_i l hl
    unfold primL at hl
    split at hl
    · rename_i hg
      obtain rfl := Nat.eq_of_beq_eq_true hg
      obtain ⟨i, j, xs, rfl, g1, g2, g3, rfl⟩ := primDel_some hl
      have hS' : S = delSig302 := Option.some.inj (hS.symm.trans (by kernel_rfl))
      subst hS'
      have hu := typed_one (r := ratsOf (get? E.sg 302)) (by kernel_rfl) hd
      rw [show untyped (E.rats 302) d = _ from hu]
      exact del_prim302 he g1 g2 g3
    · split at hl
      · rename_i hg
        obtain rfl := Nat.eq_of_beq_eq_true hg
        obtain ⟨i, j, xs, rfl, g1, g2, g3, rfl⟩ := primDel_some hl
        have hS' : S = delSig233 := Option.some.inj (hS.symm.trans (by kernel_rfl))
        subst hS'
        have hu := typed_one (r := ratsOf (get? E.sg 233)) (by kernel_rfl) hd
        rw [show untyped (E.rats 233) d = _ from hu]
        exact del_prim233 he g1 g2 g3
      · split at hl
        · rename_i hg
          obtain rfl := Nat.eq_of_beq_eq_true hg
          obtain ⟨i, xs, y, rfl, g1, g2, g3, rfl⟩ := primIns_some hl
          have hS' : S = insSig229 := Option.some.inj (hS.symm.trans (by kernel_rfl))
          subst hS'
          have hu := typed_one (r := ratsOf (get? E.sg 229)) (by kernel_rfl) hd
          rw [show untyped (E.rats 229) d = _ from hu]
          exact ins_prim229 he g1 g2 g3
        · cases hl
  · cases hd
end Go.Vm.Sl
