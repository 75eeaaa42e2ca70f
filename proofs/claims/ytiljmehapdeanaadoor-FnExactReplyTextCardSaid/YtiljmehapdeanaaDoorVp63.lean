/- ReplyText: the law. -/
import Derived.Test.YtiljmehapdeanaaDoorVp62
namespace Go.Vm.Pu
open Go Go.RowKit Go.Vm
set_option linter.unusedVariables false
set_option linter.unusedSimpArgs false
def replyB (a b c : Int) (A B : List Int) : List UInt8 :=
  if a ≠ 0 then [110, 111, 32] ++ Lib.itoa a else
    if c ≠ 0 ∨ 0 < A.length ∨ 0 < B.length then [111, 107, 32] ++ Lib.itoa b ++ [32] ++ Lib.itoa c ++ [32] ++ listB A ++ [32] ++ listB B else [111, 107, 32] ++ Lib.itoa b
theorem itoa_len (x : Int) (h : Wf1 x) : (Lib.itoa x).length ≤ 21 := Lib.itoa_length_le x h.1 h.2
section
variable (c : Int) (A B : List Int) (hc : Wf1 c) (hA : Wf A) (hB : Wf B) (nA : A.length ≤ 1048576) (nB : B.length ≤ 1048576)
include hc hA hB nA nB
theorem reply_sj (a b : Int) (o : List UInt8) (ho : o.length ≤ 100) (k : Nat) (hk : 1048701 ≤ k) : spec_ReplyText.j0 k (tB o) true a b c A B = some (tB (o ++ [32] ++ Lib.itoa c ++ [32] ++ listB A ++ [32] ++ listB B)) := by
  have i1 := itoa_len c hc
  have i2 := listB_len A hA
  have i3 := listB_len B hB
  rw [spec_ReplyText.j0_eq, if_pos rfl, show str6 = tB [32] from rfl]
  simp only [numV c hc.1 hc.2 k (by omega), l21ListV A hA nA k (by omega), l21ListV B hB nB k (by omega), bs, tB_app, tB_size]
  rw [if_pos (by simp; omega), if_pos (by simp; omega), if_pos (by simp; omega), if_pos (by simp; omega), if_pos (by simp; omega), if_pos (by simp; omega)]
theorem reply_ij (a b : Int) (o : List UInt8) (ho : o.length ≤ 100) (k : Nat) (hk : 1048701 ≤ k) : impl_ReplyText.j0 k (tB o) true a b c A B = some (tB (o ++ [32] ++ Lib.itoa c ++ [32] ++ listB A ++ [32] ++ listB B)) := by
  have i1 := itoa_len c hc
  have i2 := listB_len A hA
  have i3 := listB_len B hB
  rw [impl_ReplyText.j0_eq, if_pos rfl, show str6 = tB [32] from rfl]
  simp only [itoaV c hc.1 hc.2 k (by omega), listTextV A hA nA k (by omega), listTextV B hB nB k (by omega), bs, tB_app, tB_size]
  rw [if_pos (by simp; omega), if_pos (by simp; omega), if_pos (by simp; omega), if_pos (by simp; omega), if_pos (by simp; omega), if_pos (by simp; omega)]
  simp [List.append_assoc]
theorem reply_s (a b : Int) (ha : Wf1 a) (hb : Wf1 b) (k : Nat) (hk : 1048702 ≤ k) : spec_ReplyText.f k a b c A B = some (tB (replyB a b c A B)) := by
  obtain ⟨k, rfl⟩ : ∃ m, k = m + 1 := ⟨k - 1, by omega⟩
  have i1 := itoa_len a ha
  have i2 := itoa_len b hb
  rw [spec_ReplyText.f_eq]
  unfold replyB
  by_cases h : a ≠ 0
  · rw [if_pos h, if_pos h, numV a ha.1 ha.2 k (by omega), bs, show str4 = tB [110, 111, 32] from rfl, tB_app, tB_size, tB_size, if_pos (by simp; omega)]
  · rw [if_neg h, if_neg h, numV b hb.1 hb.2 k (by omega), bs, show str5 = tB [111, 107, 32] from rfl, tB_app, tB_size, tB_size, if_pos (by simp; omega)]
    have hj := reply_sj c A B hc hA hB nA nB a b ([111, 107, 32] ++ Lib.itoa b) (by simp; omega) k (by omega)
    by_cases h2 : c ≠ 0
    · rw [if_pos h2, if_pos (.inl h2)]
      exact hj
    · rw [if_neg h2]
      by_cases h3 : (A.length : Int) > 0
      · rw [if_pos h3, if_pos (.inr (.inl (by omega)))]
        exact hj
      · rw [if_neg h3]
        by_cases h4 : (B.length : Int) > 0
        · rw [if_pos (.inr (.inr (by omega))), decide_eq_true h4]
          exact hj
        · rw [if_neg (by omega), decide_eq_false h4, spec_ReplyText.j0_eq, if_neg (by simp)]
theorem reply_i (a b : Int) (ha : Wf1 a) (hb : Wf1 b) (k : Nat) (hk : 1048702 ≤ k) : impl_ReplyText.f k a b c A B = some (tB (replyB a b c A B)) := by
  obtain ⟨k, rfl⟩ : ∃ m, k = m + 1 := ⟨k - 1, by omega⟩
  have i1 := itoa_len a ha
  have i2 := itoa_len b hb
  rw [impl_ReplyText.f_eq]
  unfold replyB
  by_cases h : a ≠ 0
  · rw [if_pos h, if_pos h, itoaV a ha.1 ha.2 k (by omega), bs, show str4 = tB [110, 111, 32] from rfl, tB_app, tB_size, tB_size, if_pos (by simp; omega)]
  · rw [if_neg h, if_neg h, itoaV b hb.1 hb.2 k (by omega), bs, show str5 = tB [111, 107, 32] from rfl, tB_app, tB_size, tB_size, if_pos (by simp; omega)]
    have hj := reply_ij c A B hc hA hB nA nB a b ([111, 107, 32] ++ Lib.itoa b) (by simp; omega) k (by omega)
    by_cases h2 : c ≠ 0
    · rw [if_pos h2, if_pos (.inl h2)]
      exact hj
    · rw [if_neg h2]
      by_cases h3 : (A.length : Int) > 0
      · rw [if_pos h3, if_pos (.inr (.inl (by omega)))]
        exact hj
      · rw [if_neg h3]
        by_cases h4 : (B.length : Int) > 0
        · rw [if_pos (.inr (.inr (by omega))), decide_eq_true h4]
          exact hj
        · rw [if_neg (by omega), decide_eq_false h4, impl_ReplyText.j0_eq, if_neg (by simp)]
end
theorem law_ReplyText (a b c : Int) (A B : List Int) (ha : Wf1 a) (hb : Wf1 b) (hc : Wf1 c) (hA : A.length ≤ maxLen) (hB : B.length ≤ maxLen) (wA : Wf A) (wB : Wf B) : ∃ k, laws_FnExactReplyText.f k a b c A B = some true := by
  refine ⟨1048800, ?_⟩
  rw [show (1048800 : Nat) = 1048799 + 1 from rfl, laws_FnExactReplyText.f_eq, show (1048799 : Nat) = 1048798 + 1 from rfl, laws_szReply.f_eq, szRes_f c A B hA hB 1048576 (by omega) (by omega) _ (by omega), bs]
  by_cases g : (A.length : Int) + (B.length : Int) ≤ 1048576
  · rw [if_pos g, if_neg (by omega), bs, if_neg (by omega), laws_toReply.f_eq, toRes_f c A B (by omega) (by omega) _ (by omega)]
    simp only [bs]
    rw [reply_s c A B hc wA wB (by omega) (by omega) a b ha hb _ (by omega), reply_i c A B hc wA wB (by omega) (by omega) a b ha hb _ (by omega)]
    simp only [bs]
    rw [if_neg (by simp), laws_eqReply.f_eq, if_neg (by simp), if_neg (by simp), eqRes_self c A B (by omega) (by omega) _ (by omega), bs, if_neg (by decide), bs, if_neg (by decide)]
  · rw [if_neg g, if_pos (by omega), bs, if_pos (by omega)]
end Go.Vm.Pu
