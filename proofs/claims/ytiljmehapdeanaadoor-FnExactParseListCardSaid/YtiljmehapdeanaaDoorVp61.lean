/- Texts as lists of bytes; a number's text; marks of the arguments (as in Vp59). -/
import Derived.Test.YtiljmehapdeanaaDoorVp0
import Derived.Test.YtiljmehapdeanaaDoorVp15a
import Derived.Lib.ItoaNum
import Derived.Lib.ItoaLen
import Derived.Lib.Join
namespace Go.Vm.Pu
open Go Go.RowKit Go.Vm
set_option linter.unusedVariables false
set_option linter.unusedSimpArgs false
theorem szInts_f (D : List Int) (h : D.length ≤ maxLen) (m : Int) (h0 : 0 ≤ m) (h1 : m ≤ 1048576) (k : Nat) (hk : 1 ≤ k) : laws_szIntS.f k D m = some (if (D.length : Int) ≤ m then m - (D.length : Int) else -1) := by
  obtain ⟨k, rfl⟩ : ∃ m, k = m + 1 := ⟨k - 1, by omega⟩
  unfold maxLen at h
  rw [laws_szIntS.f_eq, wrap_id (x := m - (D.length : Int)) (by omega) (by omega)]
  by_cases c : m - (D.length : Int) < 0
  · rw [if_pos c, if_neg (by omega)]
  · rw [if_neg c, if_pos (by omega)]
theorem szRes_f (r : Int) (A B : List Int) (hA : A.length ≤ maxLen) (hB : B.length ≤ maxLen) (m : Int) (h0 : 0 ≤ m) (h1 : m ≤ 1048576) (k : Nat) (hk : 2 ≤ k) :
    laws_szResult.f k r A B m = some (if (A.length : Int) + (B.length : Int) ≤ m then m - (A.length : Int) - (B.length : Int) else -1) := by
  obtain ⟨k, rfl⟩ : ∃ m, k = m + 1 := ⟨k - 1, by omega⟩
  rw [laws_szResult.f_eq, szInts_f A hA m h0 h1 k (by omega), bs]
  by_cases c : (A.length : Int) ≤ m
  · rw [if_pos c, if_neg (by omega), szInts_f B hB _ (by omega) (by omega) k (by omega), bs]
    by_cases d : (B.length : Int) ≤ m - (A.length : Int)
    · rw [if_pos d, if_neg (by omega), if_pos (by omega)]
    · rw [if_neg d, if_pos (by omega), if_neg (by omega)]
  · rw [if_neg c, if_pos (by omega), if_neg (by omega)]
theorem toIntS_f (l : List Int) (hn : l.length ≤ 1048576) (k : Nat) (hk : l.length + 1 < k) : laws_toIntS.f k l = some l := by
  obtain ⟨k, rfl⟩ : ∃ m, k = m + 1 := ⟨k - 1, by omega⟩
  rw [laws_toIntS.f_eq, if_pos (by omega), if_pos (by omega), if_pos (by omega)]
  have := set_loop (fun fu s i => laws_toIntS.l0 k fu l i s) l id 0 (by
    intro fu s _
    simp only [laws_toIntS.l0_eq]
    rw [if_neg (by omega)]) (by
    intro fu i s h _ hs
    simp only [laws_toIntS.l0_eq]
    rw [if_pos (by omega), if_pos (by omega), if_pos (by omega), if_pos (by omega), if_pos (by omega), rd_at l i h, wrap_next h (by omega)]
    rfl) k (List.replicate (Int.toNat (l.length : Int)) (0 : Int)) (by omega) (by simp)
  simpa using this
theorem toRes_f (r : Int) (A B : List Int) (hA : A.length ≤ 1048576) (hB : B.length ≤ 1048576) (k : Nat) (hk : 1048579 < k) : laws_toResult.f k r A B = some (r, A, B) := by
  obtain ⟨k, rfl⟩ : ∃ m, k = m + 1 := ⟨k - 1, by omega⟩
  rw [laws_toResult.f_eq, toIntS_f A hA k (by omega), bs, toIntS_f B hB k (by omega), bs]
theorem eqRes_self (r : Int) (A B : List Int) (hA : A.length ≤ 1048576) (hB : B.length ≤ 1048576) (k : Nat) (hk : 1048579 < k) : laws_eqResult.f k r A B r A B = some true := by
  obtain ⟨k, rfl⟩ : ∃ m, k = m + 1 := ⟨k - 1, by omega⟩
  rw [laws_eqResult.f_eq, if_neg (by simp), eqIntS_f A hA k (by omega), bs, if_neg (by decide), eqIntS_f B hB k (by omega), bs, if_neg (by decide)]
/-- A text from its bytes. -/
def tB (l : List UInt8) : ByteArray := ⟨l.toArray⟩
theorem tB_size (l : List UInt8) : (tB l).size = l.length := by simp [tB, ByteArray.size]
theorem tB_list (s : ByteArray) : tB s.data.toList = s := by simp [tB]
theorem tB_data (l : List UInt8) : (tB l).data.toList = l := by simp [tB]
theorem tB_inj {a b : List UInt8} (h : tB a = tB b) : a = b := by
  have := congrArg (fun s : ByteArray => s.data.toList) h
  simpa [tB] using this
theorem tB_app (a b : List UInt8) : tB a ++ tB b = tB (a ++ b) := by
  apply ByteArray.ext
  simp [tB]
theorem tB_nil : ByteArray.empty = tB [] := rfl
theorem tB_strOf (l : List UInt8) : strOf (l.map fun b => (b.toNat : Int)) = tB l := by
  unfold strOf tB
  congr 2
  rw [List.map_map]
  conv => rhs; rw [← List.map_id l]
  apply List.map_congr_left
  intro b _
  simp
theorem tB_bt (l : List UInt8) (i : Nat) (h : i < l.length) : bt (tB l) (i : Int) = (l[i].toNat : Int) := by
  simp [bt, tB, Array.getD, h]
theorem tB_extract (l : List UInt8) (a b : Nat) (h : b ≤ l.length) : (tB l).extract a b = tB ((l.drop a).take (b - a)) := by
  apply ByteArray.ext
  apply Array.ext'
  simp [tB, ByteArray.data_extract, Array.toList_extract, List.extract]
theorem u8_id {x : Int} (h0 : 0 ≤ x) (h1 : x ≤ 255) : IntKind.u8.wrap x = x := by
  show x % 256 = x
  omega
def dgt (u : Nat) : UInt8 := UInt8.ofNat (48 + u)
theorem dgt_str (u : Nat) (h : u < 10) : strOf [IntKind.u8.wrap (wrap64 (48 + (u : Int)))] = tB [dgt u] := by
  rw [wrap_id (by omega) (by omega), u8_id (by omega) (by omega)]
  unfold strOf tB dgt
  simp only [List.map_cons, List.map_nil]
  congr 4
theorem decDigits_step (u : Nat) (h : u ≠ 0) : Lib.decDigits u = (if u / 10 = 0 then [] else Lib.decDigits (u / 10)) ++ [dgt (u % 10)] := by
  rw [Lib.decDigits]
  by_cases c : u < 10
  · rw [dif_pos c, if_pos (by omega)]
    rw [Nat.mod_eq_of_lt c]
    rfl
  · rw [dif_neg c, if_neg (by omega)]
    rfl
/-- The digits of a number, written from the last to the first. -/
theorem num_loop (K : Nat) (neg : Bool) : ∀ (d u : Nat) (x : Int) (out : List UInt8) (fu : Nat), x.natAbs = u → u < 10 ^ d → d < fu → out.length + d ≤ 1000 → -9223372036854775808 ≤ x → x ≤ 9223372036854775807 →
    spec_l01Num.l0 K fu x (tB out) neg = some (tB ((if neg = true then [45] else []) ++ ((if u = 0 then [] else Lib.decDigits u) ++ out))) := by
  intro d
  induction d with
  | zero =>
    intro u x out fu hu hd hf ho h0 h1
    obtain ⟨fu, rfl⟩ : ∃ m, fu = m + 1 := ⟨fu - 1, by omega⟩
    obtain rfl : u = 0 := by simpa using hd
    obtain rfl : x = 0 := by omega
    rw [spec_l01Num.l0_eq, if_neg (by simp), if_pos rfl, List.nil_append]
    cases neg with
    | false => rw [if_neg (by simp), if_neg (by simp), List.nil_append]
    | true =>
      rw [if_pos rfl, if_pos rfl, show str1 = tB [45] from rfl, if_pos (by rw [tB_size, tB_size]; simp; omega), tB_app]
  | succ d ih =>
    intro u x out fu hu hd hf ho h0 h1
    obtain ⟨fu, rfl⟩ : ∃ m, fu = m + 1 := ⟨fu - 1, by omega⟩
    by_cases hx : x = 0
    · obtain rfl : u = 0 := by omega
      rw [spec_l01Num.l0_eq, if_neg (by simpa using hx), if_pos rfl, List.nil_append]
      cases neg with
      | false => rw [if_neg (by simp), if_neg (by simp), List.nil_append]
      | true => rw [if_pos rfl, if_pos rfl, show str1 = tB [45] from rfl, if_pos (by rw [tB_size, tB_size]; simp; omega), tB_app]
    · have hu0 : u ≠ 0 := by omega
      have hq : u / 10 < 10 ^ d := by
        rw [Nat.pow_succ] at hd
        exact (Nat.div_lt_iff_lt_mul (by decide)).2 hd
      have hm : u % 10 < 10 := Nat.mod_lt _ (by decide)
      have key : ∀ y : Int, y.natAbs = u / 10 → -9223372036854775808 ≤ y → y ≤ 9223372036854775807 →
          (if (tB [dgt (u % 10)]).size + (tB out).size < 68719476736 then spec_l01Num.l0 K fu y (tB [dgt (u % 10)] ++ tB out) neg else none) = some (tB ((if neg = true then [45] else []) ++ ((if u = 0 then [] else Lib.decDigits u) ++ out))) := by
        intro y hy y0 y1
        rw [if_pos (by rw [tB_size, tB_size]; simp; omega), tB_app, ih (u / 10) y _ fu hy hq (by omega) (by simp; omega) y0 y1, if_neg hu0, decDigits_step u hu0]
        simp
      rw [spec_l01Num.l0_eq, if_pos hx]
      rcases Int.natAbs_eq x with e | e
      · rw [hu] at e
        subst e
        have e1 : Int.tmod (u : Int) 10 = ((u % 10 : Nat) : Int) := (Int.ofNat_tmod u 10).symm
        have e2 : Int.tdiv (u : Int) 10 = ((u / 10 : Nat) : Int) := (Int.ofNat_tdiv u 10).symm
        rw [e1, e2, if_neg (by omega), dgt_str _ hm, wrap_id (by omega) (by omega)]
        exact key _ (by omega) (by omega) (by omega)
      · rw [hu] at e
        subst e
        have e1 : Int.tmod (-(u : Int)) 10 = -((u % 10 : Nat) : Int) := by rw [Int.neg_tmod]; exact congrArg Neg.neg (Int.ofNat_tmod u 10).symm
        have e2 : Int.tdiv (-(u : Int)) 10 = -((u / 10 : Nat) : Int) := by rw [Int.neg_tdiv]; exact congrArg Neg.neg (Int.ofNat_tdiv u 10).symm
        rw [e1, e2, wrap_id (x := -((u / 10 : Nat) : Int)) (by omega) (by omega)]
        by_cases hz : u % 10 = 0
        · rw [if_neg (by omega), show -((u % 10 : Nat) : Int) = ((u % 10 : Nat) : Int) from by omega, dgt_str _ hm]
          exact key _ (by omega) (by omega) (by omega)
        · rw [if_pos (by omega), wrap_id (x := 0 - -((u % 10 : Nat) : Int)) (by omega) (by omega), show (0 - -((u % 10 : Nat) : Int)) = ((u % 10 : Nat) : Int) from by omega, dgt_str _ hm]
          exact key _ (by omega) (by omega) (by omega)
theorem numV (x : Int) (h0 : -9223372036854775808 ≤ x) (h1 : x ≤ 9223372036854775807) (k : Nat) (hk : 30 ≤ k) : spec_l01Num.f k x = some (tB (Lib.itoa x)) := by
  obtain ⟨k, rfl⟩ : ∃ m, k = m + 1 := ⟨k - 1, by omega⟩
  rw [spec_l01Num.f_eq]
  by_cases hx : x = 0
  · subst hx
    rw [if_pos rfl]
    rw [show Lib.itoa 0 = [48] from by unfold Lib.itoa; rw [if_neg (by decide)]; exact Lib.decDigits_one (i := 0) (by decide)]
    rfl
  · rw [if_neg hx, tB_nil, num_loop k _ 20 x.natAbs x [] k rfl (Nat.lt_of_lt_of_le (show x.natAbs < 9223372036854775809 by omega) (by decide)) (by omega) (by simp) h0 h1, if_neg (c := x.natAbs = 0) (by omega), List.append_nil]
    unfold Lib.itoa
    by_cases c : x < 0
    · rw [if_pos c, if_pos (decide_eq_true c)]; rfl
    · rw [if_neg c, if_neg (by simpa using c), List.nil_append, show x.natAbs = x.toNat by omega]
theorem itoaV (x : Int) (h0 : -9223372036854775808 ≤ x) (h1 : x ≤ 9223372036854775807) (k : Nat) (hk : 1 ≤ k) : strconv_Itoa.f k x = some (tB (Lib.itoa x)) := by
  obtain ⟨k, rfl⟩ : ∃ m, k = m + 1 := ⟨k - 1, by omega⟩
  rw [strconv_Itoa.f_eq, if_pos ⟨h0, h1⟩]
  rfl
end Go.Vm.Pu
