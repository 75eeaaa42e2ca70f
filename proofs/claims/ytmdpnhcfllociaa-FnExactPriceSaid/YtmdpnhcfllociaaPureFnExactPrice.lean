/- Price of the program and of the reference answer alike for all arguments. -/
import Derived.Test.YtmdpnhcfllociaaPFnExactPricex1
namespace Go.Proofs.Ytmdpnhcfllociaa.Pure
open Go.RowKit Go.Proofs.Ytmdpnhcfllociaa.PFnExactPrice Go.Proofs.YtmdpnhcfllociaaW.PrintWords Go.Proofs.YtmdpnhcfllociaaW.PrintLast

theorem FnExactPrice : laws_FnExactPrice.Pure := by
  intro a0 a1 h0 h1
  unfold laws_FnExactPrice.f spec_Price.f impl_Price.f spec_l01In.f
  by_cases c1 : 0 ≤ a0
  · by_cases c2 : a0 ≤ 1000000000000
    · by_cases c3 : 0 ≤ a1
      · by_cases c4 : a1 ≤ 10000
        · rw [if_pos c1, if_pos c3, if_neg (by omega : ¬ a0 < 0), if_neg (by omega : ¬ a0 > 1000000000000), if_neg (by omega : ¬ a1 < 0), if_neg (by omega : ¬ a1 > 10000)]
          simp [c2, c4]
        · rw [if_pos c1, if_pos c3, if_neg (by omega : ¬ a0 < 0), if_neg (by omega : ¬ a0 > 1000000000000), if_neg (by omega : ¬ a1 < 0), if_pos (by omega : a1 > 10000)]
          simp [c2, c4]
      · rw [if_pos c1, if_neg c3, if_neg (by omega : ¬ a0 < 0), if_neg (by omega : ¬ a0 > 1000000000000), if_pos (by omega : a1 < 0)]
        simp [c2]
    · rw [if_pos c1, if_neg (by omega : ¬ a0 < 0), if_pos (by omega : a0 > 1000000000000)]
      simp [c2]
  · rw [if_neg c1, if_pos (by omega : a0 < 0)]
    simp

end Go.Proofs.Ytmdpnhcfllociaa.Pure
