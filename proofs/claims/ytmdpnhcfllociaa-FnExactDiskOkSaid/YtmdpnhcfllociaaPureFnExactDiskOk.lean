/- DiskOk of the program and of the reference answer alike for all disks. -/
import Derived.Test.YtmdpnhcfllociaaQFnExactDiskOkx1
import Derived.Test.YtmdpnhcfllociaaLib
namespace Go.Proofs.Ytmdpnhcfllociaa.Pure
open Go.RowKit Go.Proofs.Ytmdpnhcfllociaa.QFnExactDiskOk Go.Proofs.YtmdpnhcfllociaaW.PrintWords Go.Proofs.YtmdpnhcfllociaaW.PrintLast Go.Proofs.Ytmdpnhcfllociaa.Lib

theorem toByteS_f (l : List Int) (hn : l.length ≤ 1048576) (k : Nat) (hk : l.length < k) : laws_toByteS.f k l = some l := by
  unfold laws_toByteS.f
  rw [if_pos (by omega), if_pos (by omega)]
  have := set_loop (fun k s i => laws_toByteS.l0 k l s i) l id 0 (by
    intro k s _
    simp only [laws_toByteS.l0]
    rw [if_neg (by omega)]) (by
    intro k i s h _ hs
    simp only [laws_toByteS.l0]
    rw [if_pos (by omega), if_pos (by omega), if_pos (by omega), rd_at l i h, wrap_next h (by omega)]
    rfl) k (List.replicate ((l.length : Int) : Int).toNat 0) (by omega) (by simp)
  simpa using this
theorem eqByteS_f (l : List Int) (hn : l.length ≤ 1048576) (k : Nat) (hk : l.length < k) : laws_eqByteS.f k l l = some true := by
  unfold laws_eqByteS.f
  rw [if_pos rfl]
  exact count_loop (fun k i => laws_eqByteS.l0 k l l i) l.length 0 true (by
    intro k _
    simp only [laws_eqByteS.l0]
    rw [if_neg (by omega)]) (by
    intro k i h _
    simp only [laws_eqByteS.l0, if_true]
    rw [if_pos (by omega), if_pos (by omega), if_pos (by omega), wrap_next h (by omega)]) k (by omega)
theorem szDisk_f (a b : List Int) (ha : a.length ≤ maxLen) (hb : b.length ≤ maxLen) : laws_szDisk.f a b 1048576 = some (if a.length + b.length ≤ 1048576 then 1048576 - (a.length : Int) - b.length else -1) := by
  unfold maxLen at ha hb
  unfold laws_szDisk.f laws_szByteS.f
  rw [wrap_id (x := 1048576 - (a.length : Int)) (by omega) (by omega)]
  by_cases c : (1048576 : Int) - a.length < 0
  · rw [if_pos c, if_neg (by omega)]
    simp only [bs]
    rw [if_pos (by omega)]
  · rw [if_neg c]
    simp only [bs]
    rw [if_neg c, wrap_id (by omega) (by omega)]
    by_cases c2 : (1048576 : Int) - a.length - b.length < 0
    · rw [if_pos c2, if_neg (by omega)]
      simp only [bs]
      rw [if_pos (by omega)]
    · rw [if_neg c2, if_pos (by omega)]
      simp only [bs]
      rw [if_neg c2]
theorem toDisk_f (a b : List Int) (h : a.length + b.length ≤ 1048576) (k : Nat) (hk : 1048577 < k) : laws_toDisk.f k a b = some (a, b) := by
  unfold laws_toDisk.f
  simp only [toByteS_f a (by omega) k (by omega), toByteS_f b (by omega) k (by omega), bs]
theorem eqDisk_f (a b : List Int) (h : a.length + b.length ≤ 1048576) (k : Nat) (hk : 1048577 < k) : laws_eqDisk.f k a b a b = some true := by
  unfold laws_eqDisk.f
  simp only [eqByteS_f a (by omega) k (by omega), eqByteS_f b (by omega) k (by omega), bs, if_true]
theorem FnExactDiskOk : laws_FnExactDiskOk.Pure := by
  intro a b ⟨⟨ha, _⟩, ⟨hb, _⟩⟩
  refine ⟨1048578, ?_⟩
  unfold laws_FnExactDiskOk.f
  rw [szDisk_f a b ha hb]
  simp only [bs]
  by_cases c : a.length + b.length ≤ 1048576
  · rw [if_pos c, if_neg (by omega)]
    simp only [toDisk_f a b c _ (show 1048577 < 1048578 by omega), eqDisk_f a b c _ (show 1048577 < 1048578 by omega), bs, if_true]
    unfold spec_DiskOk.f impl_DiskOk.f impl_isDisk.f
    rw [wrap_id (by omega) (by omega), wrap_id (by omega) (by omega)]
    by_cases c1 : (a.length : Int) ≤ 60000
    · rw [if_pos c1]
      simp only [bs]
      rw [if_neg]
      simp
      omega
    · rw [if_neg c1]
      simp only [bs]
      rw [if_neg]
      simp
      omega
  · rw [if_neg c, if_pos (by omega)]

end Go.Proofs.Ytmdpnhcfllociaa.Pure
