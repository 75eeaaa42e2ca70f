/- slices.Delete and slices.Insert of structs: walked through the library's own code, and told as functions of lists; the conditions are those of each theorem. -/
import Derived.Test.YtcbeaccdcbhmeaaGreatVmD
import Derived.Test.YtcbeaccdcbhmeaaGreatProg
import Derived.WalkKit
import Derived.Deep.LoopGhost
import Derived.Deep.RegionLaw
import Derived.Lib.Walk
import Derived.Lib.SliceRun
import Derived.Lib.SlicesDelete
import Derived.Sort.WalkB12
import Derived.Lib.JoinLaws
import Derived.Lib.AppendZeros
import Derived.Lib.Overlaps
import Derived.Deep.AppendSrc
import Derived.Laws.Externs
import Derived.Laws.IdiomCopy
namespace Go.Vm.Sl
open Go Go.RowKit Go.Lib Go.Sort Go.Proofs
set_option linter.unusedVariables false
set_option linter.unusedSimpArgs false
variable {P : Program}
/-- 'clear' of a slice whose elements have several cells. -/
theorem run_clear_cells (w : World) (t e ty : TypeId) (z : Value) (zs : List Value) (ht : P.underlying t = some (.slice e)) (hv : ∀ w, (zeroValue e).run P w = .ok z w) (b o n c : Nat) (hn : 0 < n) (hz : (Builtin.zeroCells z.cells n).toList = zs) (h1 : ∀ v ∈ zs, v.oneCell' = true)
    (hc : ∀ j, j < zs.length → (w.cell? ⟨b, o + j, none⟩).isSome = true) (hf : ∀ j, j < zs.length → w.frozen? ⟨b, o + j, none⟩ = false) :
    (Builtin.clear_ #[t] ty #[.slice (some ⟨b, o, none⟩) n c]).run P w = .ok (.tuple #[]) (w.setCells b o zs) := by
  have hst := run_storeCells_cells (P := P) b o zs 0 w (by simpa using hc) (by simpa using hf) h1
  simp only [Nat.add_zero] at hst
  obtain ⟨m, rfl⟩ : ∃ m, n = m + 1 := ⟨n - 1, by omega⟩
  simp [Builtin.clear_, run_underlying ht, hv, hz, hst]
theorem isSome_cells (b : Nat) (vs : List Value) (o : Nat) (w : World) (h : ∀ j, j < vs.length → (w.cell? ⟨b, o + j, none⟩).isSome = true) (k : Nat) (hk : (w.cell? ⟨b, k, none⟩).isSome = true) : ((w.setCells b o vs).cell? ⟨b, k, none⟩).isSome = true := by
  by_cases hin : o ≤ k ∧ k < o + vs.length
  · have := World.cell?_setCells_in b vs o w h (k - o) (by omega)
    rw [show o + (k - o) = k by omega] at this
    rw [this]; rfl
  · rw [World.cell?_setCells_out b vs o w ⟨b, k, none⟩ (fun _ _ => by show k < o ∨ o + vs.length ≤ k; omega)]
    exact hk
theorem zeroCells_one (z : Array Value) (m : Nat) (h : ∀ v ∈ z, v.oneCell' = true) : ∀ v ∈ (Builtin.zeroCells z m).toList, v.oneCell' = true := by
  intro v hv
  unfold Builtin.zeroCells at hv
  simp only [Array.toList_map, List.mem_map, Array.toList_range, List.mem_range] at hv
  obtain ⟨i, hi, rfl⟩ := hv
  have hz : 0 < z.size := by
    rcases Nat.eq_zero_or_pos z.size with h0 | h0
    · rw [h0] at hi; omega
    · exact h0
  have : i % z.size < z.size := Nat.mod_lt _ hz
  rw [getElem!_pos z _ this]
  exact h _ (Array.getElem_mem this)
theorem zeroCells_len (z : Array Value) (m : Nat) : (Builtin.zeroCells z m).toList.length = m * z.size := by
  simp [Builtin.zeroCells]
set_option maxHeartbeats 8000000 in
set_option maxRecDepth 1000000 in
theorem del_walk302 (b off cap i j n : Nat) (cs : List Value) (w : World) (hcl : cs.length = n * 2) (hcs : ∀ k v, cs[k]? = some v → w.cell? ⟨b, off + k, none⟩ = some v) (hfz : ∀ k, k < n * 2 → w.frozen? ⟨b, off + k, none⟩ = false) (h1c : ∀ v ∈ cs, v.oneCell' = true)
    (hnc : n ≤ cap) (hij : i < j) (hj : j ≤ n) :
    Calls Tryz.prog 302 #[.slice (some ⟨b, off, none⟩) n cap, .int .i64 i, .int .i64 j] w fun e w' => e = .returned (.slice (some ⟨b, off, none⟩) (n - (j - i)) cap) ∧
      w' = (w.drew.setCells b (off + i * 2) (cs.drop (j * 2))).setCells b (off + (n - (j - i)) * 2) (Builtin.zeroCells #[.int .i64 0, .int .i64 0] (j - i)).toList := by
  obtain ⟨news, hnews⟩ : ∃ news, news = cs.drop (j * 2) := ⟨_, rfl⟩
  have hlen : news.length = (n - j) * 2 := by rw [hnews, List.length_drop, hcl]; omega
  obtain ⟨A, hA, hsrc⟩ : ∃ A : Addr, (if cap = j then some (⟨b, off, none⟩ : Addr) else some ⟨b, off + j * 2, none⟩) = some A ∧ Hid (∀ t u, news[t]? = some u → w.drew.cell? (A.add t) = some u) := by
    by_cases h : cap = j
    · refine ⟨⟨b, off, none⟩, by simp [h], fun t u hu => ?_⟩
      have h0 : news.length = 0 := by rw [hlen]; omega
      rw [List.length_eq_zero_iff.1 h0] at hu
      simp at hu
    · refine ⟨⟨b, off + j * 2, none⟩, by simp [h], fun t u hu => ?_⟩
      rw [hnews, List.getElem?_drop] at hu
      rw [Addr.add_lit, Nat.add_assoc]
      exact hcs _ u hu
  have hsome : ∀ k, k < n * 2 → (w.drew.cell? ⟨b, off + k, none⟩).isSome = true := fun k hk => by
    have : cs[k]? = some cs[k] := List.getElem?_eq_getElem (by omega)
    show (w.cell? _).isSome = true
    rw [hcs k _ this]; rfl
  have s1 : Hid (news.length = (n - j) * 2) := hlen
  have s2 : Hid (∀ u ∈ news, u.oneCell' = true) := fun u hu => h1c u (List.mem_of_mem_drop (by rw [hnews] at hu; exact hu))
  have s3 : Hid (∀ t, t < news.length → (w.drew.cell? ⟨b, off + i * 2 + t, none⟩).isSome = true ∧ w.drew.frozen? ⟨b, off + i * 2 + t, none⟩ = false) := by
    intro t ht
    rw [hlen] at ht
    rw [Nat.add_assoc]
    exact ⟨hsome _ (by omega), hfz _ (by omega)⟩
  obtain ⟨W1, hW1⟩ : ∃ W1, W1 = w.drew.setCells b (off + i * 2) news := ⟨_, rfl⟩
  have hsome1 : ∀ k, k < n * 2 → (W1.cell? ⟨b, off + k, none⟩).isSome = true := fun k hk => by
    rw [hW1]
    exact isSome_cells b _ _ _ (fun t ht => (s3.out t ht).1) _ (hsome k hk)
  have hfz1 : ∀ k, k < n * 2 → W1.frozen? ⟨b, off + k, none⟩ = false := fun k hk => by
    rw [hW1, World.frozen?_setCells]
    exact hfz k hk
  have hzl := zeroCells_len #[.int .i64 0, .int .i64 0] (j - i)
  have hzs : (#[.int .i64 0, .int .i64 0] : Array Value).size = 2 := rfl
  rw [hzs] at hzl
  have hcl2 : ∀ ty, (Builtin.clear_ #[163] ty #[.slice (some ⟨b, off + (i + (n - j)) * 2, none⟩) (n - (i + (n - j))) (cap - (i + (n - j)))]).run Tryz.prog W1 = .ok (.tuple #[]) (W1.setCells b (off + (i + (n - j)) * 2) (Builtin.zeroCells #[.int .i64 0, .int .i64 0] (j - i)).toList) :=
    fun ty => run_clear_cells W1 163 157 ty (.agg #[.int .i64 0, .int .i64 0]) _ Tryz.underlying163 (fun w => Tryz.zeroValue157 w) b _ (n - (i + (n - j))) (cap - (i + (n - j))) (by omega) (by show (Builtin.zeroCells #[.int .i64 0, .int .i64 0] (n - (i + (n - j)))).toList = _; rw [show n - (i + (n - j)) = j - i by omega])
      (zeroCells_one _ _ (by simp [Value.oneCell'])) (fun t ht => by rw [Nat.add_assoc]; exact hsome1 _ (by rw [hzl] at ht; omega)) (fun t ht => by rw [Nat.add_assoc]; exact hfz1 _ (by rw [hzl] at ht; omega))
  have hW : Hid (W1 = w.drew.setCells b (off + i * 2) news) := hW1
  have hn2 : Hid (news = cs.drop (j * 2)) := hnews
  have hic : i ≤ cap := by omega
  have hjc : j ≤ cap := by omega
  clear hW1 hsome1 hfz1 hsome hcs hfz hnews hlen hzl hzs
  go_enter Tryz.func302, Tryz.ntmps302
  go_wp2_with fail
  go_region_law (refine step_append_room rfl (.tmp 22) (.tmp 25) 163 rfl 157 _ 2 Tryz.underlying163 Tryz.type157 rfl b off i cap (by simp [Act.eval, Act.put]) A (n - j) (cap - j) news (by simp [Act.eval, Act.put]) s1.out hsrc.out s2.out (by omega) s3.out ?_; rw [← hW.out])
  go_wp2
  go_ret
  refine ⟨by rw [show n - (j - i) = i + (n - j) by omega]; rfl, ?_⟩
  rw [show n - (j - i) = i + (n - j) by omega, hW.out, hn2.out]
set_option maxHeartbeats 8000000 in
set_option maxRecDepth 1000000 in
theorem del_walk233 (b off cap i j n : Nat) (cs : List Value) (w : World) (hcl : cs.length = n * 4) (hcs : ∀ k v, cs[k]? = some v → w.cell? ⟨b, off + k, none⟩ = some v) (hfz : ∀ k, k < n * 4 → w.frozen? ⟨b, off + k, none⟩ = false) (h1c : ∀ v ∈ cs, v.oneCell' = true)
    (hnc : n ≤ cap) (hij : i < j) (hj : j ≤ n) :
    Calls Tryz.prog 233 #[.slice (some ⟨b, off, none⟩) n cap, .int .i64 i, .int .i64 j] w fun e w' => e = .returned (.slice (some ⟨b, off, none⟩) (n - (j - i)) cap) ∧
      w' = (w.drew.setCells b (off + i * 4) (cs.drop (j * 4))).setCells b (off + (n - (j - i)) * 4) (Builtin.zeroCells #[.int .i64 0, .int .i64 0, .int .i64 0, .slice none 0 0] (j - i)).toList := by
  obtain ⟨news, hnews⟩ : ∃ news, news = cs.drop (j * 4) := ⟨_, rfl⟩
  have hlen : news.length = (n - j) * 4 := by rw [hnews, List.length_drop, hcl]; omega
  obtain ⟨A, hA, hsrc⟩ : ∃ A : Addr, (if cap = j then some (⟨b, off, none⟩ : Addr) else some ⟨b, off + j * 4, none⟩) = some A ∧ Hid (∀ t u, news[t]? = some u → w.drew.cell? (A.add t) = some u) := by
    by_cases h : cap = j
    · refine ⟨⟨b, off, none⟩, by simp [h], fun t u hu => ?_⟩
      have h0 : news.length = 0 := by rw [hlen]; omega
      rw [List.length_eq_zero_iff.1 h0] at hu
      simp at hu
    · refine ⟨⟨b, off + j * 4, none⟩, by simp [h], fun t u hu => ?_⟩
      rw [hnews, List.getElem?_drop] at hu
      rw [Addr.add_lit, Nat.add_assoc]
      exact hcs _ u hu
  have hsome : ∀ k, k < n * 4 → (w.drew.cell? ⟨b, off + k, none⟩).isSome = true := fun k hk => by
    have : cs[k]? = some cs[k] := List.getElem?_eq_getElem (by omega)
    show (w.cell? _).isSome = true
    rw [hcs k _ this]; rfl
  have s1 : Hid (news.length = (n - j) * 4) := hlen
  have s2 : Hid (∀ u ∈ news, u.oneCell' = true) := fun u hu => h1c u (List.mem_of_mem_drop (by rw [hnews] at hu; exact hu))
  have s3 : Hid (∀ t, t < news.length → (w.drew.cell? ⟨b, off + i * 4 + t, none⟩).isSome = true ∧ w.drew.frozen? ⟨b, off + i * 4 + t, none⟩ = false) := by
    intro t ht
    rw [hlen] at ht
    rw [Nat.add_assoc]
    exact ⟨hsome _ (by omega), hfz _ (by omega)⟩
  obtain ⟨W1, hW1⟩ : ∃ W1, W1 = w.drew.setCells b (off + i * 4) news := ⟨_, rfl⟩
  have hsome1 : ∀ k, k < n * 4 → (W1.cell? ⟨b, off + k, none⟩).isSome = true := fun k hk => by
    rw [hW1]
    exact isSome_cells b _ _ _ (fun t ht => (s3.out t ht).1) _ (hsome k hk)
  have hfz1 : ∀ k, k < n * 4 → W1.frozen? ⟨b, off + k, none⟩ = false := fun k hk => by
    rw [hW1, World.frozen?_setCells]
    exact hfz k hk
  have hzl := zeroCells_len #[.int .i64 0, .int .i64 0, .int .i64 0, .slice none 0 0] (j - i)
  have hzs : (#[.int .i64 0, .int .i64 0, .int .i64 0, .slice none 0 0] : Array Value).size = 4 := rfl
  rw [hzs] at hzl
  have hcl2 : ∀ ty, (Builtin.clear_ #[41] ty #[.slice (some ⟨b, off + (i + (n - j)) * 4, none⟩) (n - (i + (n - j))) (cap - (i + (n - j)))]).run Tryz.prog W1 = .ok (.tuple #[]) (W1.setCells b (off + (i + (n - j)) * 4) (Builtin.zeroCells #[.int .i64 0, .int .i64 0, .int .i64 0, .slice none 0 0] (j - i)).toList) :=
    fun ty => run_clear_cells W1 41 167 ty (.agg #[.int .i64 0, .int .i64 0, .int .i64 0, .slice none 0 0]) _ Tryz.underlying41 (fun w => Tryz.zeroValue167 w) b _ (n - (i + (n - j))) (cap - (i + (n - j))) (by omega) (by show (Builtin.zeroCells #[.int .i64 0, .int .i64 0, .int .i64 0, .slice none 0 0] (n - (i + (n - j)))).toList = _; rw [show n - (i + (n - j)) = j - i by omega])
      (zeroCells_one _ _ (by simp [Value.oneCell'])) (fun t ht => by rw [Nat.add_assoc]; exact hsome1 _ (by rw [hzl] at ht; omega)) (fun t ht => by rw [Nat.add_assoc]; exact hfz1 _ (by rw [hzl] at ht; omega))
  have hW : Hid (W1 = w.drew.setCells b (off + i * 4) news) := hW1
  have hn2 : Hid (news = cs.drop (j * 4)) := hnews
  have hic : i ≤ cap := by omega
  have hjc : j ≤ cap := by omega
  clear hW1 hsome1 hfz1 hsome hcs hfz hnews hlen hzl hzs
  go_enter Tryz.func233, Tryz.ntmps233
  go_wp2_with fail
  go_region_law (refine step_append_room rfl (.tmp 22) (.tmp 25) 41 rfl 167 _ 4 Tryz.underlying41 Tryz.type167 rfl b off i cap (by simp [Act.eval, Act.put]) A (n - j) (cap - j) news (by simp [Act.eval, Act.put]) s1.out hsrc.out s2.out (by omega) s3.out ?_; rw [← hW.out])
  go_wp2
  go_ret
  refine ⟨by rw [show n - (j - i) = i + (n - j) by omega]; rfl, ?_⟩
  rw [show n - (j - i) = i + (n - j) by omega, hW.out, hn2.out]

end Go.Vm.Sl
namespace Go.Vm.Sl
open Go Go.RowKit Go.Lib Go.Sort Go.Proofs
set_option linter.unusedVariables false
set_option linter.unusedSimpArgs false
section
variable {P : Program}
theorem run_copy_cells_n (w : World) (dT sT ty elem : TypeId) (i : TypeInfo) (b o dLen dCap : Nat) (a : Addr) (sLen sCap n : Nat) (cs : List Value)
    (hu : P.underlying dT = some (.slice elem)) (hi : P.info? elem = some i) (hn : n = Nat.min sLen dLen) (hl : cs.length = n * i.size)
    (hsrc : ∀ j v, cs[j]? = some v → w.cell? (a.add j) = some v) (hc : ∀ j, j < cs.length → (w.cell? ⟨b, o + j, none⟩).isSome = true) (hf : ∀ j, j < cs.length → w.frozen? ⟨b, o + j, none⟩ = false) (h1 : ∀ v ∈ cs, v.oneCell' = true) :
    (Builtin.copy_ #[dT, sT] ty #[.slice (some ⟨b, o, none⟩) dLen dCap, .slice (some a) sLen sCap]).run P w = .ok (goInt n) (w.setCells b o cs) := by
  have hf1 := run_firstCells_some (P := P) w i.size n a sLen sCap cs hl hsrc
  have hst := run_storeCells_cells (P := P) b o cs 0 w (by simpa using hc) (by simpa using hf) h1
  simp only [Nat.add_zero] at hst
  simp [Builtin.copy_, run_underlying hu, Builtin.lenOf, sizeOf, typeInfo, hi, ← hn, hf1, hst]
theorem run_append_grow_zeros (w : World) (t tn ty e : TypeId) (i : TypeInfo) (z : Value) (k kn : IntKind) (ht : P.underlying t = some (.slice e)) (htn : P.underlying tn = some (.int kn)) (hi : P.info? e = some i) (hz : i.zero = some z)
    (base : Option Addr) (sLen sCap : Nat) (olds : List Value) (hold : (Builtin.firstCells i.size sLen (.slice base sLen sCap)).run P w.drew = .ok olds.toArray w.drew)
    (n : Nat) (h0 : 0 < n) (hs : 0 < i.size) (hg : sCap < sLen + n) (h63 : ((sLen + n : Nat) : Int) ≤ 9223372036854775807) (h48 : n * i.bytes ≤ 281474976710656) (hfit : Builtin.nextslicecap (sLen + n) sCap * i.bytes ≤ 281474976710656) :
    (Builtin.append_ #[t, tn] ty #[.slice base sLen sCap, .int k n]).run P w =
      .ok (.slice (some ⟨w.heap.size, 0, none⟩) (sLen + n) (grownCap w (sLen + n) sCap e)) (w.drew.alloc (.cells (olds.toArray ++ Builtin.zeroCells z.cells n ++ Builtin.zeroCells z.cells (grownCap w (sLen + n) sCap e - (sLen + n))) e)) := by
  have hn : ¬ (sLen + n ≤ sCap) := by omega
  have hw : IntKind.i64.wrap (n : Int) = n := by rw [IntKind.wrap_i64]; omega
  have h63' : ¬ (9223372036854775807 < ((sLen : Int) + (n : Int))) := by omega
  have h48' : ¬ (281474976710656 < Builtin.nextslicecap (sLen + n) sCap * i.bytes) := by omega
  have h48i : ¬ (281474976710656 < (n : Int) * (i.bytes : Int)) := by
    rw [← Int.natCast_mul]
    omega
  have hneg : ¬ ((n : Int) < 0) := by omega
  have hns : ¬ (n * i.size = 0) := Nat.mul_ne_zero (by omega) (by omega)
  have hn0 : n ≠ 0 := by omega
  simp [Builtin.append_, run_underlying ht, run_underlying htn, sizeOf, typeInfo, zeroValue, hi, hz, asInt, asIntOf, hw, hn, hn0, hneg, hns, h63', h48', h48i, Question.forced, hold, newRow, grownCap]
theorem wp_copy_run (w : World) {o : Oper} {a : Act} {K : Act → World → Prop} {Q : Exit → Act → World → Prop} (d s : Operand) (t t' : TypeId)
    (ho : o.op = .call { callee := .builtin .copy, args := #[d, s], argTypes := #[t, t'] }) (v u : Value) (hd : a.eval d = v) (hs : a.eval s = u) {v' : Value} {w' : World}
    (hr : (Builtin.copy_ #[t, t'] o.type #[v, u]).run P w = .ok v' w') (h : K (a.put o.dst v') w') : o.wp P a w K Q := by
  unfold Oper.wp execOp
  simp only [ho, resolve, invoke, builtin, Sem.run_bind, Sem.run_pure, Result.andThen_ok, List.map_toArray, List.map_cons, List.map_nil, hd, hs, hr]
  exact h
theorem wpList_copy_run (w : World) {ops : Array Oper} {rest : List Oper} {o : Oper} {a : Act} {Q : Exit → Act → World → Prop} (hgd : o.guard = none) (d s : Operand) (t t' : TypeId)
    (ho : o.op = .call { callee := .builtin .copy, args := #[d, s], argTypes := #[t, t'] }) (v u : Value) (hd : a.eval d = v) (hs : a.eval s = u) {v' : Value} {w' : World}
    (hr : (Builtin.copy_ #[t, t'] o.type #[v, u]).run P w = .ok v' w') (h : wpList P ops Q rest (a.put o.dst v') w') : wpList P ops Q (o :: rest) a w :=
  wpList_plain hgd fun _ hK => wp_copy_run w d s t t' ho v u hd hs hr (hK _ _ h)
theorem step_copy_run {ops : Array Oper} {o : Oper} {a : Act} {w : World} {K : Act → World → Prop} {Q : Exit → Act → World → Prop} {E : Prop}
    (hg : o.guard = none) (d x : Operand) (dT sT : TypeId) (hop : o.op = Op.call { callee := Callee.builtin Builtin.copy, args := #[d, x], argTypes := #[dT, sT] })
    (v u : Value) (hd : a.eval d = v) (hx : a.eval x = u) {v' : Value} {w' : World} (hr : (Builtin.copy_ #[dT, sT] o.type #[v, u]).run P w = .ok v' w') (hK : K (a.put o.dst v') w') :
    if Region.wanted o (yielded ops a.tmps) = true then Oper.wp P o a w K Q else E := by
  have hw : Region.wanted o (yielded ops a.tmps) = true := by simp [Region.wanted, hg]
  rw [if_pos hw]
  unfold Oper.wp
  simp [execOp, hop, resolve, invoke, builtin, hd, hx, hr, Result.andThen]
  exact hK
end
set_option maxHeartbeats 8000000 in
set_option maxRecDepth 1000000 in
/-- At the end, where there is room. -/
theorem ins_end_room229 (b off n c vb vo vc : Nat) (vs : List Value) (w : World) (hroom : n + 1 ≤ c) (hvl : vs.length = 4)
    (hsp : ∀ j, j < 4 → (w.cell? ⟨b, off + n * 4 + j, none⟩).isSome = true) (hfz : ∀ j, j < 4 → w.frozen? ⟨b, off + n * 4 + j, none⟩ = false)
    (hvs : ∀ j v, vs[j]? = some v → w.cell? ⟨vb, vo + j, none⟩ = some v) (h1v : ∀ v ∈ vs, v.oneCell' = true) :
    Calls Tryz.prog 229 #[.slice (some ⟨b, off, none⟩) n c, .int .i64 n, .slice (some ⟨vb, vo, none⟩) 1 vc] w fun e w' =>
      e = .returned (.slice (some ⟨b, off, none⟩) (n + 1) c) ∧ w' = w.setCells b (off + n * 4) vs := by
  have hrun : ∀ ty, (Builtin.append_ #[41, 41] ty #[.slice (some ⟨b, off, none⟩) n c, .slice (some ⟨vb, vo, none⟩) 1 vc]).run Tryz.prog w = .ok (.slice (some ⟨b, off, none⟩) (n + 1) c) (w.setCells b (off + n * 4) vs) := fun ty =>
    run_append_room_cells (P := Tryz.prog) w 41 ty 167 Tryz.t167 Tryz.underlying41 Tryz.type167 b off n c ⟨vb, vo, none⟩ 1 vc vs (by rw [hvl]; rfl) (fun j u hj => by rw [Addr.add_lit]; exact hvs j u hj) h1v hroom (fun j hj => hsp j (by omega)) (fun j hj => hfz j (by omega))
  go_enter Tryz.func229, Tryz.ntmps229
  go_wp2_with (at_builtin; refine Lib.wpList_append_run _ rfl _ _ _ _ rfl _ _ rfl rfl _ _ (hrun _) ?_)
  go_ret
  exact ⟨rfl, rfl⟩
set_option maxHeartbeats 8000000 in
set_option maxRecDepth 1000000 in
/-- At the end, where there is none. -/
theorem ins_end_grow229 (base : Option Addr) (n c vb vo vc : Nat) (cs vs : List Value) (w : World) (hnc : n ≤ c) (hroom : c < n + 1) (hbig : (n + 1) * 48 ≤ 140737488355328) (hcl : cs.length = n * 4) (hvl : vs.length = 4) (hnil : base = none → n = 0)
    (hcs : ∀ a, base = some a → ∀ j v, cs[j]? = some v → w.cell? (a.add j) = some v)
    (hvs : ∀ j v, vs[j]? = some v → w.cell? ⟨vb, vo + j, none⟩ = some v) (h1v : ∀ v ∈ vs, v.oneCell' = true) :
    Calls Tryz.prog 229 #[.slice base n c, .int .i64 n, .slice (some ⟨vb, vo, none⟩) 1 vc] w fun e w' =>
      e = .returned (.slice (some ⟨w.heap.size, 0, none⟩) (n + 1) (grownCap w (n + 1) c 167)) ∧
      w' = w.drew.alloc (.cells ((cs ++ vs).toArray ++ Builtin.zeroCells #[.int .i64 0, .int .i64 0, .int .i64 0, .slice none 0 0] (grownCap w (n + 1) c 167 - (n + 1))) 167) := by
  have hsrc : Src Tryz.prog Tryz.t167.size 41 (.slice (some ⟨vb, vo, none⟩) 1 vc) 1 vs w := Src.ofSlice w Tryz.underlying41 ⟨vb, vo, none⟩ 1 vc vs (by rw [hvl]; rfl) (fun j u hj => by rw [Addr.add_lit]; exact hvs j u hj) h1v
  have hold : (Builtin.firstCells Tryz.t167.size n (.slice base n c)).run Tryz.prog w.drew = .ok cs.toArray w.drew := by
    cases base with
    | none =>
      have h0 := hnil rfl
      subst h0
      have hc0 : cs = [] := List.length_eq_zero_iff.1 (by simpa using hcl)
      subst hc0
      exact run_firstCells_none w.drew _ 0 0 c
    | some a => exact run_firstCells_some w.drew _ n a n c cs hcl (fun j v hj => hcs a rfl j v hj)
  have hrun : ∀ ty, (Builtin.append_ #[41, 41] ty #[.slice base n c, .slice (some ⟨vb, vo, none⟩) 1 vc]).run Tryz.prog w = .ok (.slice (some ⟨w.heap.size, 0, none⟩) (n + 1) (grownCap w (n + 1) c 167)) (w.drew.alloc (.cells ((cs ++ vs).toArray ++ Builtin.zeroCells #[.int .i64 0, .int .i64 0, .int .i64 0, .slice none 0 0] (grownCap w (n + 1) c 167 - (n + 1))) 167)) := fun ty =>
    run_append_grow_src w 41 41 ty 167 Tryz.t167 (.agg #[.int .i64 0, .int .i64 0, .int .i64 0, .slice none 0 0]) Tryz.underlying41 Tryz.type167 rfl base n c cs hold _ 1 vs hsrc hroom (by omega) (growslice_fits hroom hbig)
  go_enter Tryz.func229, Tryz.ntmps229
  cases base with
  | none =>
    have h0 := hnil rfl
    subst h0
    go_wp2_with (at_builtin; refine Lib.wpList_append_run _ rfl _ _ _ _ rfl _ _ rfl rfl _ _ (hrun _) ?_)
    go_ret
    exact ⟨rfl, rfl⟩
  | some a =>
    obtain ⟨ab, ao, asp⟩ := a
    go_wp2_with (at_builtin; refine Lib.wpList_append_run _ rfl _ _ _ _ rfl _ _ rfl rfl _ _ (hrun _) ?_)
    all_goals (go_ret; exact ⟨rfl, rfl⟩)
set_option maxHeartbeats 8000000 in
set_option maxRecDepth 1000000 in
/-- Ahead of the end, where there is room. -/
theorem ins_shift229 (b off n c i vb vo vc : Nat) (cs vs : List Value) (w : World) (hi : i < n) (hroom : n + 1 ≤ c) (hn63 : n + 1 ≤ 9223372036854775807) (hvb : vb ≠ b) (hcl : cs.length = n * 4) (hvl : vs.length = 4)
    (hcs : ∀ j v, cs[j]? = some v → w.cell? ⟨b, off + j, none⟩ = some v) (hsp : ∀ j, j < (n + 1) * 4 → (w.cell? ⟨b, off + j, none⟩).isSome = true) (hfz : ∀ j, j < (n + 1) * 4 → w.frozen? ⟨b, off + j, none⟩ = false)
    (hvs : ∀ j v, vs[j]? = some v → w.cell? ⟨vb, vo + j, none⟩ = some v) (h1c : ∀ v ∈ cs, v.oneCell' = true) (h1v : ∀ v ∈ vs, v.oneCell' = true)
    (tA tB : TypeId) (kA kB : Nat) (hsa : w.shape? vb = some (tA, kA)) (hsb : w.shape? b = some (tB, kB)) (hkB : kB ≠ 0) (hfa : w.frozen? ⟨vb, vo, none⟩ = false) (hfe : w.frozen? ⟨vb, kA, none⟩ = false) :
    Calls Tryz.prog 229 #[.slice (some ⟨b, off, none⟩) n c, .int .i64 i, .slice (some ⟨vb, vo, none⟩) 1 vc] w fun e w' =>
      e = .returned (.slice (some ⟨b, off, none⟩) (n + 1) c) ∧ w' = (w.drew.setCells b (off + (i + 1) * 4) (cs.drop (i * 4))).setCells b (off + i * 4) vs := by
  have hz2 : ¬ ((i : Int) = (n : Int)) := by omega
  have hov : ∀ lb cb, (callFunc 298 #[.slice (some ⟨vb, vo, none⟩) 1 vc, .slice (some ⟨b, off + (i + 1) * 4, none⟩) lb cb]).run Tryz.prog w = .ok (.value (.bool false)) w := fun lb cb => by
    rw [run_callFunc_extern Tryz.func298 (by kernel_rfl) (by kernel_rfl) (by kernel_rfl) (e := Extern.SlicesOverlaps.overlaps #[41, 41] #[4]) (by kernel_rfl),
      Lib.run_overlaps_apart w 41 4 167 Tryz.underlying41 4 Tryz.sizeOf167 ⟨vb, vo, none⟩ ⟨b, off + (i + 1) * 4, none⟩ 1 vc lb cb hvb tA tB kA kB hsa hsb hkB hfa hfe]
    rfl
  have hdl : (cs.drop (i * 4)).length = (n - i) * 4 := by rw [List.length_drop, hcl]; omega
  have hw1 : IntKind.i64.wrap ((i : Int) + (1 : Int)) = (i : Int) + (1 : Int) := by rw [IntKind.wrap_i64]; omega
  have hb1 : (0 : Int) ≤ (i : Int) + (1 : Int) := by omega
  have hin : i ≤ n := by omega
  have htn : ((i : Int) + (1 : Int)).toNat = i + 1 := by omega
  have hb2 : ¬ (c = i + 1) := by omega
  have hb3 : (i : Int) ≤ (n : Int) + (1 : Int) := by omega
  have hb4 : ¬ (c = i) := by omega
  have hcp1 : ∀ ty dc sc, (Builtin.copy_ #[41, 41] ty #[.slice (some ⟨b, off + (i + 1) * 4, none⟩) (n - i) dc, .slice (some ⟨b, off + i * 4, none⟩) (n + 1 - i) sc]).run Tryz.prog w.drew = .ok (goInt ((n - i : Nat) : Int)) (w.drew.setCells b (off + (i + 1) * 4) (cs.drop (i * 4))) := fun ty dc sc =>
    run_copy_cells_n w.drew _ _ ty 167 Tryz.t167 b (off + (i + 1) * 4) (n - i) dc ⟨b, off + i * 4, none⟩ (n + 1 - i) sc (n - i) (cs.drop (i * 4)) Tryz.underlying41 Tryz.type167 (by simp only [Nat.min_def]; split <;> omega) (by rw [hdl]; rfl)
      (fun j v hj => by rw [Addr.add_lit, Nat.add_assoc]; exact hcs (i * 4 + j) v (by rwa [List.getElem?_drop] at hj))
      (fun j hj => by rw [Nat.add_assoc]; exact hsp _ (by omega)) (fun j hj => by rw [Nat.add_assoc]; exact hfz _ (by omega)) (fun v hv => h1c v (List.mem_of_mem_drop hv))
  obtain ⟨W1, hW1⟩ : ∃ W1, W1 = w.drew.setCells b (off + (i + 1) * 4) (cs.drop (i * 4)) := ⟨_, rfl⟩
  have hsp1 : ∀ k, k < (n + 1) * 4 → (W1.cell? ⟨b, off + k, none⟩).isSome = true := fun k hk => by
    rw [hW1]
    exact isSome_cells b _ _ _ (fun j hj => by rw [Nat.add_assoc]; exact hsp _ (by omega)) _ (hsp k hk)
  have hcp2 : ∀ (W : World), (∀ x, W.cell? x = W1.cell? x) → (∀ x, W.frozen? x = W1.frozen? x) → ∀ ty dc, (Builtin.copy_ #[41, 41] ty #[.slice (some ⟨b, off + i * 4, none⟩) (n + 1 - i) dc, .slice (some ⟨vb, vo, none⟩) 1 vc]).run Tryz.prog W = .ok (goInt ((1 : Nat) : Int)) (W.setCells b (off + i * 4) vs) := fun W hWc hWf ty dc =>
    run_copy_cells_n W _ _ ty 167 Tryz.t167 b (off + i * 4) (n + 1 - i) dc ⟨vb, vo, none⟩ 1 vc 1 vs Tryz.underlying41 Tryz.type167 (by simp only [Nat.min_def]; split <;> omega) (by rw [hvl]; rfl)
      (fun j v hj => by
        rw [Addr.add_lit, hWc, hW1, World.cell?_setCells_out b _ _ _ _ (fun h _ => absurd h hvb)]
        exact hvs j v hj)
      (fun j hj => by rw [hWc, Nat.add_assoc]; exact hsp1 _ (by omega)) (fun j hj => by rw [hWf, hW1, World.frozen?_setCells, Nat.add_assoc]; exact hfz _ (by omega)) h1v
  rw [← hW1] at hcp1
  have hWh : Hid (W1 = w.drew.setCells b (off + (i + 1) * 4) (cs.drop (i * 4))) := hW1
  clear hW1 hsp1 hsp hfz hcs hdl hcl
  go_enter Tryz.func229, Tryz.ntmps229
  go_wp2_with (simp only [hov])
  go_region_law (refine step_copy_run rfl _ _ 41 41 rfl _ _ (by simp [Act.eval, Act.put]) (by simp [Act.eval, Act.put]) (hcp1 _ _ _) ?_)
  go_wp2_with (at_builtin; refine wpList_copy_run _ rfl _ _ 41 41 rfl _ _ rfl rfl (hcp2 _ (fun _ => rfl) (fun _ => rfl) _ _) ?_)
  go_ret
  first | exact ⟨rfl, rfl⟩ | exact ⟨rfl, by rw [hWh.out]⟩
set_option maxHeartbeats 8000000 in
set_option maxRecDepth 1000000 in
/-- Ahead of the end, where there is none. -/
theorem ins_grow229 (b off n c i vb vo vc : Nat) (cs vs : List Value) (w : World) (hi : i < n) (hnc : n ≤ c) (hroom : c < n + 1) (hbig : (n + 1) * 48 ≤ 140737488355328) (hcl : cs.length = n * 4) (hvl : vs.length = 4)
    (hcs : ∀ j v, cs[j]? = some v → w.cell? ⟨b, off + j, none⟩ = some v)
    (hvs : ∀ j v, vs[j]? = some v → w.cell? ⟨vb, vo + j, none⟩ = some v) (h1c : ∀ v ∈ cs, v.oneCell' = true) (h1v : ∀ v ∈ vs, v.oneCell' = true) :
    Calls Tryz.prog 229 #[.slice (some ⟨b, off, none⟩) n c, .int .i64 i, .slice (some ⟨vb, vo, none⟩) 1 vc] w fun e w' =>
      e = .returned (.slice (some ⟨w.heap.size, 0, none⟩) (n + 1) (grownCap w (n + 1) c 167)) ∧
      w' = (((w.alloc (.cells ((cs.take (i * 4)).toArray ++ Builtin.zeroCells #[.int .i64 0, .int .i64 0, .int .i64 0, .slice none 0 0] (n + 1 - i) ++ Builtin.zeroCells #[.int .i64 0, .int .i64 0, .int .i64 0, .slice none 0 0] (grownCap w (n + 1) c 167 - (n + 1))) 167)).drew.setCells w.heap.size (i * 4) vs).drew).setCells w.heap.size ((i + 1) * 4) (cs.drop (i * 4)) := by
  have hz2 : ¬ ((i : Int) = (n : Int)) := by omega
  have hz3 : (c : Int) < (n : Int) + (1 : Int) := by omega
  have hbw : b < w.heap.size := block_lt_of_cell (hcs 0 _ (List.getElem?_eq_getElem (by omega)))
  have hvw : vb < w.heap.size := block_lt_of_cell (hvs 0 _ (List.getElem?_eq_getElem (by omega)))
  have hkk : (n : Int) + (1 : Int) - (i : Int) = ((n + 1 - i : Nat) : Int) := by omega
  have hik : i + (n + 1 - i) = n + 1 := by omega
  have hold : (Builtin.firstCells Tryz.t167.size i (.slice (some ⟨b, off, none⟩) i c)).run Tryz.prog w.drew = .ok (cs.take (i * 4)).toArray w.drew := by
    exact run_firstCells_some w.drew _ i ⟨b, off, none⟩ i c (cs.take (i * 4)) (by rw [List.length_take, hcl]; show min (i * 4) (n * 4) = i * 4; omega) (fun j v hj => by
      rw [Addr.add_lit]
      rw [List.getElem?_take] at hj
      split at hj
      · exact hcs j v hj
      · cases hj)
  have hrz : ∀ ty, (Builtin.append_ #[41, 3] ty #[.slice (some ⟨b, off, none⟩) i c, .int .i64 ((n : Int) + (1 : Int) - (i : Int))]).run Tryz.prog w =
      .ok (.slice (some ⟨w.heap.size, 0, none⟩) (n + 1) (grownCap w (n + 1) c 167)) (w.drew.alloc (.cells ((cs.take (i * 4)).toArray ++ Builtin.zeroCells #[.int .i64 0, .int .i64 0, .int .i64 0, .slice none 0 0] (n + 1 - i) ++ Builtin.zeroCells #[.int .i64 0, .int .i64 0, .int .i64 0, .slice none 0 0] (grownCap w (n + 1) c 167 - (n + 1))) 167)) := fun ty => by
    have h := run_append_grow_zeros w 41 3 ty 167 Tryz.t167 (.agg #[.int .i64 0, .int .i64 0, .int .i64 0, .slice none 0 0]) .i64 .i64 Tryz.underlying41 Tryz.underlying3 Tryz.type167 rfl (some ⟨b, off, none⟩) i c (cs.take (i * 4)) hold (n + 1 - i) (by omega) (by decide) (by omega) (by omega) (by show (n + 1 - i) * 48 ≤ _; omega) (by rw [hik]; exact growslice_fits hroom hbig)
    rw [hik] at h
    rw [hkk]
    exact h
  obtain ⟨G, hG⟩ : ∃ G, G = grownCap w (n + 1) c 167 := ⟨_, rfl⟩
  obtain ⟨ROW, hROW⟩ : ∃ ROW : Array Value, ROW = (cs.take (i * 4)).toArray ++ Builtin.zeroCells #[.int .i64 0, .int .i64 0, .int .i64 0, .slice none 0 0] (n + 1 - i) ++ Builtin.zeroCells #[.int .i64 0, .int .i64 0, .int .i64 0, .slice none 0 0] (G - (n + 1)) := ⟨_, rfl⟩
  rw [← hG] at hrz ⊢
  rw [← hROW] at hrz ⊢
  have hRl : (n + 1) * 4 ≤ ROW.size := by
    rw [hROW]
    simp [Builtin.zeroCells]
    omega
  obtain ⟨W1, hW1⟩ : ∃ W1, W1 = w.drew.alloc (.cells ROW 167) := ⟨_, rfl⟩
  rw [← hW1] at hrz
  have hN : ∀ j, j < (n + 1) * 4 → (W1.cell? ⟨w.heap.size, j, none⟩).isSome = true := fun j hj => by
    rw [hW1, World.cell?_alloc_at (w := w.drew) ROW _ w.heap.size j rfl, Array.getElem?_eq_getElem (by omega)]; rfl
  have hNf : ∀ j, W1.frozen? ⟨w.heap.size, j, none⟩ = false := fun j => by rw [hW1]; exact World.frozen?_alloc_at (w := w.drew) ROW _ w.heap.size j rfl
  have hOb : ∀ j v, w.cell? ⟨b, j, none⟩ = some v → W1.cell? ⟨b, j, none⟩ = some v := fun j v h => by rw [hW1, World.cell?_alloc_past (w := w.drew) _ b j hbw]; exact h
  have hOv : ∀ j v, w.cell? ⟨vb, j, none⟩ = some v → W1.cell? ⟨vb, j, none⟩ = some v := fun j v h => by rw [hW1, World.cell?_alloc_past (w := w.drew) _ vb j hvw]; exact h
  have hcpA : ∀ (W : World), (∀ x, W.cell? x = W1.cell? x) → (∀ x, W.frozen? x = W1.frozen? x) → ∀ ty dc, (Builtin.copy_ #[41, 41] ty #[.slice (some ⟨w.heap.size, i * 4, none⟩) (n + 1 - i) dc, .slice (some ⟨vb, vo, none⟩) 1 vc]).run Tryz.prog W = .ok (goInt ((1 : Nat) : Int)) (W.setCells w.heap.size (i * 4) vs) := fun W hWc hWf ty dc =>
    run_copy_cells_n W _ _ ty 167 Tryz.t167 w.heap.size (i * 4) (n + 1 - i) dc ⟨vb, vo, none⟩ 1 vc 1 vs Tryz.underlying41 Tryz.type167 (by simp only [Nat.min_def]; split <;> omega) (by rw [hvl]; rfl)
      (fun j v hj => by rw [Addr.add_lit, hWc]; exact hOv _ v (hvs j v hj))
      (fun j hj => by rw [hWc]; exact hN _ (by omega)) (fun j hj => by rw [hWf]; exact hNf _) h1v
  have hGn : n + 1 ≤ G := by rw [hG]; exact grownCap_ge w _ _ _
  have hG63 : G ≤ 9223372036854775807 := by
    have := grownCap_le_maxLen w (n + 1) c 167 (by unfold maxLen; omega)
    rw [← hG] at this
    unfold maxLen at this
    omega
  have hGi : ¬ (G = i) := by omega
  have hGim : ¬ (G = i + 1) := by omega
  have hci : ¬ (c = i) := by omega
  have hbN : b ≠ w.heap.size := by omega
  have hdl : (cs.drop (i * 4)).length = (n - i) * 4 := by rw [List.length_drop, hcl]; omega
  have hcpB : ∀ (W : World), (∀ x, W.cell? x = (W1.setCells w.heap.size (i * 4) vs).cell? x) → (∀ x, W.frozen? x = (W1.setCells w.heap.size (i * 4) vs).frozen? x) → ∀ ty dc sc, (Builtin.copy_ #[41, 41] ty #[.slice (some ⟨w.heap.size, (i + 1) * 4, none⟩) (n - i) dc, .slice (some ⟨b, off + i * 4, none⟩) (n - i) sc]).run Tryz.prog W = .ok (goInt ((n - i : Nat) : Int)) (W.setCells w.heap.size ((i + 1) * 4) (cs.drop (i * 4))) := fun W hWc hWf ty dc sc =>
    run_copy_cells_n W _ _ ty 167 Tryz.t167 w.heap.size ((i + 1) * 4) (n - i) dc ⟨b, off + i * 4, none⟩ (n - i) sc (n - i) (cs.drop (i * 4)) Tryz.underlying41 Tryz.type167 (by simp only [Nat.min_def]; split <;> omega) (by rw [hdl]; rfl)
      (fun j v hj => by
        rw [Addr.add_lit, hWc, World.cell?_setCells_out _ _ _ _ _ (fun h _ => absurd h hbN), Nat.add_assoc]
        exact hOb _ v (hcs (i * 4 + j) v (by rwa [List.getElem?_drop] at hj)))
      (fun j hj => by rw [hWc]; exact isSome_cells _ _ _ _ (fun t ht => hN _ (by omega)) _ (hN _ (by omega)))
      (fun j hj => by rw [hWf, World.frozen?_setCells]; exact hNf _) (fun v hv => h1c v (List.mem_of_mem_drop hv))
  subst hW1
  have hE1 : ∀ x, ((w.alloc (.cells ROW 167)).drew).cell? x = (w.drew.alloc (.cells ROW 167)).cell? x := fun x => rfl
  have hE2 : ∀ x, ((w.alloc (.cells ROW 167)).drew).frozen? x = (w.drew.alloc (.cells ROW 167)).frozen? x := fun x => rfl
  have hF1 : ∀ x, (((w.alloc (.cells ROW 167)).drew.setCells w.heap.size (i * 4) vs).drew).cell? x = ((w.drew.alloc (.cells ROW 167)).setCells w.heap.size (i * 4) vs).cell? x := fun x => rfl
  have hF2 : ∀ x, (((w.alloc (.cells ROW 167)).drew.setCells w.heap.size (i * 4) vs).drew).frozen? x = ((w.drew.alloc (.cells ROW 167)).setCells w.heap.size (i * 4) vs).frozen? x := fun x => rfl
  have hw1 : IntKind.i64.wrap ((i : Int) + (1 : Int)) = (i : Int) + (1 : Int) := by rw [IntKind.wrap_i64]; omega
  have hb1 : (0 : Int) ≤ (i : Int) + (1 : Int) := by omega
  have hin : i ≤ n := by omega
  have htn : ((i : Int) + (1 : Int)).toNat = i + 1 := by omega
  have hb3 : (i : Int) ≤ (n : Int) := by omega
  clear hkk hik hold hROW hG hRl
  go_enter Tryz.func229, Tryz.ntmps229
  go_wp2_with (first
    | (at_builtin; refine Lib.wpList_append_run _ rfl _ _ _ _ rfl _ _ rfl rfl _ _ (hrz _) ?_)
    | (at_builtin; refine wpList_copy_run _ rfl _ _ 41 41 rfl _ _ rfl rfl (hcpA _ hE1 hE2 _ _) ?_)
    | (at_builtin; refine wpList_copy_run _ rfl _ _ 41 41 rfl _ _ rfl rfl (hcpB _ (fun _ => rfl) (fun _ => rfl) _ _ _) ?_))
  go_region_law (refine step_copy_run rfl _ _ 41 41 rfl (.slice (some ⟨w.heap.size, (i + 1) * 4, none⟩) (n - i) (G - (i + 1))) (.slice (some ⟨b, off + i * 4, none⟩) (n - i) (c - i)) (by simp [Act.eval, Act.put]) (by simp [Act.eval, Act.put]) (hcpB _ hF1 hF2 3 (G - (i + 1)) (c - i)) ?_)
  go_wp2
  go_ret
  exact ⟨rfl, rfl⟩

end Go.Vm.Sl
namespace Go.Vm.Sl
open Go Go.RowKit Go.Proofs
set_option linter.unusedVariables false
set_option linter.unusedSimpArgs false
theorem setCells_heap {b : Nat} {e : TypeId} {fr : Nat × Nat} : ∀ (vs : List Value) (off : Nat) (w : World) (c : Array Value), w.heap[b]? = some (.cells c e fr) → off + vs.length ≤ c.size →
    (w.setCells b off vs).heap = w.heap.setIfInBounds b (.cells (spl c off vs) e fr) ∧ Same w (w.setCells b off vs)
  | [], off, w, c, hb, hsz => by
    refine ⟨?_, Same.refl w⟩
    rw [spl_nil]
    apply Array.ext_getElem?
    intro j
    rw [Array.getElem?_setIfInBounds]
    split
    · rename_i h; subst h
      show w.heap[b]? = _
      rw [hb]; simp [heap_lt hb]
    · rfl
  | v :: vs, off, w, c, hb, hsz => by
    simp only [List.length_cons] at hsz
    have hw1 : (w.setCell ⟨b, off, none⟩ v).heap = w.heap.setIfInBounds b (.cells (c.setIfInBounds off v) e fr) := by
      apply Array.ext_getElem?
      intro j
      simp only [World.setCell, Array.getElem?_modify, Array.getElem?_setIfInBounds]
      split
      · rename_i h; subst h
        rw [hb]; simp [heap_lt hb]
      · rfl
    have hb1 : (w.setCell ⟨b, off, none⟩ v).heap[b]? = some (.cells (c.setIfInBounds off v) e fr) := by
      rw [hw1, Array.getElem?_setIfInBounds]; simp [heap_lt hb]
    obtain ⟨h3, h4⟩ := setCells_heap vs (off + 1) (w.setCell ⟨b, off, none⟩ v) _ hb1 (by simp; omega)
    refine ⟨?_, ⟨h4.os, h4.tape, h4.output⟩⟩
    rw [World.setCells, h3, hw1, ← spl_cons c off v vs (by omega)]
    apply Array.ext_getElem?
    intro j
    simp only [Array.getElem?_setIfInBounds, Array.size_setIfInBounds]
    split <;> rfl
/-- One block written anew. -/
theorem setCells_facts {b : Nat} {e : TypeId} {fr : Nat × Nat} {vs : List Value} {off : Nat} {w : World} {c : Array Value} (hb : w.heap[b]? = some (.cells c e fr)) (hsz : off + vs.length ≤ c.size) :
    (w.setCells b off vs).heap[b]? = some (.cells (spl c off vs) e fr) ∧ (w.setCells b off vs).heap.size = w.heap.size ∧ (∀ k, k ≠ b → (w.setCells b off vs).heap[k]? = w.heap[k]?) ∧ Same w (w.setCells b off vs) := by
  obtain ⟨h1, h2⟩ := setCells_heap vs off w c hb hsz
  obtain ⟨h3, h4, h5⟩ := set_heap h1 hb
  exact ⟨h3, h4, h5, h2⟩
theorem same_trans {a b c : World} (h : Same a b) (h' : Same b c) : Same a c := ⟨h'.os.trans h.os, h'.tape.trans h.tape, h'.output.trans h.output⟩
open Classical in
/-- A row of one's own made of elements of another, and of one more at the place p. -/
theorem own_make {w w' : World} {T : Ty} {S S1 S' : Nat → Prop} {f inv σ : Nat → Nat} {p : Nat} {xs ys : List T.D} {b b' off' cap' : Nat} {arr' : Array Value} {e' : TypeId} {fr' : Nat × Nat} {cs : Nat → List Value}
    (hdis : ∀ k, S k → ¬ S1 k)
    (hel : ∀ i x, xs[i]? = some x → OwnD w T (fun k => S k ∧ k ≠ b ∧ f k = i) x (cs i))
    (hst : ∀ k, S k → k ≠ b → ∀ o, w.heap[k]? = some o → w'.heap[k]? = some o ∧ S' k ∧ k ≠ b')
    (hst1 : ∀ k, S1 k → ∀ o, w.heap[k]? = some o → w'.heap[k]? = some o ∧ S' k ∧ k ≠ b')
    (hb' : S' b') (hh : w'.heap[b']? = some (.cells arr' e' fr')) (hfr : FrOk T fr' arr'.size) (hsz : off' + cap' * T.sz ≤ arr'.size) (hle : ys.length ≤ cap')
    (hy : ∀ k y, ys[k]? = some y → (xs[σ k]? = some y ∧ inv (σ k) = k ∧ sl arr' (off' + k * T.sz) T.sz = cs (σ k)) ∨ (k = p ∧ OwnD w T S1 y (sl arr' (off' + k * T.sz) T.sz))) :
    OwnD w' (.row T) S' ys [.slice (some ⟨b', off', none⟩) ys.length cap'] := by
  refine ⟨_, fun k => if S1 k then p else inv (f k), rfl, _, cap', rfl, hle, fun _ => ⟨b', off', arr', e', fr', rfl, hb', hh, hfr, hsz, fun k y hk => ?_⟩⟩
  rcases hy k y hk with ⟨h1, h2, h3⟩ | ⟨rfl, h⟩
  · rw [h3]
    refine (hel _ _ h1).mono fun m hm o ho => ?_
    obtain ⟨g1, g2, g3⟩ := hst m hm.1 hm.2.1 o ho
    refine ⟨g1, g2, g3, ?_⟩
    show (if S1 m then p else inv (f m)) = k
    rw [if_neg (hdis m hm.1), hm.2.2, h2]
  · refine h.mono fun m hm o ho => ?_
    obtain ⟨g1, g2, g3⟩ := hst1 m hm o ho
    refine ⟨g1, g2, g3, ?_⟩
    show (if S1 m then k else inv (f m)) = k
    rw [if_pos hm]
theorem row_ones {w : World} {S : Nat → Nat → Prop} {T : Ty} {xs : List T.D} {off : Nat} {arr : Array Value}
    (hel : ∀ i x, xs[i]? = some x → OwnD w T (S i) x (sl arr (off + i * T.sz) T.sz)) : ∀ v ∈ sl arr off (xs.length * T.sz), v.oneCell' = true := by
  intro v hv
  obtain ⟨k, hk⟩ := List.getElem?_of_mem hv
  have hz := Ty.sz_pos T
  have hkl : k < xs.length * T.sz := by
    by_cases h : k < xs.length * T.sz
    · exact h
    · rw [List.getElem?_eq_none_iff.2 (by simp only [sl, List.length_take]; omega)] at hk
      cases hk
  have hi : k / T.sz < xs.length := (Nat.div_lt_iff_lt_mul hz).2 hkl
  have hm : k % T.sz < T.sz := Nat.mod_lt _ hz
  rw [sl_get hkl] at hk
  have h1 := (hel (k / T.sz) _ (List.getElem?_eq_getElem hi)).rep.one
  refine h1 v (List.mem_of_getElem? (i := k % T.sz) ?_)
  rw [sl_get hm, Nat.add_assoc, Nat.mul_comm (k / T.sz), Nat.div_add_mod]
  exact hk
theorem not_frozen {w : World} {b off cap z k : Nat} {arr : Array Value} {e : TypeId} {fr : Nat × Nat} (hb : w.heap[b]? = some (.cells arr e fr)) (hfr : fr.2 ≤ fr.1 ∨ arr.size ≤ fr.1) (hk : off + k < arr.size ∨ fr.2 ≤ fr.1) : w.frozen? ⟨b, off + k, none⟩ = false := by
  simp only [World.frozen?, hb]
  simp only [Bool.and_eq_false_iff, decide_eq_false_iff_not]
  omega
theorem sl_ext {arr arr' : Array Value} {off off' n : Nat} (h : ∀ m, m < n → arr'[off' + m]? = arr[off + m]?) : sl arr' off' n = sl arr off n := by
  apply List.ext_getElem?
  intro m
  by_cases hm : m < n
  · rw [sl_get hm, sl_get hm, h m hm]
  · rw [List.getElem?_eq_none_iff.2 (by simp only [sl, List.length_take]; omega), List.getElem?_eq_none_iff.2 (by simp only [sl, List.length_take]; omega)]
section
variable {X : Cx} {C : Cc} {S : Sig} {G : List Nat} {k : Nat} {T : Ty} {w' : World} {v' : Value} {ds : List DV} {args : Array Value}
theorem entry_fr (hX : EntryOk X C S ds args) : Fr X C where
  os := by rw [hX.w0]
  tape := by rw [hX.w0]
  output := by rw [hX.w0]
  size := by rw [hX.w0]; exact Nat.le_refl _
  block := fun b _ _ => by rw [hX.w0]
  own := fun b id h => ⟨hX.own b id h, .inr (by rw [hX.o0, h]; simp)⟩
theorem exit_row {ys : List T.D} (hX : EntryOk X C S ds args) (hres : S.res = .own k) (hout : S.hout = [(k, .row T none)]) (hin : memH S.hin k = false)
    (hs : Same C.w w') (hsz : C.w.heap.size ≤ w'.heap.size) (hw : ∀ b, b < C.w.heap.size → (∀ j, C.o b = some j → j ≠ k ∧ j ∉ G) → w'.heap[b]? = C.w.heap[b]?)
    (h1 : v'.oneCell' = true) (hv : ∃ A cap, v' = .slice A ys.length cap) (hown : OwnD w' (.row T) (ownS (C.give G k w' v').o k) ys [v']) : ExitOk X (C.give G k w' v') S [.row T ys] v' := by
  have hmu : (C.give G k w' v').μ k = v' := by simp [Cc.give]
  have hg : hget ([(k, Blk.row 0 T ys none)] : Hp) k = .row 0 T ys none := by simp [hget, get?_cons]
  have hd : ∀ i, i ≠ k → hget ([(k, Blk.row 0 T ys none)] : Hp) i = .dead := fun i hi => by
    simp only [hget]
    rw [get?_cons, if_neg (Ne.symm hi)]
    rfl
  refine ⟨⟨.own k, [.row T ys], [(k, .row 0 T ys none)], by rw [hres]; simp only [Sk.inst, id0], ?_, ?_, ?_, ?_⟩, give_fr (entry_fr hX) hs hsz hw⟩
  · rw [hout]
    simp only [hinst, BSk.inst, rowCast_self, id0, ver0]
  · simp only [RepA]
    refine ⟨?_, h1, fun _ _ _ _ _ => hmu.symm⟩
    rw [hout]; exact Nat.lt_of_lt_of_le (Nat.lt_succ_self _) (Nat.le_max_left _ _)
  · intro i
    by_cases hi : i = k
    · subst hi
      rw [hg]
      refine ⟨?_, fun _ => ?_, ?_, fun l hl => by simp [innerL] at hl⟩
      · rw [hout]; exact Nat.lt_of_lt_of_le (Nat.lt_succ_self _) (Nat.le_max_left _ _)
      · rw [hmu]; exact hown
      · rw [hmu]; exact hv
    · rw [hd i hi]; trivial
  · intro i hi hne
    by_cases h : i = k
    · subst h; rw [hin] at hi; cases hi
    · exact absurd (hd i h) hne
end
def delSig302 : Sig := ⟨[.own 0, .int .i64, .int .i64], [(0, .row (.pair (.int .i64) (.int .i64)) none)], .own 1, [(1, .row (.pair (.int .i64) (.int .i64)) none)], .nil⟩
theorem del_prim302 {X : Cx} {C : Cc} {args : Array Value} {i j : Int} {xs : List (Ty.D (.pair (.int .i64) (.int .i64)))} (hX : EntryOk X C delSig302 [.int i, .int j, .row (.pair (.int .i64) (.int .i64)) xs] args) (h0 : 0 ≤ i) (hij : i < j) (hj : j ≤ (xs.length : Int)) :
    Calls Tryz.prog 302 args C.w fun e w' => ∃ v C', e = .returned v ∧ C'.w = w' ∧ ExitOk X C' delSig302 [.row (.pair (.int .i64) (.int .i64)) (xs.take i.toNat ++ xs.drop j.toNat)] v := by
  obtain ⟨i, rfl⟩ : ∃ i' : Nat, i = (i' : Int) := ⟨i.toNat, by omega⟩
  obtain ⟨j, rfl⟩ : ∃ j' : Nat, j = (j' : Int) := ⟨j.toNat, by omega⟩
  obtain ⟨vs, h', r, g1, g2, g3, g4⟩ := hX.args
  have e1 : Sk.instL [] id0 ver0 delSig302.params [.int (i : Int), .int (j : Int), .row (.pair (.int .i64) (.int .i64)) xs] = ([.own 0, .int .i64 i, .int .i64 j], [.row (.pair (.int .i64) (.int .i64)) xs]) := rfl
  rw [e1] at g1
  cases g1
  have e2 : hinst [] id0 ver0 delSig302.hin [.row (.pair (.int .i64) (.int .i64)) xs] = ([(0, .row 0 (.pair (.int .i64) (.int .i64)) xs none)], []) := by
    simp only [delSig302, hinst, BSk.inst, rowCast_self, id0, ver0]
  rw [e2] at g2
  cases g2
  simp only [RepL, RepA] at g3
  obtain ⟨v0, _, ha, ⟨_, _, h0v⟩, v1, _, rfl, rfl, v2, _, rfl, rfl, rfl⟩ := g3
  have hk : blkOk X C [(0, .row 0 (.pair (.int .i64) (.int .i64)) xs none)] (nextOf delSig302.hin) 0 (.row 0 (.pair (.int .i64) (.int .i64)) xs none) := g4 0
  have hmu0 : v0 = C.μ 0 := h0v 0 _ xs none rfl
  have hown : OwnD C.w (.row (.pair (.int .i64) (.int .i64))) (ownS C.o 0) xs [C.μ 0] := hk.2.1 rfl
  rw [← hmu0] at hown
  obtain ⟨v, f, hv, A, cap, hvA, hle, hr⟩ := hown
  subst hvA
  obtain rfl : v0 = .slice A xs.length cap := by simpa using hv
  obtain ⟨b, off, arr, e, fr, rfl, hS, hb, hfr, hsz, hel⟩ := hr (by omega)
  obtain rfl : args = #[.slice (some ⟨b, off, none⟩) xs.length cap, .int .i64 i, .int .i64 j] := by
    cases args; simp_all
  simp only [Int.toNat_natCast]
  have hij' : i < j := by omega
  have hj' : j ≤ xs.length := by omega
  change off + cap * 2 ≤ arr.size at hsz
  have hcl : (sl arr off (xs.length * 2)).length = xs.length * 2 := sl_length (by omega)
  have hones := row_ones (T := (.pair (.int .i64) (.int .i64))) (off := off) (arr := arr) hel
  refine (del_walk302 b off cap i j xs.length (sl arr off (xs.length * 2)) C.w hcl (fun k v hk => ?_) (fun k hk => not_frozen (cap := 0) (z := 0) hb hfr.weak (.inl (by omega))) hones hle hij' hj').mono ?_
  · rw [cell_blk hb]
    have hkl : k < xs.length * 2 := by
      have := (List.getElem?_eq_some_iff.1 hk).1
      omega
    rw [sl_get hkl] at hk
    exact hk
  rintro e1 w' ⟨rfl, rfl⟩
  have hnl : ((sl arr off (xs.length * 2)).drop (j * 2)).length = (xs.length - j) * 2 := by rw [List.length_drop, hcl]; omega
  have hzl : (Builtin.zeroCells #[.int .i64 0, .int .i64 0] (j - i)).toList.length = (j - i) * 2 := by rw [zeroCells_len]; rfl
  have hd : C.w.drew.heap[b]? = some (.cells arr e fr) := hb
  have hs1 : off + i * 2 + ((sl arr off (xs.length * 2)).drop (j * 2)).length ≤ arr.size := by rw [hnl]; omega
  obtain ⟨a1, a2, a3, a4⟩ := setCells_facts hd hs1
  have hs2 : off + (xs.length - (j - i)) * 2 + (Builtin.zeroCells #[.int .i64 0, .int .i64 0] (j - i)).toList.length ≤ (spl arr (off + i * 2) ((sl arr off (xs.length * 2)).drop (j * 2))).size := by rw [spl_size hs1, hzl]; omega
  obtain ⟨b1, b2, b3, b4⟩ := setCells_facts a1 hs2
  generalize (C.w.drew.setCells b (off + i * 2) ((sl arr off (xs.length * 2)).drop (j * 2))).setCells b (off + (xs.length - (j - i)) * 2) (Builtin.zeroCells #[.int .i64 0, .int .i64 0] (j - i)).toList = W2 at b1 b2 b3 b4 ⊢
  have hyl : (xs.take i ++ xs.drop j).length = xs.length - (j - i) := by simp; omega
  rw [← hyl]
  refine ⟨_, C.give [0] 1 W2 _, rfl, rfl, exit_row hX rfl rfl rfl (same_trans (same_trans (b := C.w.drew) ⟨rfl, rfl, rfl⟩ a4) b4) (by rw [b2, a2]; exact Nat.le_refl _) ?_ rfl ⟨_, _, rfl⟩ ?_⟩
  · intro k hk hn
    have hne : k ≠ b := by
      rintro rfl
      exact (hn 0 hS).2 (by simp)
    rw [b3 k hne, a3 k hne]
    rfl
  · refine own_make (f := f) (p := 0) (S1 := fun _ => False) (inv := fun m => if m < i then m else m - (j - i)) (σ := fun k => if k < i then k else k + (j - i)) (fun _ _ h => h) hel ?_ (fun _ h => h.elim) (give_own (entry_fr hX) hS (by simp)) b1 ?_ ?_ (by rw [hyl]; omega) ?_
    · intro k hk hne o ho
      exact ⟨by rw [b3 k hne, a3 k hne]; exact ho, give_own (entry_fr hX) hk (by simp), hne⟩
    · rw [spl_size hs2, spl_size hs1]; exact hfr
    · rw [spl_size hs2, spl_size hs1]; exact hsz
    · intro k y hy
      have hkl : k < xs.length - (j - i) := by
        have := (List.getElem?_eq_some_iff.1 hy).1
        omega
      left
      by_cases c : k < i
      · simp only [if_pos c]
        refine ⟨?_, trivial, sl_ext fun m hm => ?_⟩
        · rw [List.getElem?_append_left (by simp; omega), List.getElem?_take, if_pos c] at hy
          exact hy
        · change m < 2 at hm
          change _ = arr[off + k * 2 + m]?
          change (spl _ _ _)[off + k * 2 + m]? = _
          rw [spl_get hs2, if_neg (by omega), spl_get hs1, if_neg (by omega)]
      · simp only [if_neg c]
        refine ⟨?_, by rw [if_neg (by omega)]; omega, sl_ext fun m hm => ?_⟩
        · rw [List.getElem?_append_right (by simp; omega), List.getElem?_drop] at hy
          rw [← hy]
          congr 1
          simp only [List.length_take]
          omega
        · change m < 2 at hm
          change _ = arr[off + (k + (j - i)) * 2 + m]?
          change (spl _ _ _)[off + k * 2 + m]? = _
          rw [spl_get hs2, if_neg (by omega), spl_get hs1, if_pos (by omega), List.getElem?_drop, sl_get (by omega)]
          congr 1
          omega
def delSig233 : Sig := ⟨[.own 0, .int .i64, .int .i64], [(0, .row (.pair (.int .i64) (.pair (.int .i64) (.pair (.int .i64) (.row (.pair (.int .i64) (.int .i64)))))) none)], .own 1, [(1, .row (.pair (.int .i64) (.pair (.int .i64) (.pair (.int .i64) (.row (.pair (.int .i64) (.int .i64)))))) none)], .nil⟩
theorem del_prim233 {X : Cx} {C : Cc} {args : Array Value} {i j : Int} {xs : List (Ty.D (.pair (.int .i64) (.pair (.int .i64) (.pair (.int .i64) (.row (.pair (.int .i64) (.int .i64)))))))} (hX : EntryOk X C delSig233 [.int i, .int j, .row (.pair (.int .i64) (.pair (.int .i64) (.pair (.int .i64) (.row (.pair (.int .i64) (.int .i64)))))) xs] args) (h0 : 0 ≤ i) (hij : i < j) (hj : j ≤ (xs.length : Int)) :
    Calls Tryz.prog 233 args C.w fun e w' => ∃ v C', e = .returned v ∧ C'.w = w' ∧ ExitOk X C' delSig233 [.row (.pair (.int .i64) (.pair (.int .i64) (.pair (.int .i64) (.row (.pair (.int .i64) (.int .i64)))))) (xs.take i.toNat ++ xs.drop j.toNat)] v := by
  obtain ⟨i, rfl⟩ : ∃ i' : Nat, i = (i' : Int) := ⟨i.toNat, by omega⟩
  obtain ⟨j, rfl⟩ : ∃ j' : Nat, j = (j' : Int) := ⟨j.toNat, by omega⟩
  obtain ⟨vs, h', r, g1, g2, g3, g4⟩ := hX.args
  have e1 : Sk.instL [] id0 ver0 delSig233.params [.int (i : Int), .int (j : Int), .row (.pair (.int .i64) (.pair (.int .i64) (.pair (.int .i64) (.row (.pair (.int .i64) (.int .i64)))))) xs] = ([.own 0, .int .i64 i, .int .i64 j], [.row (.pair (.int .i64) (.pair (.int .i64) (.pair (.int .i64) (.row (.pair (.int .i64) (.int .i64)))))) xs]) := rfl
  rw [e1] at g1
  cases g1
  have e2 : hinst [] id0 ver0 delSig233.hin [.row (.pair (.int .i64) (.pair (.int .i64) (.pair (.int .i64) (.row (.pair (.int .i64) (.int .i64)))))) xs] = ([(0, .row 0 (.pair (.int .i64) (.pair (.int .i64) (.pair (.int .i64) (.row (.pair (.int .i64) (.int .i64)))))) xs none)], []) := by
    simp only [delSig233, hinst, BSk.inst, rowCast_self, id0, ver0]
  rw [e2] at g2
  cases g2
  simp only [RepL, RepA] at g3
  obtain ⟨v0, _, ha, ⟨_, _, h0v⟩, v1, _, rfl, rfl, v2, _, rfl, rfl, rfl⟩ := g3
  have hk : blkOk X C [(0, .row 0 (.pair (.int .i64) (.pair (.int .i64) (.pair (.int .i64) (.row (.pair (.int .i64) (.int .i64)))))) xs none)] (nextOf delSig233.hin) 0 (.row 0 (.pair (.int .i64) (.pair (.int .i64) (.pair (.int .i64) (.row (.pair (.int .i64) (.int .i64)))))) xs none) := g4 0
  have hmu0 : v0 = C.μ 0 := h0v 0 _ xs none rfl
  have hown : OwnD C.w (.row (.pair (.int .i64) (.pair (.int .i64) (.pair (.int .i64) (.row (.pair (.int .i64) (.int .i64))))))) (ownS C.o 0) xs [C.μ 0] := hk.2.1 rfl
  rw [← hmu0] at hown
  obtain ⟨v, f, hv, A, cap, hvA, hle, hr⟩ := hown
  subst hvA
  obtain rfl : v0 = .slice A xs.length cap := by simpa using hv
  obtain ⟨b, off, arr, e, fr, rfl, hS, hb, hfr, hsz, hel⟩ := hr (by omega)
  obtain rfl : args = #[.slice (some ⟨b, off, none⟩) xs.length cap, .int .i64 i, .int .i64 j] := by
    cases args; simp_all
  simp only [Int.toNat_natCast]
  have hij' : i < j := by omega
  have hj' : j ≤ xs.length := by omega
  change off + cap * 4 ≤ arr.size at hsz
  have hcl : (sl arr off (xs.length * 4)).length = xs.length * 4 := sl_length (by omega)
  have hones := row_ones (T := (.pair (.int .i64) (.pair (.int .i64) (.pair (.int .i64) (.row (.pair (.int .i64) (.int .i64))))))) (off := off) (arr := arr) hel
  refine (del_walk233 b off cap i j xs.length (sl arr off (xs.length * 4)) C.w hcl (fun k v hk => ?_) (fun k hk => not_frozen (cap := 0) (z := 0) hb hfr.weak (.inl (by omega))) hones hle hij' hj').mono ?_
  · rw [cell_blk hb]
    have hkl : k < xs.length * 4 := by
      have := (List.getElem?_eq_some_iff.1 hk).1
      omega
    rw [sl_get hkl] at hk
    exact hk
  rintro e1 w' ⟨rfl, rfl⟩
  have hnl : ((sl arr off (xs.length * 4)).drop (j * 4)).length = (xs.length - j) * 4 := by rw [List.length_drop, hcl]; omega
  have hzl : (Builtin.zeroCells #[.int .i64 0, .int .i64 0, .int .i64 0, .slice none 0 0] (j - i)).toList.length = (j - i) * 4 := by rw [zeroCells_len]; rfl
  have hd : C.w.drew.heap[b]? = some (.cells arr e fr) := hb
  have hs1 : off + i * 4 + ((sl arr off (xs.length * 4)).drop (j * 4)).length ≤ arr.size := by rw [hnl]; omega
  obtain ⟨a1, a2, a3, a4⟩ := setCells_facts hd hs1
  have hs2 : off + (xs.length - (j - i)) * 4 + (Builtin.zeroCells #[.int .i64 0, .int .i64 0, .int .i64 0, .slice none 0 0] (j - i)).toList.length ≤ (spl arr (off + i * 4) ((sl arr off (xs.length * 4)).drop (j * 4))).size := by rw [spl_size hs1, hzl]; omega
  obtain ⟨b1, b2, b3, b4⟩ := setCells_facts a1 hs2
  generalize (C.w.drew.setCells b (off + i * 4) ((sl arr off (xs.length * 4)).drop (j * 4))).setCells b (off + (xs.length - (j - i)) * 4) (Builtin.zeroCells #[.int .i64 0, .int .i64 0, .int .i64 0, .slice none 0 0] (j - i)).toList = W2 at b1 b2 b3 b4 ⊢
  have hyl : (xs.take i ++ xs.drop j).length = xs.length - (j - i) := by simp; omega
  rw [← hyl]
  refine ⟨_, C.give [0] 1 W2 _, rfl, rfl, exit_row hX rfl rfl rfl (same_trans (same_trans (b := C.w.drew) ⟨rfl, rfl, rfl⟩ a4) b4) (by rw [b2, a2]; exact Nat.le_refl _) ?_ rfl ⟨_, _, rfl⟩ ?_⟩
  · intro k hk hn
    have hne : k ≠ b := by
      rintro rfl
      exact (hn 0 hS).2 (by simp)
    rw [b3 k hne, a3 k hne]
    rfl
  · refine own_make (f := f) (p := 0) (S1 := fun _ => False) (inv := fun m => if m < i then m else m - (j - i)) (σ := fun k => if k < i then k else k + (j - i)) (fun _ _ h => h) hel ?_ (fun _ h => h.elim) (give_own (entry_fr hX) hS (by simp)) b1 ?_ ?_ (by rw [hyl]; omega) ?_
    · intro k hk hne o ho
      exact ⟨by rw [b3 k hne, a3 k hne]; exact ho, give_own (entry_fr hX) hk (by simp), hne⟩
    · rw [spl_size hs2, spl_size hs1]; exact hfr
    · rw [spl_size hs2, spl_size hs1]; exact hsz
    · intro k y hy
      have hkl : k < xs.length - (j - i) := by
        have := (List.getElem?_eq_some_iff.1 hy).1
        omega
      left
      by_cases c : k < i
      · simp only [if_pos c]
        refine ⟨?_, trivial, sl_ext fun m hm => ?_⟩
        · rw [List.getElem?_append_left (by simp; omega), List.getElem?_take, if_pos c] at hy
          exact hy
        · change m < 4 at hm
          change _ = arr[off + k * 4 + m]?
          change (spl _ _ _)[off + k * 4 + m]? = _
          rw [spl_get hs2, if_neg (by omega), spl_get hs1, if_neg (by omega)]
      · simp only [if_neg c]
        refine ⟨?_, by rw [if_neg (by omega)]; omega, sl_ext fun m hm => ?_⟩
        · rw [List.getElem?_append_right (by simp; omega), List.getElem?_drop] at hy
          rw [← hy]
          congr 1
          simp only [List.length_take]
          omega
        · change m < 4 at hm
          change _ = arr[off + (k + (j - i)) * 4 + m]?
          change (spl _ _ _)[off + k * 4 + m]? = _
          rw [spl_get hs2, if_neg (by omega), spl_get hs1, if_pos (by omega), List.getElem?_drop, sl_get (by omega)]
          congr 1
          omega
def insSig229 : Sig := ⟨[.own 0, .int .i64, .own 1], [(0, .row (.pair (.int .i64) (.pair (.int .i64) (.pair (.int .i64) (.row (.pair (.int .i64) (.int .i64)))))) none), (1, .row (.pair (.int .i64) (.pair (.int .i64) (.pair (.int .i64) (.row (.pair (.int .i64) (.int .i64)))))) none)], .own 2, [(2, .row (.pair (.int .i64) (.pair (.int .i64) (.pair (.int .i64) (.row (.pair (.int .i64) (.int .i64)))))) none)], .nil⟩
set_option maxHeartbeats 1000000 in
theorem ins_prim229 {X : Cx} {C : Cc} {args : Array Value} {i : Int} {ye : Ty.D (.pair (.int .i64) (.pair (.int .i64) (.pair (.int .i64) (.row (.pair (.int .i64) (.int .i64))))))} {xs : List (Ty.D (.pair (.int .i64) (.pair (.int .i64) (.pair (.int .i64) (.row (.pair (.int .i64) (.int .i64)))))))} (hX : EntryOk X C insSig229 [.int i, .row (.pair (.int .i64) (.pair (.int .i64) (.pair (.int .i64) (.row (.pair (.int .i64) (.int .i64)))))) xs, .row (.pair (.int .i64) (.pair (.int .i64) (.pair (.int .i64) (.row (.pair (.int .i64) (.int .i64)))))) [ye]] args) (h0 : 0 ≤ i) (hi : i ≤ (xs.length : Int)) (hbig : xs.length < 1000000000000) :
    Calls Tryz.prog 229 args C.w fun e w' => ∃ v C', e = .returned v ∧ C'.w = w' ∧ ExitOk X C' insSig229 [.row (.pair (.int .i64) (.pair (.int .i64) (.pair (.int .i64) (.row (.pair (.int .i64) (.int .i64)))))) (xs.take i.toNat ++ ye :: xs.drop i.toNat)] v := by
  obtain ⟨i, rfl⟩ : ∃ i' : Nat, i = (i' : Int) := ⟨i.toNat, by omega⟩
  obtain ⟨vs, h', r, g1, g2, g3, g4⟩ := hX.args
  have e1 : Sk.instL [] id0 ver0 insSig229.params [.int (i : Int), .row (.pair (.int .i64) (.pair (.int .i64) (.pair (.int .i64) (.row (.pair (.int .i64) (.int .i64)))))) xs, .row (.pair (.int .i64) (.pair (.int .i64) (.pair (.int .i64) (.row (.pair (.int .i64) (.int .i64)))))) [ye]] = ([.own 0, .int .i64 i, .own 1], [.row (.pair (.int .i64) (.pair (.int .i64) (.pair (.int .i64) (.row (.pair (.int .i64) (.int .i64)))))) xs, .row (.pair (.int .i64) (.pair (.int .i64) (.pair (.int .i64) (.row (.pair (.int .i64) (.int .i64)))))) [ye]]) := rfl
  rw [e1] at g1
  cases g1
  have e2 : hinst [] id0 ver0 insSig229.hin [.row (.pair (.int .i64) (.pair (.int .i64) (.pair (.int .i64) (.row (.pair (.int .i64) (.int .i64)))))) xs, .row (.pair (.int .i64) (.pair (.int .i64) (.pair (.int .i64) (.row (.pair (.int .i64) (.int .i64)))))) [ye]] = ([(0, .row 0 (.pair (.int .i64) (.pair (.int .i64) (.pair (.int .i64) (.row (.pair (.int .i64) (.int .i64)))))) xs none), (1, .row 0 (.pair (.int .i64) (.pair (.int .i64) (.pair (.int .i64) (.row (.pair (.int .i64) (.int .i64)))))) [ye] none)], []) := by
    simp only [insSig229, hinst, BSk.inst, rowCast_self, id0, ver0]
  rw [e2] at g2
  cases g2
  simp only [RepL, RepA] at g3
  obtain ⟨v0, _, ha, ⟨_, _, h0v⟩, v1, _, rfl, rfl, v2, _, rfl, ⟨_, _, h2v⟩, rfl⟩ := g3
  have hk : blkOk X C [(0, .row 0 (.pair (.int .i64) (.pair (.int .i64) (.pair (.int .i64) (.row (.pair (.int .i64) (.int .i64)))))) xs none), (1, .row 0 (.pair (.int .i64) (.pair (.int .i64) (.pair (.int .i64) (.row (.pair (.int .i64) (.int .i64)))))) [ye] none)] (nextOf insSig229.hin) 0 (.row 0 (.pair (.int .i64) (.pair (.int .i64) (.pair (.int .i64) (.row (.pair (.int .i64) (.int .i64)))))) xs none) := g4 0
  have hk1 : blkOk X C [(0, .row 0 (.pair (.int .i64) (.pair (.int .i64) (.pair (.int .i64) (.row (.pair (.int .i64) (.int .i64)))))) xs none), (1, .row 0 (.pair (.int .i64) (.pair (.int .i64) (.pair (.int .i64) (.row (.pair (.int .i64) (.int .i64)))))) [ye] none)] (nextOf insSig229.hin) 1 (.row 0 (.pair (.int .i64) (.pair (.int .i64) (.pair (.int .i64) (.row (.pair (.int .i64) (.int .i64)))))) [ye] none) := g4 1
  have hmu1 : v2 = C.μ 1 := h2v 0 _ [ye] none rfl
  have hown1 : OwnD C.w (.row (.pair (.int .i64) (.pair (.int .i64) (.pair (.int .i64) (.row (.pair (.int .i64) (.int .i64))))))) (ownS C.o 1) [ye] [C.μ 1] := hk1.2.1 rfl
  rw [← hmu1] at hown1
  obtain ⟨v, f1, hv, A1, cap1, hvA, hle1, hr1⟩ := hown1
  subst hvA
  obtain rfl : v2 = .slice A1 1 cap1 := by simpa using hv
  simp only [List.length_singleton] at hle1
  obtain ⟨vb, vo, arr1, e1, fr1, rfl, ho1, hb1, hfr1, hsz1, hel1⟩ := hr1 (by omega)
  change vo + cap1 * 4 ≤ arr1.size at hsz1
  have hfr1 : fr1.2 ≤ fr1.1 := hfr1.resolve_right (fun h => by cases h.1)
  have hmu0 : v0 = C.μ 0 := h0v 0 _ xs none rfl
  have hown : OwnD C.w (.row (.pair (.int .i64) (.pair (.int .i64) (.pair (.int .i64) (.row (.pair (.int .i64) (.int .i64))))))) (ownS C.o 0) xs [C.μ 0] := hk.2.1 rfl
  rw [← hmu0] at hown
  obtain ⟨v, f, hv, A, cap, hvA, hle, hr⟩ := hown
  subst hvA
  obtain rfl : v0 = .slice A xs.length cap := by simpa using hv
  obtain rfl : args = #[.slice A xs.length cap, .int .i64 i, .slice (some ⟨vb, vo, none⟩) 1 cap1] := by
    cases args; simp_all
  simp only [Int.toNat_natCast]
  have hi' : i ≤ xs.length := by omega
  obtain ⟨V, hV⟩ : ∃ V : List Value, V = sl arr1 vo 4 := ⟨_, rfl⟩
  have hVl : V.length = 4 := by rw [hV]; exact sl_length (by omega)
  have hVe : OwnD C.w (.pair (.int .i64) (.pair (.int .i64) (.pair (.int .i64) (.row (.pair (.int .i64) (.int .i64)))))) (fun k => C.o k = some 1 ∧ k ≠ vb) ye V := by
    have h := hel1 0 ye rfl
    rw [Nat.zero_mul, Nat.add_zero] at h
    rw [hV]
    exact h.mono fun k hk o ho => ⟨ho, hk.1, hk.2.1⟩
  have hV1 : ∀ v ∈ V, v.oneCell' = true := hVe.rep.one
  have hvs : ∀ j v, V[j]? = some v → C.w.cell? ⟨vb, vo + j, none⟩ = some v := fun j v hj => by
    have hjl : j < 4 := by
      have := (List.getElem?_eq_some_iff.1 hj).1
      omega
    rw [hV, sl_get hjl] at hj
    rw [cell_blk hb1]
    exact hj
  have hdis : ∀ k, C.o k = some 0 → ¬ (C.o k = some 1 ∧ k ≠ vb) := fun k h h' => by
    rw [h] at h'
    cases h'.1
  have hyl : (xs.take i ++ ye :: xs.drop i).length = xs.length + 1 := by simp; omega
  -- the elements of the new row, by their places
  have place : ∀ {k : Nat} {y : Ty.D (.pair (.int .i64) (.pair (.int .i64) (.pair (.int .i64) (.row (.pair (.int .i64) (.int .i64))))))}, (xs.take i ++ ye :: xs.drop i)[k]? = some y → (k = i ∧ y = ye) ∨ (k < i ∧ xs[k]? = some y) ∨ (i < k ∧ xs[k - 1]? = some y) := fun {k y} hy => by
    rcases Nat.lt_trichotomy k i with c | c | c
    · rw [List.getElem?_append_left (by simp; omega), List.getElem?_take, if_pos c] at hy
      exact .inr (.inl ⟨c, hy⟩)
    · rw [List.getElem?_append_right (by simp; omega)] at hy
      rw [show k - (xs.take i).length = 0 by simp; omega] at hy
      simp at hy
      exact .inl ⟨c, hy.symm⟩
    · rw [List.getElem?_append_right (by simp; omega)] at hy
      rw [show k - (xs.take i).length = (k - 1 - i) + 1 by simp; omega, List.getElem?_cons_succ, List.getElem?_drop, show i + (k - 1 - i) = k - 1 by omega] at hy
      exact .inr (.inr ⟨c, hy⟩)
  have hown01 : ∀ {k W v'}, ownS C.o 0 k → ownS (C.give [0, 1] 2 W v').o 2 k := fun hk => give_own (entry_fr hX) hk (by simp)
  have hown11 : ∀ {k W v'}, C.o k = some 1 → ownS (C.give [0, 1] 2 W v').o 2 k := fun hk => give_own (entry_fr hX) hk (by simp)
  by_cases hroom : xs.length + 1 ≤ cap
  · obtain ⟨b, off, arr, e, fr, rfl, hS, hb, hfr, hsz, hel⟩ := hr (by omega)
    change off + cap * 4 ≤ arr.size at hsz
    have hcl : (sl arr off (xs.length * 4)).length = xs.length * 4 := sl_length (by omega)
    have hones := row_ones (T := (.pair (.int .i64) (.pair (.int .i64) (.pair (.int .i64) (.row (.pair (.int .i64) (.int .i64))))))) (off := off) (arr := arr) hel
    have hcell : ∀ j, j < (xs.length + 1) * 4 → (C.w.cell? ⟨b, off + j, none⟩).isSome = true := fun j hj => by
      rw [cell_blk hb, Array.getElem?_eq_getElem (by omega)]; rfl
    have hfz : ∀ j, j < (xs.length + 1) * 4 → C.w.frozen? ⟨b, off + j, none⟩ = false := fun j hj => not_frozen (cap := 0) (z := 0) hb hfr.weak (.inl (by omega))
    have hold : ∀ {W : World}, (∀ k, k ≠ b → W.heap[k]? = C.w.heap[k]?) → ∀ k, k < C.w.heap.size → (∀ j, C.o k = some j → j ≠ 2 ∧ j ∉ [0, 1]) → W.heap[k]? = C.w.heap[k]? := fun {W} h k hk hn => by
      refine h k ?_
      rintro rfl
      exact (hn 0 hS).2 (by simp)
    rcases Nat.lt_or_ge i xs.length with hlt | hge
    · -- ahead of the end
      have hvbb : vb ≠ b := by
        rintro rfl
        have hS' : C.o vb = some 0 := hS
        rw [ho1] at hS'
        cases hS'
      have hkB : arr.size ≠ 0 := by omega
      refine (ins_shift229 b off xs.length cap i vb vo cap1 (sl arr off (xs.length * 4)) V C.w hlt hroom (by omega) hvbb hcl hVl (fun k v hk => ?_) hcell hfz hvs hones hV1 e1 e arr1.size arr.size (by simp [World.shape?, hb1]) (by simp [World.shape?, hb]) hkB (not_frozen (off := vo) (k := 0) (cap := 0) (z := 0) hb1 (.inl hfr1) (.inr hfr1)) (by have h := not_frozen (off := 0) (k := arr1.size) (cap := 0) (z := 0) hb1 (.inl hfr1) (.inr hfr1); rwa [Nat.zero_add] at h)).mono ?_
      · rw [cell_blk hb]
        have hkl : k < xs.length * 4 := by
          have := (List.getElem?_eq_some_iff.1 hk).1
          omega
        rw [sl_get hkl] at hk
        exact hk
      rintro e1 w' ⟨rfl, rfl⟩
      have hnl : ((sl arr off (xs.length * 4)).drop (i * 4)).length = (xs.length - i) * 4 := by rw [List.length_drop, hcl]; omega
      have hd : C.w.drew.heap[b]? = some (.cells arr e fr) := hb
      have hs1 : off + (i + 1) * 4 + ((sl arr off (xs.length * 4)).drop (i * 4)).length ≤ arr.size := by rw [hnl]; omega
      obtain ⟨a1, a2, a3, a4⟩ := setCells_facts hd hs1
      have hs2 : off + i * 4 + V.length ≤ (spl arr (off + (i + 1) * 4) ((sl arr off (xs.length * 4)).drop (i * 4))).size := by rw [spl_size hs1, hVl]; omega
      obtain ⟨b1, b2, b3, b4⟩ := setCells_facts a1 hs2
      generalize (C.w.drew.setCells b (off + (i + 1) * 4) ((sl arr off (xs.length * 4)).drop (i * 4))).setCells b (off + i * 4) V = W2 at b1 b2 b3 b4 ⊢
      rw [← hyl]
      refine ⟨_, C.give [0, 1] 2 W2 _, rfl, rfl, exit_row hX rfl rfl rfl (same_trans (same_trans (b := C.w.drew) ⟨rfl, rfl, rfl⟩ a4) b4) (by rw [b2, a2]; exact Nat.le_refl _) (hold fun k hne => by rw [b3 k hne, a3 k hne]; rfl) rfl ⟨_, _, rfl⟩ ?_⟩
      refine own_make (f := f) (inv := fun m => if m < i then m else m + 1) (σ := fun k => if k < i then k else k - 1) (p := i) (S1 := fun k => C.o k = some 1 ∧ k ≠ vb) hdis hel ?_ ?_ (hown01 hS) b1 ?_ ?_ (by rw [hyl]; omega) ?_
      · intro k hk hne o ho
        exact ⟨by rw [b3 k hne, a3 k hne]; exact ho, hown01 hk, hne⟩
      · intro k hk o ho
        have hne : k ≠ b := by
          rintro rfl
          have hS' : C.o k = some 0 := hS
          rw [hk.1] at hS'
          cases hS'
        exact ⟨by rw [b3 k hne, a3 k hne]; exact ho, hown11 hk.1, hne⟩
      · rw [spl_size hs2, spl_size hs1]; exact hfr
      · rw [spl_size hs2, spl_size hs1]; exact hsz
      · intro k y hy
        have hkl : k < xs.length + 1 := by
          have := (List.getElem?_eq_some_iff.1 hy).1
          omega
        rcases place hy with ⟨rfl, rfl⟩ | ⟨c, hy⟩ | ⟨c, hy⟩
        · right
          refine ⟨rfl, ?_⟩
          have : sl (spl (spl arr (off + (k + 1) * 4) ((sl arr off (xs.length * 4)).drop (k * 4))) (off + k * 4) V) (off + k * 4) 4 = V := by
            apply List.ext_getElem?
            intro m
            by_cases hm : m < 4
            · rw [sl_get hm, spl_get hs2, if_pos (by omega)]
              congr 1
              omega
            · rw [List.getElem?_eq_none_iff.2 (by simp only [sl, List.length_take]; omega), List.getElem?_eq_none_iff.2 (by omega)]
          have h9 := hVe
          rw [← this] at h9
          exact h9
        · left
          simp only [if_pos c]
          refine ⟨hy, trivial, sl_ext fun m hm => ?_⟩
          change m < 4 at hm
          change _ = arr[off + k * 4 + m]?
          change (spl _ _ _)[off + k * 4 + m]? = _
          rw [spl_get hs2, if_neg (by omega), spl_get hs1, if_neg (by omega)]
        · left
          simp only [if_neg (show ¬ k < i by omega)]
          refine ⟨hy, by rw [if_neg (by omega)]; omega, sl_ext fun m hm => ?_⟩
          change m < 4 at hm
          change _ = arr[off + (k - 1) * 4 + m]?
          change (spl _ _ _)[off + k * 4 + m]? = _
          rw [spl_get hs2, if_neg (by omega), spl_get hs1, if_pos (by omega), List.getElem?_drop, sl_get (by omega)]
          congr 1
          omega
    · -- at the end
      obtain rfl : i = xs.length := by omega
      refine (ins_end_room229 b off xs.length cap vb vo cap1 V C.w hroom hVl (fun j hj => by rw [Nat.add_assoc]; exact hcell _ (by omega)) (fun j hj => by rw [Nat.add_assoc]; exact hfz _ (by omega)) hvs hV1).mono ?_
      rintro e1 w' ⟨rfl, rfl⟩
      have hs2 : off + xs.length * 4 + V.length ≤ arr.size := by omega
      obtain ⟨b1, b2, b3, b4⟩ := setCells_facts hb hs2
      generalize C.w.setCells b (off + xs.length * 4) V = W2 at b1 b2 b3 b4 ⊢
      rw [← hyl]
      refine ⟨_, C.give [0, 1] 2 W2 _, rfl, rfl, exit_row hX rfl rfl rfl b4 (by rw [b2]; exact Nat.le_refl _) (hold fun k hne => b3 k hne) rfl ⟨_, _, rfl⟩ ?_⟩
      refine own_make (f := f) (inv := fun m => m) (σ := fun k => k) (p := xs.length) (S1 := fun k => C.o k = some 1 ∧ k ≠ vb) hdis hel ?_ ?_ (hown01 hS) b1 ?_ ?_ (by rw [hyl]; omega) ?_
      · intro k hk hne o ho
        exact ⟨by rw [b3 k hne]; exact ho, hown01 hk, hne⟩
      · intro k hk o ho
        have hne : k ≠ b := by
          rintro rfl
          have hS' : C.o k = some 0 := hS
          rw [hk.1] at hS'
          cases hS'
        exact ⟨by rw [b3 k hne]; exact ho, hown11 hk.1, hne⟩
      · rw [spl_size hs2]; exact hfr
      · rw [spl_size hs2]; exact hsz
      · intro k y hy
        have hkl : k < xs.length + 1 := by
          have := (List.getElem?_eq_some_iff.1 hy).1
          omega
        rcases place hy with ⟨rfl, rfl⟩ | ⟨c, hy⟩ | ⟨c, hy⟩
        · right
          refine ⟨rfl, ?_⟩
          have : sl (spl arr (off + xs.length * 4) V) (off + xs.length * 4) 4 = V := by
            apply List.ext_getElem?
            intro m
            by_cases hm : m < 4
            · rw [sl_get hm, spl_get hs2, if_pos (by omega)]
              congr 1
              omega
            · rw [List.getElem?_eq_none_iff.2 (by simp only [sl, List.length_take]; omega), List.getElem?_eq_none_iff.2 (by omega)]
          have h9 := hVe
          rw [← this] at h9
          exact h9
        · left
          refine ⟨hy, rfl, sl_ext fun m hm => ?_⟩
          change m < 4 at hm
          change _ = arr[off + k * 4 + m]?
          change (spl _ _ _)[off + k * 4 + m]? = _
          rw [spl_get hs2, if_neg (by omega)]
        · omega
  · -- a new block
    have hold : ∀ {W : World}, (∀ k, k < C.w.heap.size → W.heap[k]? = C.w.heap[k]?) → ∀ k, k < C.w.heap.size → (∀ j, C.o k = some j → j ≠ 2 ∧ j ∉ [0, 1]) → W.heap[k]? = C.w.heap[k]? := fun {W} h k hk hn => h k hk
    have hnew : ∀ {W v'}, C.w.heap.size < W.heap.size → ownS (C.give [0, 1] 2 W v').o 2 C.w.heap.size := fun {W v'} h => give_o_new (Nat.le_refl _) h
    obtain ⟨cp, hcp⟩ : ∃ cp, cp = grownCap C.w (xs.length + 1) cap 167 := ⟨_, rfl⟩
    have hcpn : xs.length + 1 ≤ cp := by rw [hcp]; exact grownCap_ge _ _ _ _
    obtain ⟨cs, hcsl, hcs, hone, S0, f0, bb, hels⟩ : ∃ cs : List Value, cs.length = xs.length * 4 ∧ (∀ a, A = some a → ∀ j v, cs[j]? = some v → C.w.cell? (a.add j) = some v) ∧ (∀ v ∈ cs, v.oneCell' = true) ∧
        ∃ (S0 : Nat → Prop) (f0 : Nat → Nat) (bb : Nat), (∀ i x, xs[i]? = some x → OwnD C.w (.pair (.int .i64) (.pair (.int .i64) (.pair (.int .i64) (.row (.pair (.int .i64) (.int .i64)))))) (fun k => (S0 k ∧ C.o k = some 0) ∧ k ≠ bb ∧ f0 k = i) x ((cs.drop (i * 4)).take 4)) := by
      rcases Nat.eq_zero_or_pos cap with hc0 | hc0
      · have hx0 : xs.length = 0 := by omega
        have hx : xs = [] := List.length_eq_zero_iff.1 hx0
        refine ⟨[], by rw [hx0]; rfl, fun a _ j v hj => by simp at hj, fun v hv => by simp at hv, fun _ => True, f, 0, fun i x hx' => ?_⟩
        rw [hx] at hx'
        simp at hx'
      · obtain ⟨b, off, arr, e, fr, rfl, hS, hb, hfr, hsz, hel⟩ := hr hc0
        change off + cap * 4 ≤ arr.size at hsz
        refine ⟨sl arr off (xs.length * 4), sl_length (by omega), ?_, row_ones (T := (.pair (.int .i64) (.pair (.int .i64) (.pair (.int .i64) (.row (.pair (.int .i64) (.int .i64))))))) (off := off) (arr := arr) hel, fun _ => True, f, b, fun i x hx => ?_⟩
        · intro a ha j v hj
          cases ha
          have hkl : j < xs.length * 4 := by
            have := (List.getElem?_eq_some_iff.1 hj).1
            have hcl : (sl arr off (xs.length * 4)).length = xs.length * 4 := sl_length (by omega)
            omega
          rw [sl_get hkl] at hj
          rw [add_lit, cell_blk hb]
          exact hj
        · have hil : i < xs.length := (List.getElem?_eq_some_iff.1 hx).1
          have : ((sl arr off (xs.length * 4)).drop (i * 4)).take 4 = sl arr (off + i * 4) 4 := by
            apply List.ext_getElem?
            intro m
            by_cases hm : m < 4
            · rw [List.getElem?_take, if_pos hm, List.getElem?_drop, sl_get (by omega), sl_get hm]
              congr 1
              omega
            · rw [List.getElem?_eq_none_iff.2 (by simp only [List.length_take]; omega), List.getElem?_eq_none_iff.2 (by simp only [sl, List.length_take]; omega)]
          rw [this]
          exact (hel i x hx).mono fun k hk o ho => ⟨ho, ⟨trivial, hk.1⟩, hk.2⟩
    have hnil : A = none → xs.length = 0 := by
      rintro rfl
      rcases Nat.eq_zero_or_pos cap with hc0 | hc0
      · omega
      · obtain ⟨b, off, arr, e, fr, h, _⟩ := hr hc0
        cases h
    have hst : ∀ {W : World} {v' : Value}, C.w.heap.size < W.heap.size → (∀ k, k < C.w.heap.size → W.heap[k]? = C.w.heap[k]?) → ∀ k, (S0 k ∧ C.o k = some 0) → k ≠ bb → ∀ o, C.w.heap[k]? = some o → W.heap[k]? = some o ∧ ownS (C.give [0, 1] 2 W v').o 2 k ∧ k ≠ C.w.heap.size := fun {W v'} h1 h2 k hk _ o ho =>
      ⟨(h2 k (heap_lt ho)).trans ho, hown01 hk.2, by have := heap_lt ho; omega⟩
    have hst1 : ∀ {W : World} {v' : Value}, C.w.heap.size < W.heap.size → (∀ k, k < C.w.heap.size → W.heap[k]? = C.w.heap[k]?) → ∀ k, (C.o k = some 1 ∧ k ≠ vb) → ∀ o, C.w.heap[k]? = some o → W.heap[k]? = some o ∧ ownS (C.give [0, 1] 2 W v').o 2 k ∧ k ≠ C.w.heap.size := fun {W v'} h1 h2 k hk o ho =>
      ⟨(h2 k (heap_lt ho)).trans ho, hown11 hk.1, by have := heap_lt ho; omega⟩
    rcases Nat.lt_or_ge i xs.length with hlt | hge
    · obtain ⟨⟨ab, ao, asp⟩, rfl⟩ : ∃ a, A = some a := by
        cases A with
        | none => have := hnil rfl; omega
        | some a => exact ⟨a, rfl⟩
      obtain rfl : asp = none := by
        rcases Nat.eq_zero_or_pos cap with hc0 | hc0
        · omega
        · obtain ⟨b, off, arr, e, fr, h, _⟩ := hr hc0
          simp at h
          exact h.2.2
      refine (ins_grow229 ab ao xs.length cap i vb vo cap1 cs V C.w hlt hle (by omega) (by omega) hcsl hVl (fun j v hj => by have := hcs _ rfl j v hj; rw [add_lit] at this; exact this) hvs hone hV1).mono ?_
      rintro e1 w' ⟨rfl, rfl⟩
      rw [← hcp]
      obtain ⟨R, hR⟩ : ∃ R : Array Value, R = (cs.take (i * 4)).toArray ++ Builtin.zeroCells #[.int .i64 0, .int .i64 0, .int .i64 0, .slice none 0 0] (xs.length + 1 - i) ++ Builtin.zeroCells #[.int .i64 0, .int .i64 0, .int .i64 0, .slice none 0 0] (cp - (xs.length + 1)) := ⟨_, rfl⟩
      rw [← hR]
      have hRs : R.size = cp * 4 := by
        rw [hR]
        simp [Builtin.zeroCells]
        omega
      have hRg : ∀ m, m < i * 4 → R[m]? = cs[m]? := fun m hm => by
        rw [hR, Array.getElem?_append_left (by simp [Builtin.zeroCells]; omega), Array.getElem?_append_left (by simp; omega)]
        simp [List.getElem?_take, hm]
      obtain ⟨p1, p2, p3⟩ := push_heap (w := C.w) (w' := (C.w.alloc (.cells R 167)).drew) (o' := .cells R 167) rfl
      have hs1 : i * 4 + V.length ≤ R.size := by omega
      obtain ⟨a1, a2, a3, a4⟩ := setCells_facts p1 hs1
      have hnl : (cs.drop (i * 4)).length = (xs.length - i) * 4 := by rw [List.length_drop, hcsl]; omega
      have hs2 : (i + 1) * 4 + (cs.drop (i * 4)).length ≤ (spl R (i * 4) V).size := by rw [spl_size hs1]; omega
      have a1' : ((C.w.alloc (.cells R 167)).drew.setCells C.w.heap.size (i * 4) V).drew.heap[C.w.heap.size]? = some (.cells (spl R (i * 4) V) 167 (0, 0)) := a1
      obtain ⟨b1, b2, b3, b4⟩ := setCells_facts a1' hs2
      have hq1 : C.w.heap.size < (((C.w.alloc (.cells R 167)).drew.setCells C.w.heap.size (i * 4) V).drew.setCells C.w.heap.size ((i + 1) * 4) (cs.drop (i * 4))).heap.size := by
        rw [b2]
        show C.w.heap.size < ((C.w.alloc (.cells R 167)).drew.setCells C.w.heap.size (i * 4) V).heap.size
        rw [a2, p2]
        omega
      have hq2 : ∀ k, k < C.w.heap.size → (((C.w.alloc (.cells R 167)).drew.setCells C.w.heap.size (i * 4) V).drew.setCells C.w.heap.size ((i + 1) * 4) (cs.drop (i * 4))).heap[k]? = C.w.heap[k]? := fun k hk => by
        rw [b3 k (by omega)]
        show ((C.w.alloc (.cells R 167)).drew.setCells C.w.heap.size (i * 4) V).heap[k]? = _
        rw [a3 k (by omega), p3 k hk]
      have hq3 : Same C.w (((C.w.alloc (.cells R 167)).drew.setCells C.w.heap.size (i * 4) V).drew.setCells C.w.heap.size ((i + 1) * 4) (cs.drop (i * 4))) :=
        same_trans (same_trans (same_trans (b := (C.w.alloc (.cells R 167)).drew) ⟨rfl, rfl, rfl⟩ a4) (c := ((C.w.alloc (.cells R 167)).drew.setCells C.w.heap.size (i * 4) V).drew) ⟨rfl, rfl, rfl⟩) b4
      generalize (((C.w.alloc (.cells R 167)).drew.setCells C.w.heap.size (i * 4) V).drew.setCells C.w.heap.size ((i + 1) * 4) (cs.drop (i * 4))) = W2 at b1 hq1 hq2 hq3 ⊢
      rw [← hyl]
      refine ⟨_, C.give [0, 1] 2 W2 _, rfl, rfl, exit_row hX rfl rfl rfl hq3 (Nat.le_of_lt hq1) (hold hq2) rfl ⟨_, _, rfl⟩ ?_⟩
      refine own_make (off' := 0) (f := f0) (inv := fun m => if m < i then m else m + 1) (σ := fun k => if k < i then k else k - 1) (p := i) (S1 := fun k => C.o k = some 1 ∧ k ≠ vb) (fun k hk => hdis k hk.2) hels (hst hq1 hq2) (hst1 hq1 hq2) (hnew hq1) b1 (.inl (Nat.le_refl _)) ?_ (by rw [hyl]; omega) ?_
      · rw [spl_size hs2, spl_size hs1, hRs]
        show 0 + cp * 4 ≤ _
        omega
      · intro k y hy
        have hkl : k < xs.length + 1 := by
          have := (List.getElem?_eq_some_iff.1 hy).1
          omega
        rcases place hy with ⟨rfl, rfl⟩ | ⟨c, hy⟩ | ⟨c, hy⟩
        · right
          refine ⟨rfl, ?_⟩
          have : sl (spl (spl R (k * 4) V) ((k + 1) * 4) (cs.drop (k * 4))) (0 + k * 4) 4 = V := by
            apply List.ext_getElem?
            intro m
            by_cases hm : m < 4
            · rw [sl_get hm, spl_get hs2, if_neg (by omega), spl_get hs1, if_pos (by omega)]
              congr 1
              omega
            · rw [List.getElem?_eq_none_iff.2 (by simp only [sl, List.length_take]; omega), List.getElem?_eq_none_iff.2 (by omega)]
          have h9 := hVe
          rw [← this] at h9
          exact h9
        · left
          simp only [if_pos c]
          refine ⟨hy, trivial, ?_⟩
          apply List.ext_getElem?
          intro m
          change (sl (spl _ _ _) (0 + k * 4) 4)[m]? = _
          by_cases hm : m < 4
          · rw [sl_get hm, spl_get hs2, if_neg (by omega), spl_get hs1, if_neg (by omega), hRg _ (by omega), List.getElem?_take, if_pos hm, List.getElem?_drop]
            congr 1
            omega
          · rw [List.getElem?_eq_none_iff.2 (by simp only [sl, List.length_take]; omega), List.getElem?_eq_none_iff.2 (by simp only [List.length_take]; omega)]
        · left
          simp only [if_neg (show ¬ k < i by omega)]
          refine ⟨hy, by rw [if_neg (by omega)]; omega, ?_⟩
          apply List.ext_getElem?
          intro m
          change (sl (spl _ _ _) (0 + k * 4) 4)[m]? = _
          by_cases hm : m < 4
          · rw [sl_get hm, spl_get hs2, if_pos (by omega), List.getElem?_drop, List.getElem?_take, if_pos hm, List.getElem?_drop]
            congr 1
            omega
          · rw [List.getElem?_eq_none_iff.2 (by simp only [sl, List.length_take]; omega), List.getElem?_eq_none_iff.2 (by simp only [List.length_take]; omega)]
    · obtain rfl : i = xs.length := by omega
      refine (ins_end_grow229 A xs.length cap vb vo cap1 cs V C.w hle (by omega) (by omega) hcsl hVl hnil hcs hvs hV1).mono ?_
      rintro e1 w' ⟨rfl, rfl⟩
      rw [← hcp]
      obtain ⟨R, hR⟩ : ∃ R : Array Value, R = (cs ++ V).toArray ++ Builtin.zeroCells #[.int .i64 0, .int .i64 0, .int .i64 0, .slice none 0 0] (cp - (xs.length + 1)) := ⟨_, rfl⟩
      rw [← hR]
      have hRs : R.size = cp * 4 := by
        rw [hR]
        simp [Builtin.zeroCells]
        omega
      have hRg : ∀ m, m < (xs.length + 1) * 4 → R[m]? = (cs ++ V)[m]? := fun m hm => by
        rw [hR, Array.getElem?_append_left (by simp; omega)]
        simp
      obtain ⟨b1, p2, hq2⟩ := push_heap (w := C.w) (w' := C.w.drew.alloc (.cells R 167)) (o' := .cells R 167) rfl
      have hq1 : C.w.heap.size < (C.w.drew.alloc (.cells R 167)).heap.size := by rw [p2]; omega
      have hq3 : Same C.w (C.w.drew.alloc (.cells R 167)) := ⟨rfl, rfl, rfl⟩
      generalize C.w.drew.alloc (.cells R 167) = W2 at b1 hq1 hq2 hq3 ⊢
      rw [← hyl]
      refine ⟨_, C.give [0, 1] 2 W2 _, rfl, rfl, exit_row hX rfl rfl rfl hq3 (Nat.le_of_lt hq1) (hold hq2) rfl ⟨_, _, rfl⟩ ?_⟩
      refine own_make (off' := 0) (f := f0) (inv := fun m => m) (σ := fun k => k) (p := xs.length) (S1 := fun k => C.o k = some 1 ∧ k ≠ vb) (fun k hk => hdis k hk.2) hels (hst hq1 hq2) (hst1 hq1 hq2) (hnew hq1) b1 (.inl (Nat.le_refl _)) ?_ (by rw [hyl]; omega) ?_
      · rw [hRs]
        show 0 + cp * 4 ≤ _
        omega
      · intro k y hy
        have hkl : k < xs.length + 1 := by
          have := (List.getElem?_eq_some_iff.1 hy).1
          omega
        rcases place hy with ⟨rfl, rfl⟩ | ⟨c, hy⟩ | ⟨c, hy⟩
        · right
          refine ⟨rfl, ?_⟩
          have : sl R (0 + xs.length * 4) 4 = V := by
            apply List.ext_getElem?
            intro m
            by_cases hm : m < 4
            · rw [sl_get hm, hRg _ (by omega), List.getElem?_append_right (by omega)]
              congr 1
              omega
            · rw [List.getElem?_eq_none_iff.2 (by simp only [sl, List.length_take]; omega), List.getElem?_eq_none_iff.2 (by omega)]
          have h9 := hVe
          rw [← this] at h9
          exact h9
        · left
          refine ⟨hy, rfl, ?_⟩
          apply List.ext_getElem?
          intro m
          change (sl R (0 + k * 4) 4)[m]? = _
          by_cases hm : m < 4
          · rw [sl_get hm, hRg _ (by omega), List.getElem?_append_left (by omega), List.getElem?_take, if_pos hm, List.getElem?_drop]
            congr 1
            omega
          · rw [List.getElem?_eq_none_iff.2 (by simp only [sl, List.length_take]; omega), List.getElem?_eq_none_iff.2 (by simp only [List.length_take]; omega)]
        · omega

end Go.Vm.Sl
