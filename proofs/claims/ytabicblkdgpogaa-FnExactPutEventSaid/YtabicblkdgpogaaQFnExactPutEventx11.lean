-- Made by this session's program (wip/tools/myprint.py) out of the translation; Lean checks it.
import Derived.Test.YtabicblkdgpogaaQFnExactPutEventx0
namespace Go.Proofs.Ytabicblkdgpogaa.QFnExactPutEvent
open Go.RowKit Go.Proofs.YtabicblkdgpogaaW.PrintWords Go.Proofs.YtabicblkdgpogaaW.PrintLast Go.Proofs.YtabicblkdgpogaaW.PrintMore
attribute [local go_sem] max2_int min2_int max_two min_two max_three min_three max_four min_four   -- for this text's walks alone
set_option linter.unusedVariables false
set_option linter.unusedSimpArgs false

/-! ### impl_fieldOf: function 122 (by hand) -/
def impl_fieldOf.f (a0 : Int) : Option (Int × Int × Int × Bool) := if a0 < 0 then (some (0, 0, 0, false)) else (if a0 ≥ 9 then (some (0, 0, 0, false)) else (if a0 = 0 then (some (17, 3, 4, true)) else (if a0 = 1 then (some (97, 5, 5, true)) else (if a0 = 2 then (some (193, 5, 6, true)) else (if a0 = 3 then (some (257, 3, 8, true)) else (if a0 = 4 then (some (7681, 17, 9, true)) else (if a0 = 5 then (some (12289, 11, 12, true)) else (if a0 = 6 then (some (998244353, 3, 23, true)) else (if a0 = 7 then (some (469762049, 3, 26, true)) else (some (1004535809, 3, 21, true)))))))))))
theorem blk_store {P : Program} {ops : Array Oper} {rest : List Oper} {o : Oper} {a : Act} {Q : Exit → Act → World → Prop} {w0 W : World} (hN : o.dst = none) (hgd : o.guard = none) (t : TypeId) (p : Tmp) (x : Operand) (ho : o.op = .store t (.tmp p) x) {base g : Nat} {e : TypeId} {cur : Array Value}
  (u : Value) (seg : List Value) (haddr : a.eval (.tmp p) = .pointer (some ⟨g, 0, none⟩)) (hx : a.eval x = u) (hu : u.cells.toList = seg) (ht : (P.info? t).map (·.size) = some seg.length) (h1 : ∀ q ∈ seg, q.oneCell' = true)
  (hh : W.heap[g]? = some (.cells cur e (0, 0))) (hl : seg.length = cur.size) (HB : Below base w0 W) (hbg : base ≤ g)
  (h : ∀ w1, w1.heap[g]? = some (.cells seg.toArray e (0, 0)) → (∀ k, k ≠ g → w1.heap[k]? = W.heap[k]?) → Below base w0 w1 → wpList P ops Q rest a w1) : wpList P ops Q (o :: rest) a W := by
 have hrun := run_store_run (P := P) t u seg hh hu ht (o := 0) (by omega) h1
 obtain ⟨cur', h3, h4, h5⟩ := setCells_row seg 0 W cur hh (by omega)
 obtain ⟨s1, s2, s3, s4⟩ := setCells_same g seg 0 W
 have hcur : cur' = seg.toArray := by
  apply Array.toList_inj.1
  rw [h5, List.take_zero, List.nil_append, List.drop_eq_nil_of_le (by simp; omega), List.append_nil]
 subst hcur
 have hfar : ∀ k, k ≠ g → (W.setCells g 0 seg).heap[k]? = W.heap[k]? := fun k hk => setCells_far seg 0 k hk
 have hB : Below base w0 (W.setCells g 0 seg) := HB.trans ⟨s1, s2, s3, by rw [s4]; exact Nat.le_refl _, fun k hk => hfar k (by omega)⟩
 refine wpList_plain hgd fun K hK => ?_
 unfold Oper.wp execOp
 simp only [ho, haddr, hx, Sem.run_bind, Sem.run_pure, Result.andThen_ok, hrun]
 show K (a.put o.dst undef) _
 rw [hN]
 exact hK a _ (h _ h3 hfar hB)
theorem cells_at {w : World} {g : Nat} {cs : Array Value} {t : TypeId} (h : w.heap[g]? = some (.cells cs t (0, 0))) (i : Nat) (v : Value) (hv : cs[i]? = some v) : w.cell? ⟨g, i, none⟩ = some v := (blk_cell h i).trans hv

set_option maxHeartbeats 8000000 in
set_option maxRecDepth 100000 in
theorem impl_fieldOf.below_ (a0 : Int) (w : World) (c : a0 < 0) :
  Calls Try.prog 122 #[.int .i64 a0] w fun e w' => e = .returned (.tuple #[.agg #[.int .i64 0, .int .i64 0, .int .i64 0], .bool false]) ∧ Below w.heap.size w w' := by
 have hu88 := Try.underlying88
 have hu146 := Try.underlying146
 have cb : decide (a0 < 0) = true := decide_eq_true c
 clear c
 have HB := Aside0.mk (Below.refl w.heap.size w)
 go_enter Try.func122, Try.ntmps122
 go_upto_region 2 with (first | ((with_reducible refine gate_dst (N := 2) rfl ?_); refine box_event ?hg (N := 2) ?hd (cs := #[.int .i64 0, .int .i64 0, .int .i64 0]) (t := 88) ?hr ?_; (case hd => rfl); (case hg => rfl); (case hr => first | (go_simp; done) | (go_simp; rfl)); intro g2 hg w2 hbox hb; have GE := Aside0.mk (show w.heap.size ≤ g2 by rw [hg]; exact Nat.le_refl _); have BK := Aside0.mk hbox; have n1_ := Aside0.mk (below_step HB.out hb); clear HB; have HB := n1_; clear n1_ hb hbox hg) | ((with_reducible refine gate_dst (N := 4) rfl ?_); refine box_event ?hg (N := 4) ?hd (cs := #[.int .i64 0, .int .i64 0, .int .i64 0, .int .i64 0, .int .i64 0, .int .i64 0, .int .i64 0, .int .i64 0, .int .i64 0, .int .i64 0, .int .i64 0, .int .i64 0, .int .i64 0, .int .i64 0, .int .i64 0, .int .i64 0, .int .i64 0, .int .i64 0, .int .i64 0, .int .i64 0, .int .i64 0, .int .i64 0, .int .i64 0, .int .i64 0, .int .i64 0, .int .i64 0, .int .i64 0]) (t := 146) ?hr ?_; (case hd => rfl); (case hg => rfl); (case hr => kernel_rfl); intro g4 hg w4 hbox hb; have GE4 := Aside0.mk (show w.heap.size ≤ g4 by rw [hg]; exact HB.out.size); have BK4 := Aside0.mk hbox; have n1_ := Aside0.mk (below_step HB.out hb); have n2_ := Aside0.mk (blk_below BK.out hb); have NE := Aside0.mk (blk_ne n2_.out hbox (by decide)); clear HB BK; have HB := n1_; have BK := n2_; clear n1_ n2_ hb hbox hg) | ((with_reducible refine gate_store (t := 146) (p := 4) rfl ?_); refine blk_store rfl rfl 146 4 _ rfl _ [.int .i64 17, .int .i64 3, .int .i64 4, .int .i64 97, .int .i64 5, .int .i64 5, .int .i64 193, .int .i64 5, .int .i64 6, .int .i64 257, .int .i64 3, .int .i64 8, .int .i64 7681, .int .i64 17, .int .i64 9, .int .i64 12289, .int .i64 11, .int .i64 12, .int .i64 998244353, .int .i64 3, .int .i64 23, .int .i64 469762049, .int .i64 3, .int .i64 26, .int .i64 1004535809, .int .i64 3, .int .i64 21] rfl rfl rfl (by kernel_rfl) (by decide) BK4.out rfl HB.out GE4.out ?_; intro w5 hbox hfar hb; have n1_ := Aside0.mk hb; have n2_ := Aside0.mk ((hfar g2 NE.out).trans BK.out); have n3_ := Aside0.mk hbox; clear HB BK BK4; have HB := n1_; have BK := n2_; have BK4 := n3_; clear n1_ n2_ n3_ hb hbox hfar))
 go_wp2_with (first | ((with_reducible refine gate_store (t := 88) (p := 2) rfl ?_); refine blk_store rfl rfl 88 2 _ rfl (.agg #[.int .i64 0, .int .i64 0, .int .i64 0]) [.int .i64 0, .int .i64 0, .int .i64 0] rfl rfl rfl (by kernel_rfl) (by decide) BK.out rfl HB.out GE.out ?_; intro w6 hbox hfar hb; have n1_ := Aside0.mk hb; have n2_ := Aside0.mk hbox; clear HB BK; have HB := n1_; have BK := n2_; clear n1_ n2_ hb hbox hfar))
 refine bodyPost_ret (results_ct rfl _ _ g2 88 #[.int .i64 0, .int .i64 0, .int .i64 0] (0, 0) _ rfl BK.out Try.underlying88 rfl (by kernel_rfl)) rfl ?_
 exact ⟨by first | rfl | (simp; done), HB.out⟩
set_option maxHeartbeats 8000000 in
set_option maxRecDepth 100000 in
theorem impl_fieldOf.above_ (a0 : Int) (w : World) (c0 : ¬ a0 < 0) (c : a0 ≥ 9) :
  Calls Try.prog 122 #[.int .i64 a0] w fun e w' => e = .returned (.tuple #[.agg #[.int .i64 0, .int .i64 0, .int .i64 0], .bool false]) ∧ Below w.heap.size w w' := by
 have hu88 := Try.underlying88
 have hu146 := Try.underlying146
 have cb0 : decide (a0 < 0) = false := decide_eq_false c0
 have cb : decide (9 ≤ a0) = true := decide_eq_true c
 clear c c0
 have HB := Aside0.mk (Below.refl w.heap.size w)
 go_enter Try.func122, Try.ntmps122
 go_upto_region 2 with (first | ((with_reducible refine gate_dst (N := 2) rfl ?_); refine box_event ?hg (N := 2) ?hd (cs := #[.int .i64 0, .int .i64 0, .int .i64 0]) (t := 88) ?hr ?_; (case hd => rfl); (case hg => rfl); (case hr => first | (go_simp; done) | (go_simp; rfl)); intro g2 hg w2 hbox hb; have GE := Aside0.mk (show w.heap.size ≤ g2 by rw [hg]; exact Nat.le_refl _); have BK := Aside0.mk hbox; have n1_ := Aside0.mk (below_step HB.out hb); clear HB; have HB := n1_; clear n1_ hb hbox hg) | ((with_reducible refine gate_dst (N := 4) rfl ?_); refine box_event ?hg (N := 4) ?hd (cs := #[.int .i64 0, .int .i64 0, .int .i64 0, .int .i64 0, .int .i64 0, .int .i64 0, .int .i64 0, .int .i64 0, .int .i64 0, .int .i64 0, .int .i64 0, .int .i64 0, .int .i64 0, .int .i64 0, .int .i64 0, .int .i64 0, .int .i64 0, .int .i64 0, .int .i64 0, .int .i64 0, .int .i64 0, .int .i64 0, .int .i64 0, .int .i64 0, .int .i64 0, .int .i64 0, .int .i64 0]) (t := 146) ?hr ?_; (case hd => rfl); (case hg => rfl); (case hr => kernel_rfl); intro g4 hg w4 hbox hb; have GE4 := Aside0.mk (show w.heap.size ≤ g4 by rw [hg]; exact HB.out.size); have BK4 := Aside0.mk hbox; have n1_ := Aside0.mk (below_step HB.out hb); have n2_ := Aside0.mk (blk_below BK.out hb); have NE := Aside0.mk (blk_ne n2_.out hbox (by decide)); clear HB BK; have HB := n1_; have BK := n2_; clear n1_ n2_ hb hbox hg) | ((with_reducible refine gate_store (t := 146) (p := 4) rfl ?_); refine blk_store rfl rfl 146 4 _ rfl _ [.int .i64 17, .int .i64 3, .int .i64 4, .int .i64 97, .int .i64 5, .int .i64 5, .int .i64 193, .int .i64 5, .int .i64 6, .int .i64 257, .int .i64 3, .int .i64 8, .int .i64 7681, .int .i64 17, .int .i64 9, .int .i64 12289, .int .i64 11, .int .i64 12, .int .i64 998244353, .int .i64 3, .int .i64 23, .int .i64 469762049, .int .i64 3, .int .i64 26, .int .i64 1004535809, .int .i64 3, .int .i64 21] rfl rfl rfl (by kernel_rfl) (by decide) BK4.out rfl HB.out GE4.out ?_; intro w5 hbox hfar hb; have n1_ := Aside0.mk hb; have n2_ := Aside0.mk ((hfar g2 NE.out).trans BK.out); have n3_ := Aside0.mk hbox; clear HB BK BK4; have HB := n1_; have BK := n2_; have BK4 := n3_; clear n1_ n2_ n3_ hb hbox hfar))
 go_wp2_with (first | ((with_reducible refine gate_store (t := 88) (p := 2) rfl ?_); refine blk_store rfl rfl 88 2 _ rfl (.agg #[.int .i64 0, .int .i64 0, .int .i64 0]) [.int .i64 0, .int .i64 0, .int .i64 0] rfl rfl rfl (by kernel_rfl) (by decide) BK.out rfl HB.out GE.out ?_; intro w6 hbox hfar hb; have n1_ := Aside0.mk hb; have n2_ := Aside0.mk hbox; clear HB BK; have HB := n1_; have BK := n2_; clear n1_ n2_ hb hbox hfar))
 refine bodyPost_ret (results_ct rfl _ _ g2 88 #[.int .i64 0, .int .i64 0, .int .i64 0] (0, 0) _ rfl BK.out Try.underlying88 rfl (by kernel_rfl)) rfl ?_
 exact ⟨by first | rfl | (simp; done), HB.out⟩
set_option maxHeartbeats 8000000 in
set_option maxRecDepth 100000 in
theorem impl_fieldOf.in_ (a0 v0 v1 v2 : Int) (w : World) (h0 : 0 ≤ a0) (h9 : a0 < 9) (hv : Aside0 ((#[.int .i64 17, .int .i64 3, .int .i64 4, .int .i64 97, .int .i64 5, .int .i64 5, .int .i64 193, .int .i64 5, .int .i64 6, .int .i64 257, .int .i64 3, .int .i64 8, .int .i64 7681, .int .i64 17, .int .i64 9, .int .i64 12289, .int .i64 11, .int .i64 12, .int .i64 998244353, .int .i64 3, .int .i64 23, .int .i64 469762049, .int .i64 3, .int .i64 26, .int .i64 1004535809, .int .i64 3, .int .i64 21] : Array Value)[a0.toNat * 3]? = some (.int .i64 v0) ∧ (#[.int .i64 17, .int .i64 3, .int .i64 4, .int .i64 97, .int .i64 5, .int .i64 5, .int .i64 193, .int .i64 5, .int .i64 6, .int .i64 257, .int .i64 3, .int .i64 8, .int .i64 7681, .int .i64 17, .int .i64 9, .int .i64 12289, .int .i64 11, .int .i64 12, .int .i64 998244353, .int .i64 3, .int .i64 23, .int .i64 469762049, .int .i64 3, .int .i64 26, .int .i64 1004535809, .int .i64 3, .int .i64 21] : Array Value)[a0.toNat * 3 + 1]? = some (.int .i64 v1) ∧ (#[.int .i64 17, .int .i64 3, .int .i64 4, .int .i64 97, .int .i64 5, .int .i64 5, .int .i64 193, .int .i64 5, .int .i64 6, .int .i64 257, .int .i64 3, .int .i64 8, .int .i64 7681, .int .i64 17, .int .i64 9, .int .i64 12289, .int .i64 11, .int .i64 12, .int .i64 998244353, .int .i64 3, .int .i64 23, .int .i64 469762049, .int .i64 3, .int .i64 26, .int .i64 1004535809, .int .i64 3, .int .i64 21] : Array Value)[a0.toNat * 3 + 2]? = some (.int .i64 v2))) :
  Calls Try.prog 122 #[.int .i64 a0] w fun e w' => e = .returned (.tuple #[.agg #[.int .i64 v0, .int .i64 v1, .int .i64 v2], .bool true]) ∧ Below w.heap.size w w' := by
 have hu88 := Try.underlying88
 have hu146 := Try.underlying146
 have cb0 : decide (a0 < 0) = false := decide_eq_false (by omega)
 have cb1 : decide (9 ≤ a0) = false := decide_eq_false (by omega)
 have cb2 : decide (0 ≤ a0) = true := decide_eq_true h0
 have cb3 : decide (a0 < 9) = true := decide_eq_true h9
 have HB := Aside0.mk (Below.refl w.heap.size w)
 go_enter Try.func122, Try.ntmps122
 go_upto_region 2 with (first | ((with_reducible refine gate_dst (N := 2) rfl ?_); refine box_event ?hg (N := 2) ?hd (cs := #[.int .i64 0, .int .i64 0, .int .i64 0]) (t := 88) ?hr ?_; (case hd => rfl); (case hg => rfl); (case hr => first | (go_simp; done) | (go_simp; rfl)); intro g2 hg w2 hbox hb; have GE := Aside0.mk (show w.heap.size ≤ g2 by rw [hg]; exact Nat.le_refl _); have BK := Aside0.mk hbox; have n1_ := Aside0.mk (below_step HB.out hb); clear HB; have HB := n1_; clear n1_ hb hbox hg) | ((with_reducible refine gate_dst (N := 4) rfl ?_); refine box_event ?hg (N := 4) ?hd (cs := #[.int .i64 0, .int .i64 0, .int .i64 0, .int .i64 0, .int .i64 0, .int .i64 0, .int .i64 0, .int .i64 0, .int .i64 0, .int .i64 0, .int .i64 0, .int .i64 0, .int .i64 0, .int .i64 0, .int .i64 0, .int .i64 0, .int .i64 0, .int .i64 0, .int .i64 0, .int .i64 0, .int .i64 0, .int .i64 0, .int .i64 0, .int .i64 0, .int .i64 0, .int .i64 0, .int .i64 0]) (t := 146) ?hr ?_; (case hd => rfl); (case hg => rfl); (case hr => kernel_rfl); intro g4 hg w4 hbox hb; have GE4 := Aside0.mk (show w.heap.size ≤ g4 by rw [hg]; exact HB.out.size); have BK4 := Aside0.mk hbox; have n1_ := Aside0.mk (below_step HB.out hb); have n2_ := Aside0.mk (blk_below BK.out hb); have NE := Aside0.mk (blk_ne n2_.out hbox (by decide)); clear HB BK; have HB := n1_; have BK := n2_; clear n1_ n2_ hb hbox hg) | ((with_reducible refine gate_store (t := 146) (p := 4) rfl ?_); refine blk_store rfl rfl 146 4 _ rfl _ [.int .i64 17, .int .i64 3, .int .i64 4, .int .i64 97, .int .i64 5, .int .i64 5, .int .i64 193, .int .i64 5, .int .i64 6, .int .i64 257, .int .i64 3, .int .i64 8, .int .i64 7681, .int .i64 17, .int .i64 9, .int .i64 12289, .int .i64 11, .int .i64 12, .int .i64 998244353, .int .i64 3, .int .i64 23, .int .i64 469762049, .int .i64 3, .int .i64 26, .int .i64 1004535809, .int .i64 3, .int .i64 21] rfl rfl rfl (by kernel_rfl) (by decide) BK4.out rfl HB.out GE4.out ?_; intro w5 hbox hfar hb; have n1_ := Aside0.mk hb; have n2_ := Aside0.mk ((hfar g2 NE.out).trans BK.out); have n3_ := Aside0.mk hbox; clear HB BK BK4; have HB := n1_; have BK := n2_; have BK4 := n3_; clear n1_ n2_ n3_ hb hbox hfar))
 have hz0 : w5.cell? ⟨g4, a0.toNat * 3, none⟩ = some (.int .i64 v0) := cells_at BK4.out _ _ hv.out.1
 have hz1 : w5.cell? ⟨g4, a0.toNat * 3 + 1, none⟩ = some (.int .i64 v1) := cells_at BK4.out _ _ hv.out.2.1
 have hz2 : w5.cell? ⟨g4, a0.toNat * 3 + 2, none⟩ = some (.int .i64 v2) := cells_at BK4.out _ _ hv.out.2.2
 go_wp2_with (first | ((with_reducible refine gate_store (t := 88) (p := 2) rfl ?_); refine blk_store rfl rfl 88 2 _ rfl (.agg #[.int .i64 v0, .int .i64 v1, .int .i64 v2]) [.int .i64 v0, .int .i64 v1, .int .i64 v2] rfl rfl rfl (by kernel_rfl) (by intro q hq; simp at hq; rcases hq with rfl | rfl | rfl <;> rfl) BK.out rfl HB.out GE.out ?_; intro w6 hbox hfar hb; have n1_ := Aside0.mk hb; have n2_ := Aside0.mk hbox; clear HB BK; have HB := n1_; have BK := n2_; clear n1_ n2_ hb hbox hfar))
 refine bodyPost_ret (results_ct rfl _ _ g2 88 #[.int .i64 v0, .int .i64 v1, .int .i64 v2] (0, 0) _ rfl BK.out Try.underlying88 rfl (by kernel_rfl)) rfl ?_
 exact ⟨by first | rfl | (simp; done), HB.out⟩
theorem impl_fieldOf.calls (a0 : Int) (r1 : Int) (r2 : Int) (r3 : Int) (r4 : Bool) (w : World) (h : impl_fieldOf.f a0 = some (r1, r2, r3, r4)) :
  Calls Try.prog 122 #[.int .i64 a0] w fun e w' => e = .returned (.tuple #[.agg #[.int .i64 r1, .int .i64 r2, .int .i64 r3], .bool r4]) ∧ Below w.heap.size w w' := by
 unfold impl_fieldOf.f at h
 by_cases c : a0 < 0
 ·rw [if_pos c] at h
  simp only [Option.some.injEq, Prod.mk.injEq] at h
  obtain ⟨rfl, rfl, rfl, rfl⟩ := h
  exact impl_fieldOf.below_ a0 w c
 rw [if_neg c] at h
 by_cases d : a0 ≥ 9
 ·rw [if_pos d] at h
  simp only [Option.some.injEq, Prod.mk.injEq] at h
  obtain ⟨rfl, rfl, rfl, rfl⟩ := h
  exact impl_fieldOf.above_ a0 w c d
 rw [if_neg d] at h
 by_cases e0 : a0 = 0
 ·rw [if_pos e0] at h
  subst e0
  simp only [Option.some.injEq, Prod.mk.injEq] at h
  obtain ⟨rfl, rfl, rfl, rfl⟩ := h
  exact impl_fieldOf.in_ 0 _ _ _ w (by decide) (by decide) ⟨⟨rfl, rfl, rfl⟩⟩
 rw [if_neg e0] at h
 by_cases e1 : a0 = 1
 ·rw [if_pos e1] at h
  subst e1
  simp only [Option.some.injEq, Prod.mk.injEq] at h
  obtain ⟨rfl, rfl, rfl, rfl⟩ := h
  exact impl_fieldOf.in_ 1 _ _ _ w (by decide) (by decide) ⟨⟨rfl, rfl, rfl⟩⟩
 rw [if_neg e1] at h
 by_cases e2 : a0 = 2
 ·rw [if_pos e2] at h
  subst e2
  simp only [Option.some.injEq, Prod.mk.injEq] at h
  obtain ⟨rfl, rfl, rfl, rfl⟩ := h
  exact impl_fieldOf.in_ 2 _ _ _ w (by decide) (by decide) ⟨⟨rfl, rfl, rfl⟩⟩
 rw [if_neg e2] at h
 by_cases e3 : a0 = 3
 ·rw [if_pos e3] at h
  subst e3
  simp only [Option.some.injEq, Prod.mk.injEq] at h
  obtain ⟨rfl, rfl, rfl, rfl⟩ := h
  exact impl_fieldOf.in_ 3 _ _ _ w (by decide) (by decide) ⟨⟨rfl, rfl, rfl⟩⟩
 rw [if_neg e3] at h
 by_cases e4 : a0 = 4
 ·rw [if_pos e4] at h
  subst e4
  simp only [Option.some.injEq, Prod.mk.injEq] at h
  obtain ⟨rfl, rfl, rfl, rfl⟩ := h
  exact impl_fieldOf.in_ 4 _ _ _ w (by decide) (by decide) ⟨⟨rfl, rfl, rfl⟩⟩
 rw [if_neg e4] at h
 by_cases e5 : a0 = 5
 ·rw [if_pos e5] at h
  subst e5
  simp only [Option.some.injEq, Prod.mk.injEq] at h
  obtain ⟨rfl, rfl, rfl, rfl⟩ := h
  exact impl_fieldOf.in_ 5 _ _ _ w (by decide) (by decide) ⟨⟨rfl, rfl, rfl⟩⟩
 rw [if_neg e5] at h
 by_cases e6 : a0 = 6
 ·rw [if_pos e6] at h
  subst e6
  simp only [Option.some.injEq, Prod.mk.injEq] at h
  obtain ⟨rfl, rfl, rfl, rfl⟩ := h
  exact impl_fieldOf.in_ 6 _ _ _ w (by decide) (by decide) ⟨⟨rfl, rfl, rfl⟩⟩
 rw [if_neg e6] at h
 by_cases e7 : a0 = 7
 ·rw [if_pos e7] at h
  subst e7
  simp only [Option.some.injEq, Prod.mk.injEq] at h
  obtain ⟨rfl, rfl, rfl, rfl⟩ := h
  exact impl_fieldOf.in_ 7 _ _ _ w (by decide) (by decide) ⟨⟨rfl, rfl, rfl⟩⟩
 rw [if_neg e7] at h
 obtain rfl : a0 = 8 := by omega
 simp only [Option.some.injEq, Prod.mk.injEq] at h
 obtain ⟨rfl, rfl, rfl, rfl⟩ := h
 exact impl_fieldOf.in_ 8 _ _ _ w (by decide) (by decide) ⟨⟨rfl, rfl, rfl⟩⟩

/-! ### impl_areWords: function 179 -/
def impl_areWords.l0 : Nat → List Int → List Int → Int → Int → Option (Bool)
 | 0, _, _, _, _ => none
 | k + 1, x0, x5, x6, x7 => if x7 < x6 then (if 0 ≤ x7 then (if x7 < (x5.length : Int) then (if (rd x5 x7) < (-1099511627776) then (some false) else (if (rd x5 x7) > 1099511627776 then (some false) else (impl_areWords.l0 k x0 x5 x6 (wrap64 (x7 + 1))))) else (none)) else (none)) else (some (decide ((x0.length : Int) ≤ 400)))
def impl_areWords.f (k : Nat) (l0 : List Int) : Option (Bool) := impl_areWords.l0 k l0 l0 (l0.length : Int) 0
theorem impl_areWords.mono_l : ∀ k, (∀ y0 y1 y2 y3, LeO (impl_areWords.l0 k y0 y1 y2 y3) (impl_areWords.l0 (k + 1) y0 y1 y2 y3))
 | 0 => fun _ _ _ _ r h => by simp [impl_areWords.l0] at h
 | k + 1 => by
  have ih0 := impl_areWords.mono_l k
  ·intro y0 y1 y2 y3
   unfold impl_areWords.l0
   repeat' first
   | (with_reducible exact ih0 _ _ _ _)
   | (with_reducible exact LeO.refl _)
   | (with_reducible exact LeO.none _)
   | (with_reducible refine LeO.ite ?_ ?_)
   | (with_reducible refine LeO.bind ?_ (fun _ => ?_))
   | exact ih0 _ _ _ _
   | exact LeO.none _
   | refine LeO.ite ?_ ?_
   | refine LeO.bind ?_ (fun _ => ?_)
theorem impl_areWords.mono : ∀ a0 k, LeO (impl_areWords.f k a0) (impl_areWords.f (k + 1) a0) := by
 intro a0 k
 have ih0 := impl_areWords.mono_l k
 unfold impl_areWords.f
 repeat' first
   | (with_reducible exact ih0 _ _ _ _)
   | (with_reducible exact LeO.refl _)
   | (with_reducible exact LeO.none _)
   | (with_reducible refine LeO.ite ?_ ?_)
   | (with_reducible refine LeO.bind ?_ (fun _ => ?_))
   | exact ih0 _ _ _ _
   | exact LeO.none _
   | refine LeO.ite ?_ ?_
   | refine LeO.bind ?_ (fun _ => ?_)
set_option maxHeartbeats 8000000 in
set_option maxRecDepth 100000 in
theorem impl_areWords.calls (k : Nat) (A0 : Option Addr) (c0 : Nat) (l0 : List Int) (r : Bool) (w : World) (hr0 : Kd.C (Kd.int .i64) w A0 l0.length l0) (hc0 : l0.length ≤ c0) (h : impl_areWords.f k l0 = some r) :
  Calls Try.prog 179 #[.slice A0 l0.length c0] w fun e w' => e = .returned (.bool r) ∧ Drawn0 w w' := by
 have HR0 := Aside0.mk hr0
 have HC0 := Aside0.mk hc0
 clear hr0 hc0
 have H : (impl_areWords.l0 k l0 l0 (l0.length : Int) 0) = some r := h
 clear h
 have H' := Aside0.mk H
 clear H
 go_enter Try.func179, Try.ntmps179
 go_wp2
 go_loopg [7] k (fun kq v7 w' => ∃ (x7_1 : Int), v7 = .int .i64 x7_1 ∧ Aside0 (impl_areWords.l0 kq l0 l0 (l0.length : Int) x7_1 = some r) ∧ Aside0 (kq ≤ k) ∧ Drawn0 w w')
 case atStart => exact ⟨(0), zF, H', ⟨Nat.le_refl _⟩, by repeat (first | exact Drawn0.refl _ | apply Drawn0.step)⟩
 case round =>
  clear H'
  (try clear c1)
  obtain ⟨x7_1, rfl, HA, HK1, ⟨m1, rfl⟩⟩ := hrel
  cases gk with
  | zero => exact absurd HA.out (by simp [impl_areWords.l0])
  | succ k1 =>
   have H := HA.out
   clear HA
   simp only [impl_areWords.l0] at H
   by_cases c2 : x7_1 < (l0.length : Int)
   ·rw [if_pos c2] at H
    have c2b0 : decide (x7_1 < (l0.length : Int)) = true := decide_eq_true c2
    clear c2
    by_cases c3 : 0 ≤ x7_1
    ·rw [if_pos c3] at H
     have c3b0 : decide (0 ≤ x7_1) = true := decide_eq_true c3
     clear c3
     by_cases c4 : x7_1 < (l0.length : Int)
     ·rw [if_pos c4] at H
      have c4b0 : decide (x7_1 < (l0.length : Int)) = true := decide_eq_true c4
      clear c4
      by_cases c5 : (rd l0 x7_1) < (-1099511627776)
      ·rw [if_pos c5] at H
       have c5b0 : decide ((rd l0 x7_1) < (-1099511627776)) = true := decide_eq_true c5
       clear c5
       obtain rfl := Option.some.inj H
       have p282 : 0 ≤ (x7_1 : Int) := zD
       have q282 : x7_1 < (l0.length : Int) := zD
       obtain ⟨ad282, e282, hx282_0⟩ := Kd.at_int HR0.out x7_1 p282 q282
       cases e282
       replace p282 := eq_true p282
       replace q282 := eq_true q282
       go_wp2
       go_ret
       exact ⟨zF, by repeat (first | exact Drawn0.refl _ | apply Drawn0.step)⟩
      ·rw [if_neg c5] at H
       have c5b0 : decide ((rd l0 x7_1) < (-1099511627776)) = false := decide_eq_false c5
       clear c5
       by_cases c6 : (rd l0 x7_1) > 1099511627776
       ·rw [if_pos c6] at H
        have c6b0 : decide (1099511627776 < (rd l0 x7_1)) = true := decide_eq_true c6
        clear c6
        obtain rfl := Option.some.inj H
        have p282 : 0 ≤ (x7_1 : Int) := zD
        have q282 : x7_1 < (l0.length : Int) := zD
        obtain ⟨ad282, e282, hx282_0⟩ := Kd.at_int HR0.out x7_1 p282 q282
        cases e282
        replace p282 := eq_true p282
        replace q282 := eq_true q282
        go_wp2
        go_ret
        exact ⟨zF, by repeat (first | exact Drawn0.refl _ | apply Drawn0.step)⟩
       ·rw [if_neg c6] at H
        have c6b0 : decide (1099511627776 < (rd l0 x7_1)) = false := decide_eq_false c6
        clear c6
        have H' := Aside0.mk H
        clear H
        have p282 : 0 ≤ (x7_1 : Int) := zD
        have q282 : x7_1 < (l0.length : Int) := zD
        obtain ⟨ad282, e282, hx282_0⟩ := Kd.at_int HR0.out x7_1 p282 q282
        cases e282
        replace p282 := eq_true p282
        replace q282 := eq_true q282
        go_wp2
        go_roundg k1
        case measure => have := HK1.out; omega
        case rel => exact ⟨(wrap64 (x7_1 + 1)), zF, H', ⟨by have := HK1.out; omega⟩, by repeat (first | exact Drawn0.refl _ | apply Drawn0.step)⟩
     ·rw [if_neg c4] at H
      exact absurd H (by simp)
    ·rw [if_neg c3] at H
     exact absurd H (by simp)
   ·rw [if_neg c2] at H
    have c2b0 : decide (x7_1 < (l0.length : Int)) = false := decide_eq_false c2
    clear c2
    obtain rfl := Option.some.inj H
    go_wp2
    go_ret
    exact ⟨zF, by repeat (first | exact Drawn0.refl _ | apply Drawn0.step)⟩

/-! ### impl_usesB: function 180 -/
def impl_usesB.f (a0 : Int) : Option (Bool) := if a0 = 1 then (some false) else (if a0 = 2 then (some false) else (some (a0 != 7)))
set_option maxHeartbeats 8000000 in
set_option maxRecDepth 100000 in
theorem impl_usesB.calls (a0 : Int) (r : Bool) (w : World) (h : impl_usesB.f a0 = some r) :
  Calls Try.prog 180 #[.int .i64 a0] w fun e w' => e = .returned (.bool r) ∧ Drawn0 w w' := by
 have H : (if a0 = 1 then (some false) else (if a0 = 2 then (some false) else (some (a0 != 7)))) = some r := h
 clear h
 by_cases c2 : a0 = 1
 ·rw [if_pos c2] at H
  have c2b0 : (a0 == 1) = true := beq_iff_eq.mpr c2
  have c2b1 : (a0 != 1) = false := bne_eq_false_iff_eq.mpr c2
  clear c2
  obtain rfl := Option.some.inj H
  go_enter Try.func180, Try.ntmps180
  go_wp2
  go_ret
  exact ⟨zF, by repeat (first | exact Drawn0.refl _ | apply Drawn0.step)⟩
 ·rw [if_neg c2] at H
  have c2b0 : (a0 == 1) = false := beq_eq_false_iff_ne.mpr c2
  have c2b1 : (a0 != 1) = true := bne_iff_ne.mpr c2
  by_cases c3 : a0 = 2
  ·rw [if_pos c3] at H
   have c3b0 : (a0 == 2) = true := beq_iff_eq.mpr c3
   have c3b1 : (a0 != 2) = false := bne_eq_false_iff_eq.mpr c3
   clear c3
   obtain rfl := Option.some.inj H
   go_enter Try.func180, Try.ntmps180
   go_wp2
   go_ret
   exact ⟨zF, by repeat (first | exact Drawn0.refl _ | apply Drawn0.step)⟩
  ·rw [if_neg c3] at H
   have c3b0 : (a0 == 2) = false := beq_eq_false_iff_ne.mpr c3
   have c3b1 : (a0 != 2) = true := bne_iff_ne.mpr c3
   obtain rfl := Option.some.inj H
   go_enter Try.func180, Try.ntmps180
   go_wp2
   go_ret
   exact ⟨zF, by repeat (first | exact Drawn0.refl _ | apply Drawn0.step)⟩

/-! ### impl_isJob: function 168 -/
def impl_isJob.j0 : Nat → Bool → Int → Int → List Int → List Int → Int → Option (Bool)
 | 0, _, _, _, _, _, _ => none
 | k + 1, x32, x284000, x284001, x284002, x284003, x284004 => if x32 = true then (some false) else ((impl_areWords.f k x284002).bind fun t289 => (if t289 = true then ((impl_areWords.f k x284003).bind fun t290 => (if t290 = true then (if x284004 < 0 then (some false) else (if x284004 > 400 then (some false) else ((impl_usesB.f x284000).bind fun t291 => (if t291 = true then (if x284000 = 11 then (some true) else (some (x284004 == 0))) else (if (x284003.length : Int) = 0 then (if x284000 = 11 then (some true) else (some (x284004 == 0))) else (some false)))))) else (some false))) else (some false)))
def impl_isJob.f (k : Nat) (a0_0 : Int) (a0_1 : Int) (l0_2 : List Int) (l0_3 : List Int) (a0_4 : Int) : Option (Bool) := (impl_fieldOf.f a0_1).bind fun bt284 => (if bt284.2.2.2 = true then (if a0_0 < 1 then (impl_isJob.j0 k true a0_0 a0_1 l0_2 l0_3 a0_4) else (if a0_0 > 11 then (impl_isJob.j0 k true a0_0 a0_1 l0_2 l0_3 a0_4) else (if a0_0 = 6 then (impl_isJob.j0 k (a0_1 != 0) a0_0 a0_1 l0_2 l0_3 a0_4) else (impl_isJob.j0 k false a0_0 a0_1 l0_2 l0_3 a0_4)))) else (impl_isJob.j0 k true a0_0 a0_1 l0_2 l0_3 a0_4))
theorem impl_isJob.mono_l : ∀ k, (∀ y0 y1 y2 y3 y4 y5, LeO (impl_isJob.j0 k y0 y1 y2 y3 y4 y5) (impl_isJob.j0 (k + 1) y0 y1 y2 y3 y4 y5))
 | 0 => fun _ _ _ _ _ _ r h => by simp [impl_isJob.j0] at h
 | k + 1 => by
  have ih0 := impl_isJob.mono_l k
  ·intro y0 y1 y2 y3 y4 y5
   unfold impl_isJob.j0
   repeat' first
   | (with_reducible exact ih0 _ _ _ _ _ _)
   | (with_reducible exact impl_areWords.mono _ _)
   | (with_reducible exact LeO.refl _)
   | (with_reducible exact LeO.none _)
   | (with_reducible refine LeO.ite ?_ ?_)
   | (with_reducible refine LeO.bind ?_ (fun _ => ?_))
   | exact ih0 _ _ _ _ _ _
   | exact impl_areWords.mono _ _
   | exact LeO.none _
   | refine LeO.ite ?_ ?_
   | refine LeO.bind ?_ (fun _ => ?_)
theorem impl_isJob.mono : ∀ a0 a1 a2 a3 a4 k, LeO (impl_isJob.f k a0 a1 a2 a3 a4) (impl_isJob.f (k + 1) a0 a1 a2 a3 a4) := by
 intro a0 a1 a2 a3 a4 k
 have ih0 := impl_isJob.mono_l k
 unfold impl_isJob.f
 repeat' first
   | (with_reducible exact ih0 _ _ _ _ _ _)
   | (with_reducible exact impl_areWords.mono _ _)
   | (with_reducible exact LeO.refl _)
   | (with_reducible exact LeO.none _)
   | (with_reducible refine LeO.ite ?_ ?_)
   | (with_reducible refine LeO.bind ?_ (fun _ => ?_))
   | exact ih0 _ _ _ _ _ _
   | exact impl_areWords.mono _ _
   | exact LeO.none _
   | refine LeO.ite ?_ ?_
   | refine LeO.bind ?_ (fun _ => ?_)
set_option maxHeartbeats 8000000 in
set_option maxRecDepth 100000 in
theorem impl_isJob.calls (k : Nat) (a0_0 : Int) (a0_1 : Int) (A0_2 : Option Addr) (c0_2 : Nat) (l0_2 : List Int) (A0_3 : Option Addr) (c0_3 : Nat) (l0_3 : List Int) (a0_4 : Int) (r : Bool) (w : World) (hr0_2 : Kd.C (Kd.int .i64) w A0_2 l0_2.length l0_2) (hc0_2 : l0_2.length ≤ c0_2) (hr0_3 : Kd.C (Kd.int .i64) w A0_3 l0_3.length l0_3) (hc0_3 : l0_3.length ≤ c0_3) (h : impl_isJob.f k a0_0 a0_1 l0_2 l0_3 a0_4 = some r) :
  Calls Try.prog 168 #[.agg #[.int .i64 a0_0, .int .i64 a0_1, .slice A0_2 l0_2.length c0_2, .slice A0_3 l0_3.length c0_3, .int .i64 a0_4]] w fun e w' => e = .returned (.bool r) ∧ Below w.heap.size w w' := by
 have hu99 := Try.underlying99
 have hu88 := Try.underlying88
 have HR0_2 := Aside0.mk hr0_2
 have HC0_2 := Aside0.mk hc0_2
 clear hr0_2 hc0_2
 have HR0_3 := Aside0.mk hr0_3
 have HC0_3 := Aside0.mk hc0_3
 clear hr0_3 hc0_3
 have HB := Aside0.mk (Below.refl w.heap.size w)
 have H : ((impl_fieldOf.f a0_1).bind fun bt284 => (if bt284.2.2.2 = true then (if a0_0 < 1 then (impl_isJob.j0 k true a0_0 a0_1 l0_2 l0_3 a0_4) else (if a0_0 > 11 then (impl_isJob.j0 k true a0_0 a0_1 l0_2 l0_3 a0_4) else (if a0_0 = 6 then (impl_isJob.j0 k (a0_1 != 0) a0_0 a0_1 l0_2 l0_3 a0_4) else (impl_isJob.j0 k false a0_0 a0_1 l0_2 l0_3 a0_4)))) else (impl_isJob.j0 k true a0_0 a0_1 l0_2 l0_3 a0_4))) = some r := h
 clear h
 replace H := Option.bind_eq_some_iff.mp H
 obtain ⟨⟨t284, t285, t286, t287⟩, A20, H⟩ := H
 replace H : (if t287 = true then (if a0_0 < 1 then (impl_isJob.j0 k true a0_0 a0_1 l0_2 l0_3 a0_4) else (if a0_0 > 11 then (impl_isJob.j0 k true a0_0 a0_1 l0_2 l0_3 a0_4) else (if a0_0 = 6 then (impl_isJob.j0 k (a0_1 != 0) a0_0 a0_1 l0_2 l0_3 a0_4) else (impl_isJob.j0 k false a0_0 a0_1 l0_2 l0_3 a0_4)))) else (impl_isJob.j0 k true a0_0 a0_1 l0_2 l0_3 a0_4)) = some r := H
 have A2 := Aside0.mk A20
 clear A20
 have HC3 := Aside0.mk H
 clear H
 go_enter Try.func168, Try.ntmps168
 go_upto_region 2 with (first | ((with_reducible refine gate_dst (N := 1) rfl ?_); (try (refine gate_guard (by rfl) ?_; dsimp only)); refine box_event ?hg (N := 1) ?hd (cs := #[.int .i64 a0_0, .int .i64 a0_1, .slice A0_2 l0_2.length c0_2, .slice A0_3 l0_3.length c0_3, .int .i64 a0_4]) (t := 99) ?hr ?_; (case hd => rfl); (case hg => rfl); (case hr => first | (go_simp; done) | (go_simp; rfl)); intro gb283 hg w4 hbox hb; have n0_ := Aside0.mk (below_step zH hb); have n1_ := Aside0.mk (hbox); have n2_ := Aside0.mk ((by rw [hg]; exact (below_size zH) : w.heap.size ≤ gb283)); have n3_ := Aside0.mk ((by rw [hg]; exact (below_size zH) : w.heap.size ≤ gb283)); clear HB; have HB := n0_; have BK283 := n1_; have GW283 := n2_; have GE283 := n3_; clear n0_ n1_ n2_ n3_; clear hb hbox hg; obtain ⟨hcz5_0, hcz5_1, hcz5_2, hcz5_3, hcz5_4⟩ := zc5 BK283.out; obtain ⟨hfz5_0, hfz5_1, hfz5_2, hfz5_3, hfz5_4⟩ := zf BK283.out) | ((with_reducible refine gate_callee (f := 122) rfl ?_); refine goesL_ (some 8) rfl rfl Try.func122 (by kernel_rfl) rfl #[.int .i64 a0_1] rfl zM ?_; (with_reducible refine (impl_fieldOf.calls a0_1 t284 t285 t286 t287 _ A2.out).mono ?_); rintro e w6 ⟨rfl, hb⟩; refine ⟨_, rfl, ?_⟩; have n0_ := Aside0.mk (blk_below (g := gb283) (o := .cells #[.int .i64 a0_0, .int .i64 a0_1, .slice A0_2 l0_2.length c0_2, .slice A0_3 l0_3.length c0_3, .int .i64 a0_4] 99 (0, 0)) (zB BK283.out) hb); have n1_ := Aside0.mk (below_step zH hb); clear BK283; clear HB; have BK283 := n0_; have HB := n1_; clear n0_ n1_; (try clear hb); (try clear hb2); (try clear hk); (try clear hi)) | ((with_reducible refine gate_dst (N := 3) rfl ?_); (try (refine gate_guard (by rfl) ?_; dsimp only)); refine box_event ?hg (N := 3) ?hd (cs := #[.int .i64 0, .int .i64 0, .int .i64 0]) (t := 88) ?hr ?_; (case hd => rfl); (case hg => rfl); (case hr => first | (go_simp; done) | (go_simp; rfl)); intro gb288 hg w7 hbox hb; have n0_ := Aside0.mk (blk_below (g := gb283) (o := .cells #[.int .i64 a0_0, .int .i64 a0_1, .slice A0_2 l0_2.length c0_2, .slice A0_3 l0_3.length c0_3, .int .i64 a0_4] 99 (0, 0)) (zB BK283.out) hb); have n1_ := Aside0.mk (below_step zH hb); have n2_ := Aside0.mk (hbox); have n3_ := Aside0.mk ((by rw [hg]; exact (below_size zH) : w.heap.size ≤ gb288)); have n4_ := Aside0.mk ((by rw [hg]; exact (below_size zH) : w.heap.size ≤ gb288)); have n5_ := Aside0.mk ((by rw [hg]; exact Nat.ne_of_lt (blk_lt (g := gb283) (o := .cells #[.int .i64 a0_0, .int .i64 a0_1, .slice A0_2 l0_2.length c0_2, .slice A0_3 l0_3.length c0_3, .int .i64 a0_4] 99 (0, 0)) (zB BK283.out)) : gb283 ≠ gb288)); have n6_ := Aside0.mk ((by rw [hg]; exact Nat.ne_of_gt (blk_lt (g := gb283) (o := .cells #[.int .i64 a0_0, .int .i64 a0_1, .slice A0_2 l0_2.length c0_2, .slice A0_3 l0_3.length c0_3, .int .i64 a0_4] 99 (0, 0)) (zB BK283.out)) : gb288 ≠ gb283)); clear BK283; clear HB; have BK283 := n0_; have HB := n1_; have BK288 := n2_; have GW288 := n3_; have GE288 := n4_; have NB283_288 := n5_; have NB288_283 := n6_; clear n0_ n1_ n2_ n3_ n4_ n5_ n6_; clear hb hbox hg; have hnb8 := NB288_283.out; have hnc8 := NB283_288.out; obtain ⟨hcz9_0, hcz9_1, hcz9_2⟩ := zc3 BK288.out; obtain ⟨hfz9_0, hfz9_1, hfz9_2, _, _⟩ := zf BK288.out))
 (try simp only [Act.put, List.setIfInBounds_toArray, List.set_cons_zero, List.set_cons_succ])
 go_cut [32] (fun v32 wc => ∃ (kq : Nat) (x32_2 : Bool), v32 = .bool x32_2 ∧ Aside0 (impl_isJob.j0 kq x32_2 a0_0 a0_1 l0_2 l0_3 a0_4 = some r) ∧ Aside0 (kq ≤ k) ∧ Aside0 (wc.heap[gb283]? = some (.cells #[.int .i64 a0_0, .int .i64 a0_1, (.slice A0_2 l0_2.length c0_2), (.slice A0_3 l0_3.length c0_3), .int .i64 a0_4] 99 (0, 0))) ∧ Aside0 (wc.heap[gb288]? = some (.cells #[.int .i64 t284, .int .i64 t285, .int .i64 t286] 88 (0, 0))) ∧ Aside0 (Below w.heap.size w wc))
 case first =>
  have H := HC3.out
  clear HC3
  by_cases c10 : t287 = true
  ·subst c10
   replace H : (if a0_0 < 1 then (impl_isJob.j0 k true a0_0 a0_1 l0_2 l0_3 a0_4) else (if a0_0 > 11 then (impl_isJob.j0 k true a0_0 a0_1 l0_2 l0_3 a0_4) else (if a0_0 = 6 then (impl_isJob.j0 k (a0_1 != 0) a0_0 a0_1 l0_2 l0_3 a0_4) else (impl_isJob.j0 k false a0_0 a0_1 l0_2 l0_3 a0_4)))) = some r := by rw [if_pos rfl] at H; exact H
   by_cases c11 : a0_0 < 1
   ·rw [if_pos c11] at H
    have c11b0 : decide (a0_0 < 1) = true := decide_eq_true c11
    clear c11
    (first | rw [c11b0] | (simp only [i64_w, i32_w]; rw [c11b0]) | skip)
    have H' := Aside0.mk H
    clear H
    have hnb12 := NB283_288.out
    have hnc12 := NB288_283.out
    obtain ⟨hcz13_0, hcz13_1, hcz13_2, hcz13_3, hcz13_4⟩ := zc5 BK283.out
    obtain ⟨hfz13_0, hfz13_1, hfz13_2, hfz13_3, hfz13_4⟩ := zf BK283.out
    go_wp2
    go_meet
    case rel => exact ⟨_, (true), zF, H', ⟨by first | omega | exact Nat.le_refl _⟩, ⟨by (repeat refine zL ?_); refine blk_far ?_ NB283_288.out _; (repeat refine zL ?_); refine blk_far ?_ NB283_288.out _; (repeat refine zL ?_); refine blk_far ?_ NB283_288.out _; (repeat refine zL ?_); exact BK283.out⟩, ⟨by (repeat refine zL ?_); refine blk_put (cs := #[.int .i64 t284, .int .i64 t285, .int .i64 0]) ?_ 2 _ rfl; (repeat refine zL ?_); refine blk_put (cs := #[.int .i64 t284, .int .i64 0, .int .i64 0]) ?_ 1 _ rfl; (repeat refine zL ?_); refine blk_put (cs := #[.int .i64 0, .int .i64 0, .int .i64 0]) ?_ 0 _ rfl; (repeat refine zL ?_); exact BK288.out⟩, ⟨zH⟩⟩
   ·rw [if_neg c11] at H
    have c11b0 : decide (a0_0 < 1) = false := decide_eq_false c11
    clear c11
    (first | rw [c11b0] | (simp only [i64_w, i32_w]; rw [c11b0]) | skip)
    by_cases c14 : a0_0 > 11
    ·rw [if_pos c14] at H
     have c14b0 : decide (11 < a0_0) = true := decide_eq_true c14
     clear c14
     have H' := Aside0.mk H
     clear H
     have hnb15 := NB283_288.out
     have hnc15 := NB288_283.out
     obtain ⟨hcz16_0, hcz16_1, hcz16_2, hcz16_3, hcz16_4⟩ := zc5 BK283.out
     obtain ⟨hfz16_0, hfz16_1, hfz16_2, hfz16_3, hfz16_4⟩ := zf BK283.out
     go_wp2
     go_meet
     case rel => exact ⟨_, (true), zF, H', ⟨by first | omega | exact Nat.le_refl _⟩, ⟨by (repeat refine zL ?_); refine blk_far ?_ NB283_288.out _; (repeat refine zL ?_); refine blk_far ?_ NB283_288.out _; (repeat refine zL ?_); refine blk_far ?_ NB283_288.out _; (repeat refine zL ?_); exact BK283.out⟩, ⟨by (repeat refine zL ?_); refine blk_put (cs := #[.int .i64 t284, .int .i64 t285, .int .i64 0]) ?_ 2 _ rfl; (repeat refine zL ?_); refine blk_put (cs := #[.int .i64 t284, .int .i64 0, .int .i64 0]) ?_ 1 _ rfl; (repeat refine zL ?_); refine blk_put (cs := #[.int .i64 0, .int .i64 0, .int .i64 0]) ?_ 0 _ rfl; (repeat refine zL ?_); exact BK288.out⟩, ⟨zH⟩⟩
    ·rw [if_neg c14] at H
     have c14b0 : decide (11 < a0_0) = false := decide_eq_false c14
     clear c14
     by_cases c17 : a0_0 = 6
     ·rw [if_pos c17] at H
      have c17b0 : (a0_0 == 6) = true := beq_iff_eq.mpr c17
      have c17b1 : (a0_0 != 6) = false := bne_eq_false_iff_eq.mpr c17
      clear c17
      have H' := Aside0.mk H
      clear H
      have hnb18 := NB283_288.out
      have hnc18 := NB288_283.out
      obtain ⟨hcz19_0, hcz19_1, hcz19_2, hcz19_3, hcz19_4⟩ := zc5 BK283.out
      obtain ⟨hfz19_0, hfz19_1, hfz19_2, hfz19_3, hfz19_4⟩ := zf BK283.out
      go_wp2
      go_meet
      case rel => exact ⟨_, ((a0_1 != 0)), zF, H', ⟨by first | omega | exact Nat.le_refl _⟩, ⟨by (repeat refine zL ?_); refine blk_far ?_ NB283_288.out _; (repeat refine zL ?_); refine blk_far ?_ NB283_288.out _; (repeat refine zL ?_); refine blk_far ?_ NB283_288.out _; (repeat refine zL ?_); exact BK283.out⟩, ⟨by (repeat refine zL ?_); refine blk_put (cs := #[.int .i64 t284, .int .i64 t285, .int .i64 0]) ?_ 2 _ rfl; (repeat refine zL ?_); refine blk_put (cs := #[.int .i64 t284, .int .i64 0, .int .i64 0]) ?_ 1 _ rfl; (repeat refine zL ?_); refine blk_put (cs := #[.int .i64 0, .int .i64 0, .int .i64 0]) ?_ 0 _ rfl; (repeat refine zL ?_); exact BK288.out⟩, ⟨zH⟩⟩
     ·rw [if_neg c17] at H
      have c17b0 : (a0_0 == 6) = false := beq_eq_false_iff_ne.mpr c17
      have c17b1 : (a0_0 != 6) = true := bne_iff_ne.mpr c17
      have H' := Aside0.mk H
      clear H
      have hnb20 := NB283_288.out
      have hnc20 := NB288_283.out
      obtain ⟨hcz21_0, hcz21_1, hcz21_2, hcz21_3, hcz21_4⟩ := zc5 BK283.out
      obtain ⟨hfz21_0, hfz21_1, hfz21_2, hfz21_3, hfz21_4⟩ := zf BK283.out
      go_wp2
      go_meet
      case rel => exact ⟨_, (false), zF, H', ⟨by first | omega | exact Nat.le_refl _⟩, ⟨by (repeat refine zL ?_); refine blk_far ?_ NB283_288.out _; (repeat refine zL ?_); refine blk_far ?_ NB283_288.out _; (repeat refine zL ?_); refine blk_far ?_ NB283_288.out _; (repeat refine zL ?_); exact BK283.out⟩, ⟨by (repeat refine zL ?_); refine blk_put (cs := #[.int .i64 t284, .int .i64 t285, .int .i64 0]) ?_ 2 _ rfl; (repeat refine zL ?_); refine blk_put (cs := #[.int .i64 t284, .int .i64 0, .int .i64 0]) ?_ 1 _ rfl; (repeat refine zL ?_); refine blk_put (cs := #[.int .i64 0, .int .i64 0, .int .i64 0]) ?_ 0 _ rfl; (repeat refine zL ?_); exact BK288.out⟩, ⟨zH⟩⟩
  ·replace c10 := Bool.eq_false_iff.mpr c10
   subst c10
   replace H : (impl_isJob.j0 k true a0_0 a0_1 l0_2 l0_3 a0_4) = some r := by rw [if_neg (show ¬ (false = true) by decide)] at H; exact H
   have H' := Aside0.mk H
   clear H
   go_wp2
   go_meet
   case rel => exact ⟨_, (true), zF, H', ⟨by first | omega | exact Nat.le_refl _⟩, ⟨by (repeat refine zL ?_); refine blk_far ?_ NB283_288.out _; (repeat refine zL ?_); refine blk_far ?_ NB283_288.out _; (repeat refine zL ?_); refine blk_far ?_ NB283_288.out _; (repeat refine zL ?_); exact BK283.out⟩, ⟨by (repeat refine zL ?_); refine blk_put (cs := #[.int .i64 t284, .int .i64 t285, .int .i64 0]) ?_ 2 _ rfl; (repeat refine zL ?_); refine blk_put (cs := #[.int .i64 t284, .int .i64 0, .int .i64 0]) ?_ 1 _ rfl; (repeat refine zL ?_); refine blk_put (cs := #[.int .i64 0, .int .i64 0, .int .i64 0]) ?_ 0 _ rfl; (repeat refine zL ?_); exact BK288.out⟩, ⟨zH⟩⟩
 case rest =>
  clear HC3
  (try clear c1);(try clear c2);(try clear p2);(try clear c8);(try clear c10);(try clear c11);(try clear c11b0);(try clear c12);(try clear c14);(try clear c14b0);(try clear c15);(try clear c16);(try clear c17);(try clear c17b0);(try clear c17b1);(try clear c18);(try clear c20);(try clear hcz13_0);(try clear hcz13_1);(try clear hcz13_2);(try clear hcz13_3);(try clear hcz13_4);(try clear hcz16_0);(try clear hcz16_1);(try clear hcz16_2);(try clear hcz16_3)
  (try clear hcz16_4);(try clear hcz19_0);(try clear hcz19_1);(try clear hcz19_2);(try clear hcz19_3);(try clear hcz19_4);(try clear hcz21_0);(try clear hcz21_1);(try clear hcz21_2);(try clear hcz21_3);(try clear hcz21_4);(try clear hcz5_0);(try clear hcz5_1);(try clear hcz5_2);(try clear hcz5_3);(try clear hcz5_4);(try clear hcz9_0);(try clear hcz9_1);(try clear hcz9_2);(try clear hfz13_0);(try clear hfz13_1);(try clear hfz13_2);(try clear hfz13_3)
  (try clear hfz13_4);(try clear hfz16_0);(try clear hfz16_1);(try clear hfz16_2);(try clear hfz16_3);(try clear hfz16_4);(try clear hfz19_0);(try clear hfz19_1);(try clear hfz19_2);(try clear hfz19_3);(try clear hfz19_4);(try clear hfz21_0);(try clear hfz21_1);(try clear hfz21_2);(try clear hfz21_3);(try clear hfz21_4);(try clear hfz5_0);(try clear hfz5_1);(try clear hfz5_2);(try clear hfz5_3);(try clear hfz5_4);(try clear hfz9_0);(try clear hfz9_1)
  (try clear hfz9_2)
  obtain ⟨kq, x32_2, rfl, HA, HJ2, BK283, BK288, HB⟩ := hcut
  cases kq with
  | zero => exact absurd HA.out (by simp [impl_isJob.j0])
  | succ kj2 =>
   have H := HA.out
   clear HA
   simp only [impl_isJob.j0] at H
   by_cases c22 : x32_2 = true
   ·subst c22
    replace H : (some false) = some r := by rw [if_pos rfl] at H; exact H
    obtain rfl := Option.some.inj H
    go_wp2
    go_ret
    exact ⟨zE, zH⟩
   ·replace c22 := Bool.eq_false_iff.mpr c22
    subst c22
    replace H : ((impl_areWords.f kj2 l0_2).bind fun t289 => (if t289 = true then ((impl_areWords.f kj2 l0_3).bind fun t290 => (if t290 = true then (if a0_4 < 0 then (some false) else (if a0_4 > 400 then (some false) else ((impl_usesB.f a0_0).bind fun t291 => (if t291 = true then (if a0_0 = 11 then (some true) else (some (a0_4 == 0))) else (if (l0_3.length : Int) = 0 then (if a0_0 = 11 then (some true) else (some (a0_4 == 0))) else (some false)))))) else (some false))) else (some false))) = some r := by rw [if_neg (show ¬ (false = true) by decide)] at H; exact H
    replace H := Option.bind_eq_some_iff.mp H
    obtain ⟨t289, A230, H⟩ := H
    replace H : (if t289 = true then ((impl_areWords.f kj2 l0_3).bind fun t290 => (if t290 = true then (if a0_4 < 0 then (some false) else (if a0_4 > 400 then (some false) else ((impl_usesB.f a0_0).bind fun t291 => (if t291 = true then (if a0_0 = 11 then (some true) else (some (a0_4 == 0))) else (if (l0_3.length : Int) = 0 then (if a0_0 = 11 then (some true) else (some (a0_4 == 0))) else (some false)))))) else (some false))) else (some false)) = some r := H
    have A23 := Aside0.mk A230
    clear A230
    by_cases c24 : t289 = true
    ·subst c24
     replace H : ((impl_areWords.f kj2 l0_3).bind fun t290 => (if t290 = true then (if a0_4 < 0 then (some false) else (if a0_4 > 400 then (some false) else ((impl_usesB.f a0_0).bind fun t291 => (if t291 = true then (if a0_0 = 11 then (some true) else (some (a0_4 == 0))) else (if (l0_3.length : Int) = 0 then (if a0_0 = 11 then (some true) else (some (a0_4 == 0))) else (some false)))))) else (some false))) = some r := by rw [if_pos rfl] at H; exact H
     replace H := Option.bind_eq_some_iff.mp H
     obtain ⟨t290, A250, H⟩ := H
     replace H : (if t290 = true then (if a0_4 < 0 then (some false) else (if a0_4 > 400 then (some false) else ((impl_usesB.f a0_0).bind fun t291 => (if t291 = true then (if a0_0 = 11 then (some true) else (some (a0_4 == 0))) else (if (l0_3.length : Int) = 0 then (if a0_0 = 11 then (some true) else (some (a0_4 == 0))) else (some false)))))) else (some false)) = some r := H
     have A25 := Aside0.mk A250
     clear A250
     by_cases c26 : t290 = true
     ·subst c26
      replace H : (if a0_4 < 0 then (some false) else (if a0_4 > 400 then (some false) else ((impl_usesB.f a0_0).bind fun t291 => (if t291 = true then (if a0_0 = 11 then (some true) else (some (a0_4 == 0))) else (if (l0_3.length : Int) = 0 then (if a0_0 = 11 then (some true) else (some (a0_4 == 0))) else (some false)))))) = some r := by rw [if_pos rfl] at H; exact H
      by_cases c27 : a0_4 < 0
      ·rw [if_pos c27] at H
       have c27b0 : decide (a0_4 < 0) = true := decide_eq_true c27
       clear c27
       obtain rfl := Option.some.inj H
       have hnb28 := NB283_288.out
       have hnc28 := NB288_283.out
       obtain ⟨hcz29_0, hcz29_1, hcz29_2, hcz29_3, hcz29_4⟩ := zc5 BK283.out
       obtain ⟨hfz29_0, hfz29_1, hfz29_2, hfz29_3, hfz29_4⟩ := zf BK283.out
       go_wp2_with (first | ((with_reducible refine gate_callee (f := 179) rfl ?_); refine goesL_ (some 35) rfl rfl Try.func179 (by kernel_rfl) rfl #[.slice A0_2 l0_2.length c0_2] rfl zM ?_; (with_reducible refine (impl_areWords.calls kj2 _ _ l0_2 true _ ?side1 ?side2 A23.out).mono ?_); (case side1 => exact zC (Kd.C_below HR0_2.out HB.out)); (case side2 => exact HC0_2.out); rintro e w' ⟨rfl, ⟨nd, rfl⟩⟩; refine ⟨_, rfl, ?_⟩) | (go_at_call 179; (with_reducible refine (impl_areWords.calls kj2 _ _ l0_3 true _ ?side1 ?side2 A25.out).mono ?_); (case side1 => exact zC (Kd.C_below HR0_3.out zH)); (case side2 => exact HC0_3.out); rintro e w' ⟨rfl, ⟨nd, rfl⟩⟩))
       go_ret
       exact ⟨zE, zH⟩
      ·rw [if_neg c27] at H
       have c27b0 : decide (a0_4 < 0) = false := decide_eq_false c27
       clear c27
       by_cases c30 : a0_4 > 400
       ·rw [if_pos c30] at H
        have c30b0 : decide (400 < a0_4) = true := decide_eq_true c30
        clear c30
        obtain rfl := Option.some.inj H
        have hnb31 := NB283_288.out
        have hnc31 := NB288_283.out
        obtain ⟨hcz32_0, hcz32_1, hcz32_2, hcz32_3, hcz32_4⟩ := zc5 BK283.out
        obtain ⟨hfz32_0, hfz32_1, hfz32_2, hfz32_3, hfz32_4⟩ := zf BK283.out
        go_wp2_with (first | ((with_reducible refine gate_callee (f := 179) rfl ?_); refine goesL_ (some 35) rfl rfl Try.func179 (by kernel_rfl) rfl #[.slice A0_2 l0_2.length c0_2] rfl zM ?_; (with_reducible refine (impl_areWords.calls kj2 _ _ l0_2 true _ ?side1 ?side2 A23.out).mono ?_); (case side1 => exact zC (Kd.C_below HR0_2.out HB.out)); (case side2 => exact HC0_2.out); rintro e w' ⟨rfl, ⟨nd, rfl⟩⟩; refine ⟨_, rfl, ?_⟩) | (go_at_call 179; (with_reducible refine (impl_areWords.calls kj2 _ _ l0_3 true _ ?side1 ?side2 A25.out).mono ?_); (case side1 => exact zC (Kd.C_below HR0_3.out zH)); (case side2 => exact HC0_3.out); rintro e w' ⟨rfl, ⟨nd, rfl⟩⟩))
        go_ret
        exact ⟨zE, zH⟩
       ·rw [if_neg c30] at H
        have c30b0 : decide (400 < a0_4) = false := decide_eq_false c30
        clear c30
        replace H := Option.bind_eq_some_iff.mp H
        obtain ⟨t291, A330, H⟩ := H
        replace H : (if t291 = true then (if a0_0 = 11 then (some true) else (some (a0_4 == 0))) else (if (l0_3.length : Int) = 0 then (if a0_0 = 11 then (some true) else (some (a0_4 == 0))) else (some false))) = some r := H
        have A33 := Aside0.mk A330
        clear A330
        by_cases c34 : t291 = true
        ·subst c34
         replace H : (if a0_0 = 11 then (some true) else (some (a0_4 == 0))) = some r := by rw [if_pos rfl] at H; exact H
         by_cases c35 : a0_0 = 11
         ·rw [if_pos c35] at H
          have c35b0 : (a0_0 == 11) = true := beq_iff_eq.mpr c35
          have c35b1 : (a0_0 != 11) = false := bne_eq_false_iff_eq.mpr c35
          clear c35
          obtain rfl := Option.some.inj H
          have hnb36 := NB283_288.out
          have hnc36 := NB288_283.out
          obtain ⟨hcz37_0, hcz37_1, hcz37_2, hcz37_3, hcz37_4⟩ := zc5 BK283.out
          obtain ⟨hfz37_0, hfz37_1, hfz37_2, hfz37_3, hfz37_4⟩ := zf BK283.out
          go_wp2_with (first | ((with_reducible refine gate_callee (f := 179) rfl ?_); refine goesL_ (some 35) rfl rfl Try.func179 (by kernel_rfl) rfl #[.slice A0_2 l0_2.length c0_2] rfl zM ?_; (with_reducible refine (impl_areWords.calls kj2 _ _ l0_2 true _ ?side1 ?side2 A23.out).mono ?_); (case side1 => exact zC (Kd.C_below HR0_2.out HB.out)); (case side2 => exact HC0_2.out); rintro e w' ⟨rfl, ⟨nd, rfl⟩⟩; refine ⟨_, rfl, ?_⟩) | (go_at_call 179; (with_reducible refine (impl_areWords.calls kj2 _ _ l0_3 true _ ?side1 ?side2 A25.out).mono ?_); (case side1 => exact zC (Kd.C_below HR0_3.out zH)); (case side2 => exact HC0_3.out); rintro e w' ⟨rfl, ⟨nd, rfl⟩⟩) | ((with_reducible refine gate_callee (f := 180) rfl ?_); refine goesL_ (some 55) rfl rfl Try.func180 (by kernel_rfl) rfl #[.int .i64 a0_0] rfl zM ?_; (with_reducible refine (impl_usesB.calls a0_0 true _ A33.out).mono ?_); rintro e w' ⟨rfl, ⟨nd, rfl⟩⟩; refine ⟨_, rfl, ?_⟩))
          go_ret
          exact ⟨zE, zH⟩
         ·rw [if_neg c35] at H
          have c35b0 : (a0_0 == 11) = false := beq_eq_false_iff_ne.mpr c35
          have c35b1 : (a0_0 != 11) = true := bne_iff_ne.mpr c35
          obtain rfl := Option.some.inj H
          have hnb38 := NB283_288.out
          have hnc38 := NB288_283.out
          obtain ⟨hcz39_0, hcz39_1, hcz39_2, hcz39_3, hcz39_4⟩ := zc5 BK283.out
          obtain ⟨hfz39_0, hfz39_1, hfz39_2, hfz39_3, hfz39_4⟩ := zf BK283.out
          go_wp2_with (first | ((with_reducible refine gate_callee (f := 179) rfl ?_); refine goesL_ (some 35) rfl rfl Try.func179 (by kernel_rfl) rfl #[.slice A0_2 l0_2.length c0_2] rfl zM ?_; (with_reducible refine (impl_areWords.calls kj2 _ _ l0_2 true _ ?side1 ?side2 A23.out).mono ?_); (case side1 => exact zC (Kd.C_below HR0_2.out HB.out)); (case side2 => exact HC0_2.out); rintro e w' ⟨rfl, ⟨nd, rfl⟩⟩; refine ⟨_, rfl, ?_⟩) | (go_at_call 179; (with_reducible refine (impl_areWords.calls kj2 _ _ l0_3 true _ ?side1 ?side2 A25.out).mono ?_); (case side1 => exact zC (Kd.C_below HR0_3.out zH)); (case side2 => exact HC0_3.out); rintro e w' ⟨rfl, ⟨nd, rfl⟩⟩) | ((with_reducible refine gate_callee (f := 180) rfl ?_); refine goesL_ (some 55) rfl rfl Try.func180 (by kernel_rfl) rfl #[.int .i64 a0_0] rfl zM ?_; (with_reducible refine (impl_usesB.calls a0_0 true _ A33.out).mono ?_); rintro e w' ⟨rfl, ⟨nd, rfl⟩⟩; refine ⟨_, rfl, ?_⟩))
          go_ret
          exact ⟨zE, zH⟩
        ·replace c34 := Bool.eq_false_iff.mpr c34
         subst c34
         replace H : (if (l0_3.length : Int) = 0 then (if a0_0 = 11 then (some true) else (some (a0_4 == 0))) else (some false)) = some r := by rw [if_neg (show ¬ (false = true) by decide)] at H; exact H
         by_cases c40 : (l0_3.length : Int) = 0
         ·rw [if_pos c40] at H
          have c40b0 : ((l0_3.length : Int) == 0) = true := beq_iff_eq.mpr c40
          have c40b1 : ((l0_3.length : Int) != 0) = false := bne_eq_false_iff_eq.mpr c40
          clear c40
          by_cases c41 : a0_0 = 11
          ·rw [if_pos c41] at H
           have c41b0 : (a0_0 == 11) = true := beq_iff_eq.mpr c41
           have c41b1 : (a0_0 != 11) = false := bne_eq_false_iff_eq.mpr c41
           clear c41
           obtain rfl := Option.some.inj H
           have hnb42 := NB283_288.out
           have hnc42 := NB288_283.out
           obtain ⟨hcz43_0, hcz43_1, hcz43_2, hcz43_3, hcz43_4⟩ := zc5 BK283.out
           obtain ⟨hfz43_0, hfz43_1, hfz43_2, hfz43_3, hfz43_4⟩ := zf BK283.out
           go_wp2_with (first | ((with_reducible refine gate_callee (f := 179) rfl ?_); refine goesL_ (some 35) rfl rfl Try.func179 (by kernel_rfl) rfl #[.slice A0_2 l0_2.length c0_2] rfl zM ?_; (with_reducible refine (impl_areWords.calls kj2 _ _ l0_2 true _ ?side1 ?side2 A23.out).mono ?_); (case side1 => exact zC (Kd.C_below HR0_2.out HB.out)); (case side2 => exact HC0_2.out); rintro e w' ⟨rfl, ⟨nd, rfl⟩⟩; refine ⟨_, rfl, ?_⟩) | (go_at_call 179; (with_reducible refine (impl_areWords.calls kj2 _ _ l0_3 true _ ?side1 ?side2 A25.out).mono ?_); (case side1 => exact zC (Kd.C_below HR0_3.out zH)); (case side2 => exact HC0_3.out); rintro e w' ⟨rfl, ⟨nd, rfl⟩⟩) | ((with_reducible refine gate_callee (f := 180) rfl ?_); refine goesL_ (some 55) rfl rfl Try.func180 (by kernel_rfl) rfl #[.int .i64 a0_0] rfl zM ?_; (with_reducible refine (impl_usesB.calls a0_0 false _ A33.out).mono ?_); rintro e w' ⟨rfl, ⟨nd, rfl⟩⟩; refine ⟨_, rfl, ?_⟩))
           go_ret
           exact ⟨zE, zH⟩
          ·rw [if_neg c41] at H
           have c41b0 : (a0_0 == 11) = false := beq_eq_false_iff_ne.mpr c41
           have c41b1 : (a0_0 != 11) = true := bne_iff_ne.mpr c41
           obtain rfl := Option.some.inj H
           have hnb44 := NB283_288.out
           have hnc44 := NB288_283.out
           obtain ⟨hcz45_0, hcz45_1, hcz45_2, hcz45_3, hcz45_4⟩ := zc5 BK283.out
           obtain ⟨hfz45_0, hfz45_1, hfz45_2, hfz45_3, hfz45_4⟩ := zf BK283.out
           go_wp2_with (first | ((with_reducible refine gate_callee (f := 179) rfl ?_); refine goesL_ (some 35) rfl rfl Try.func179 (by kernel_rfl) rfl #[.slice A0_2 l0_2.length c0_2] rfl zM ?_; (with_reducible refine (impl_areWords.calls kj2 _ _ l0_2 true _ ?side1 ?side2 A23.out).mono ?_); (case side1 => exact zC (Kd.C_below HR0_2.out HB.out)); (case side2 => exact HC0_2.out); rintro e w' ⟨rfl, ⟨nd, rfl⟩⟩; refine ⟨_, rfl, ?_⟩) | (go_at_call 179; (with_reducible refine (impl_areWords.calls kj2 _ _ l0_3 true _ ?side1 ?side2 A25.out).mono ?_); (case side1 => exact zC (Kd.C_below HR0_3.out zH)); (case side2 => exact HC0_3.out); rintro e w' ⟨rfl, ⟨nd, rfl⟩⟩) | ((with_reducible refine gate_callee (f := 180) rfl ?_); refine goesL_ (some 55) rfl rfl Try.func180 (by kernel_rfl) rfl #[.int .i64 a0_0] rfl zM ?_; (with_reducible refine (impl_usesB.calls a0_0 false _ A33.out).mono ?_); rintro e w' ⟨rfl, ⟨nd, rfl⟩⟩; refine ⟨_, rfl, ?_⟩))
           go_ret
           exact ⟨zE, zH⟩
         ·rw [if_neg c40] at H
          have c40b0 : ((l0_3.length : Int) == 0) = false := beq_eq_false_iff_ne.mpr c40
          have c40b1 : ((l0_3.length : Int) != 0) = true := bne_iff_ne.mpr c40
          have c40b2 : ¬ (l0_3 = []) := fun h_ => c40 (by rw [h_]; rfl)
          obtain rfl := Option.some.inj H
          have hnb46 := NB283_288.out
          have hnc46 := NB288_283.out
          obtain ⟨hcz47_0, hcz47_1, hcz47_2, hcz47_3, hcz47_4⟩ := zc5 BK283.out
          obtain ⟨hfz47_0, hfz47_1, hfz47_2, hfz47_3, hfz47_4⟩ := zf BK283.out
          go_wp2_with (first | ((with_reducible refine gate_callee (f := 179) rfl ?_); refine goesL_ (some 35) rfl rfl Try.func179 (by kernel_rfl) rfl #[.slice A0_2 l0_2.length c0_2] rfl zM ?_; (with_reducible refine (impl_areWords.calls kj2 _ _ l0_2 true _ ?side1 ?side2 A23.out).mono ?_); (case side1 => exact zC (Kd.C_below HR0_2.out HB.out)); (case side2 => exact HC0_2.out); rintro e w' ⟨rfl, ⟨nd, rfl⟩⟩; refine ⟨_, rfl, ?_⟩) | (go_at_call 179; (with_reducible refine (impl_areWords.calls kj2 _ _ l0_3 true _ ?side1 ?side2 A25.out).mono ?_); (case side1 => exact zC (Kd.C_below HR0_3.out zH)); (case side2 => exact HC0_3.out); rintro e w' ⟨rfl, ⟨nd, rfl⟩⟩) | ((with_reducible refine gate_callee (f := 180) rfl ?_); refine goesL_ (some 55) rfl rfl Try.func180 (by kernel_rfl) rfl #[.int .i64 a0_0] rfl zM ?_; (with_reducible refine (impl_usesB.calls a0_0 false _ A33.out).mono ?_); rintro e w' ⟨rfl, ⟨nd, rfl⟩⟩; refine ⟨_, rfl, ?_⟩))
          go_ret
          exact ⟨zE, zH⟩
     ·replace c26 := Bool.eq_false_iff.mpr c26
      subst c26
      replace H : (some false) = some r := by rw [if_neg (show ¬ (false = true) by decide)] at H; exact H
      obtain rfl := Option.some.inj H
      have hnb48 := NB283_288.out
      have hnc48 := NB288_283.out
      obtain ⟨hcz49_0, hcz49_1, hcz49_2, hcz49_3, hcz49_4⟩ := zc5 BK283.out
      obtain ⟨hfz49_0, hfz49_1, hfz49_2, hfz49_3, hfz49_4⟩ := zf BK283.out
      go_wp2_with (first | ((with_reducible refine gate_callee (f := 179) rfl ?_); refine goesL_ (some 35) rfl rfl Try.func179 (by kernel_rfl) rfl #[.slice A0_2 l0_2.length c0_2] rfl zM ?_; (with_reducible refine (impl_areWords.calls kj2 _ _ l0_2 true _ ?side1 ?side2 A23.out).mono ?_); (case side1 => exact zC (Kd.C_below HR0_2.out HB.out)); (case side2 => exact HC0_2.out); rintro e w' ⟨rfl, ⟨nd, rfl⟩⟩; refine ⟨_, rfl, ?_⟩) | (go_at_call 179; (with_reducible refine (impl_areWords.calls kj2 _ _ l0_3 false _ ?side1 ?side2 A25.out).mono ?_); (case side1 => exact zC (Kd.C_below HR0_3.out zH)); (case side2 => exact HC0_3.out); rintro e w' ⟨rfl, ⟨nd, rfl⟩⟩))
      go_ret
      exact ⟨zE, zH⟩
    ·replace c24 := Bool.eq_false_iff.mpr c24
     subst c24
     replace H : (some false) = some r := by rw [if_neg (show ¬ (false = true) by decide)] at H; exact H
     obtain rfl := Option.some.inj H
     have hnb50 := NB283_288.out
     have hnc50 := NB288_283.out
     obtain ⟨hcz51_0, hcz51_1, hcz51_2, hcz51_3, hcz51_4⟩ := zc5 BK283.out
     obtain ⟨hfz51_0, hfz51_1, hfz51_2, hfz51_3, hfz51_4⟩ := zf BK283.out
     go_wp2_with (first | ((with_reducible refine gate_callee (f := 179) rfl ?_); refine goesL_ (some 35) rfl rfl Try.func179 (by kernel_rfl) rfl #[.slice A0_2 l0_2.length c0_2] rfl zM ?_; (with_reducible refine (impl_areWords.calls kj2 _ _ l0_2 false _ ?side1 ?side2 A23.out).mono ?_); (case side1 => exact zC (Kd.C_below HR0_2.out HB.out)); (case side2 => exact HC0_2.out); rintro e w' ⟨rfl, ⟨nd, rfl⟩⟩; refine ⟨_, rfl, ?_⟩))
     go_ret
     exact ⟨zE, zH⟩

end Go.Proofs.Ytabicblkdgpogaa.QFnExactPutEvent
