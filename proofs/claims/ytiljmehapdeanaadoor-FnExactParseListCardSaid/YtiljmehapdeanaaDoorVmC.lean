/- The reading is sound: each step of the program does what the reading tells; the conditions are those of each lemma. -/
import Derived.Test.YtiljmehapdeanaaDoorVmB
import Derived.Tactics2
namespace Go.Vm
open Go Go.RowKit
set_option linter.unusedVariables false
set_option linter.unusedSimpArgs false
variable {E : Env} {R : Type} {X : Cx} {C : Cc} {s : St} {κ : Out → Option R} {r : R} {orc : Orc E}
theorem scalar_size {P : Program} {t : TypeId} {ti : TI} (hti : TiOk P t ti) (hk : ti.ty.sz = 1) (ha : ti.agg = false) {w : World} {xs : Array Value} {o : Nat} {v : Value} (hv : xs[o]? = some v) : (part t xs o).run P w = .ok v w := by
  simp [part, run_isAgg hti, ha, hv]
theorem eqFields_ok (hE : EnvOk E X.P) {hp : Hp} {nx : Nat} (d : Nat) {xs ys : Array Value} : ∀ {fl : List (Nat × Nat)} {fs : List Field} {l r : List AV} {k : Nat} {c : Bool}, eqCells (get? E.ti) k fl l r = some c →
    (∀ (i o t : Nat), fl[i]? = some (o, t) → ∃ f : Field, fs[i]? = some f ∧ f.offset = o ∧ f.type = t ∧ f.name ≠ "_") → fl.length = fs.length → RepL X C hp nx l (xs.toList.drop k) → RepL X C hp nx r (ys.toList.drop k) →
    (Op.eqFields (d + 1) xs ys fs).run X.P C.w = .ok c C.w
  | [], fs, l, r, k, c, h, hf, hl, h1, h2 => by
    have : fs = [] := List.length_eq_zero_iff.1 (by simpa using hl.symm)
    subst this
    cases l <;> cases r <;> simp only [eqCells, reduceCtorEq, Option.some.injEq] at h
    subst h
    rfl
  | (o, t) :: fl, fs, l, r, k, c, h, hf, hl, h1, h2 => by
    cases fs with
    | nil => simp at hl
    | cons f fs =>
      obtain ⟨f', g1, g2, g3, g4⟩ := hf 0 o t rfl
      simp at g1
      subst g1
      have hf' : ∀ (i o t : Nat), fl[i]? = some (o, t) → ∃ f : Field, fs[i]? = some f ∧ f.offset = o ∧ f.type = t ∧ f.name ≠ "_" := fun i o t h => hf (i + 1) o t (by simpa using h)
      cases l with
      | nil => simp [eqCells] at h
      | cons a l =>
        cases r with
        | nil => simp [eqCells] at h
        | cons b r =>
          simp only [RepL] at h1 h2
          obtain ⟨va, ra, e1, ha, h1⟩ := h1
          obtain ⟨vb, rb, e2, hb, h2⟩ := h2
          have hxa : xs[k]? = some va := by
            have := congrArg (fun l => l[0]?) e1
            simpa using this
          have hxb : ys[k]? = some vb := by
            have := congrArg (fun l => l[0]?) e2
            simpa using this
          have hra : ra = xs.toList.drop (k + 1) := by
            have := congrArg List.tail e1
            simpa using this.symm
          have hrb : rb = ys.toList.drop (k + 1) := by
            have := congrArg List.tail e2
            simpa using this.symm
          subst hra hrb
          have tail : ∀ {c' : Bool}, eqCells (get? E.ti) (k + 1) fl l r = some c' → (Op.eqFields (d + 1) xs ys fs).run X.P C.w = .ok c' C.w := fun hc => eqFields_ok hE d hc hf' (by simpa using hl) h1 h2
          have fin : ∀ {q c' : Bool}, (Op.equalIn (d + 1) f.type va vb).run X.P C.w = .ok q C.w → (∃ ti, TiOk X.P f.type ti ∧ ti.ty.sz = 1 ∧ ti.agg = false) → f.offset = k → eqCells (get? E.ti) (k + 1) fl l r = some c' → (Op.eqFields (d + 1) xs ys (f :: fs)).run X.P C.w = .ok (q && c') C.w := by
            intro q c' hq hti ho hc
            obtain ⟨ti, hti, hsz, hag⟩ := hti
            have p1 := scalar_size (w := C.w) hti hsz hag hxa
            have p2 := scalar_size (w := C.w) hti hsz hag hxb
            simp only [Op.eqFields, g4, ne_eq, not_false_eq_true, if_true, Sem.run_bind, ho, p1, p2, Result.andThen_ok, hq, Sem.run_ite, Sem.run_pure, tail hc]
            cases q <;> simp
          simp only [eqCells] at h
          split at h
          · rename_i kk bb c' hbk hti hc
            have hok := Nat.eq_of_beq_eq_true hbk
            split at h
            · rename_i k1 x k2 y
              split at h
              · rename_i hkk
                have hk2 := kindEq_eq hkk
                subst hk2
                simp only [Option.some.injEq] at h
                subst h
                simp only [RepA] at ha hb
                subst ha hb
                rw [← g3] at hti
                have hu := (ty_of_kind (hE.ti _ _ hti) rfl).1 _ rfl
                have := run_equalIn_int (P := X.P) C.w d f.type k1 _ x y hu
                refine fin (q := decide (x = y)) ?_ ⟨_, hE.ti _ _ hti, rfl, rfl⟩ (by omega) hc
                rw [this]
                by_cases hxy : x = y <;> simp [hxy]
              · cases h
            · cases h
          · rename_i bb c' hbk hti hc
            have hok := Nat.eq_of_beq_eq_true hbk
            split at h
            · rename_i x y
              simp only [Option.some.injEq] at h
              subst h
              simp only [RepA] at ha hb
              subst ha hb
              rw [← g3] at hti
              have hu := (ty_of_kind (hE.ti _ _ hti) rfl).2.2.1 rfl
              have := run_equalIn_string (P := X.P) C.w d f.type x y hu
              refine fin (q := decide (x = y)) ?_ ⟨_, hE.ti _ _ hti, rfl, rfl⟩ (by omega) hc
              rw [this, beq_bytes]
            · cases h
          · rename_i bb c' hbk hti hc
            have hok := Nat.eq_of_beq_eq_true hbk
            split at h
            · rename_i x y hx hy
              simp only [Option.some.injEq] at h
              subst h
              have hva := boolOf_rep hx ha
              have hvb := boolOf_rep hy hb
              subst hva hvb
              rw [← g3] at hti
              have hu := (ty_of_kind (hE.ti _ _ hti) rfl).2.1 rfl
              exact fin (run_bool_eqIn d hu x y) ⟨_, hE.ti _ _ hti, rfl, rfl⟩ (by omega) hc
            · cases h
          · cases h
theorem binOp_sound (hE : EnvOk E X.P) {op : BinOp} {t : TypeId} {x y : Operand} (hh : HpOk X C s.hp s.nx) (hf : Fr X C) {a b : AV} {u v : Value} (ha : RepA X C s.hp s.nx a u) (hb : RepA X C s.hp s.nx b v) (hr : (binOpV op t s a b : Tr E Out).run orc κ = some r) :
    ∃ q, (do eqGuard op t x y u v; binOp op t u v).run X.P C.w = .ok q C.w ∧ Done X C s κ r q C.w := by
  unfold binOpV at hr
  split at hr
  · rename_i k a k' b
    simp only [RepA] at ha hb
    subst ha hb
    split at hr
    · rename_i hs
      obtain ⟨q, h1, h2⟩ := shiftInt_sound (X := X) (C := C) (t := t) (k' := k') hs hh hf hr
      exact ⟨q, by simp only [Sem.run_bind, guard_int, Result.andThen_ok, h1], h2⟩
    · rename_i hs
      split at hr
      · rename_i hk
        have hk := kindEq_eq hk
        subst hk
        obtain ⟨q, h1, h2⟩ := binInt_sound (X := X) (C := C) (t := t) (by simpa using hs) hh hf hr
        exact ⟨q, by simp only [Sem.run_bind, guard_int, Result.andThen_ok, h1], h2⟩
      · cases hr
  · rename_i a b
    simp only [RepA] at ha hb
    subst ha hb
    split at hr
    · obtain ⟨hmax, hr⟩ := run_test hr
      refine ⟨.string (a ++ b), ?_, Done.pure hh hf (run_ret hr) (by simp only [RepA])⟩
      have hn : ¬ (((a.size + b.size : Nat) : Int) > 9223372036854775807) := by unfold maxRow at hmax; omega
      have hn2 : ¬ (((a.size + b.size : Nat) : Int) > IntKind.i64.max) := hn
      simp only [Sem.run_bind, guard_str, Result.andThen_ok]
      simp only [binOp, Op.stringOp]
      rw [if_neg hn2]
      rfl
    · refine ⟨.bool (decide (a = b)), ?_, Done.pure hh hf (run_ret hr) (by simp only [RepA])⟩
      simp only [Sem.run_bind, guard_str, Result.andThen_ok, binOp, Op.stringOp, beq_bytes, Sem.run_pure]
    · refine ⟨.bool (decide (a ≠ b)), ?_, Done.pure hh hf (run_ret hr) (by simp only [RepA])⟩
      simp only [Sem.run_bind, guard_str, Result.andThen_ok, binOp, Op.stringOp, beq_bytes, Sem.run_pure]
      by_cases h : a = b <;> simp [h]
    · cases hr
  · rename_i l q
    simp only [RepA] at ha hb
    obtain ⟨xa, rfl, ha⟩ := ha
    obtain ⟨xb, rfl, hb⟩ := hb
    split at hr
    · rename_i ti fl hti hfl
      split at hr
      · rename_i hag
        split at hr
        · rename_i c hc
          obtain ⟨fs, hfs, hlen, hok⟩ := hE.fl _ _ hfl
          obtain ⟨hg1, hg2⟩ := hE.guard _ _ hti hag
          have hfo : X.P.fieldsOf t = fs := by simp [Program.fieldsOf, hfs]
          have hfs' : X.P.underlying t = some (.struct (X.P.fieldsOf t)) := by rw [hfo]; exact hfs
          have heq : (Op.equalIn (9998 + 1 + 1) t (.agg xa) (.agg xb)).run X.P C.w = .ok c C.w := by
            rw [run_equalIn_struct C.w (9998 + 1) t xa xb hfs' hg2, hfo]
            refine eqFields_ok hE 9998 hc (fun i o t h => ?_) (by simpa using hlen) (by simpa using ha) (by simpa using hb)
            obtain ⟨f, j, g1, g2, g3, g4, g5, g6⟩ := hok i o t h
            exact ⟨f, by simpa using g1, g2, g3, g6⟩
          have hgd : (eqGuard op t x y (.agg xa) (.agg xb)).run X.P C.w = .ok () C.w := by
            have := run_eqGuard_agg (P := X.P) C.w op t x y xa xb hg1
            exact this
          have heq2 : (Op.equal t (.agg xa) (.agg xb)).run X.P C.w = .ok c C.w := by
            unfold Op.equal
            rw [maxDepth_eq]
            exact heq
          split at hr
          · refine ⟨.bool c, ?_, Done.pure hh hf (run_ret hr) (by simp only [RepA])⟩
            simp only [Sem.run_bind, hgd, Result.andThen_ok, binOp, heq2, Sem.run_pure]
          · refine ⟨.bool (!c), ?_, Done.pure hh hf (run_ret hr) (by simp only [RepA])⟩
            simp only [Sem.run_bind, hgd, Result.andThen_ok, binOp, heq2, Sem.run_pure]
          · cases hr
        · cases hr
      · cases hr
    · cases hr
  · split at hr
    · rename_i p q bb hp hq hti
      have h1 := boolOf_rep hp ha
      have h2 := boolOf_rep hq hb
      subst h1 h2
      have hu := (ty_of_kind (hE.ti _ _ hti) rfl).2.1 rfl
      have he := run_bool_eq (w := C.w) hu p q
      split at hr
      · refine ⟨.bool (p == q), ?_, Done.pure hh hf (run_ret hr) (by simp only [RepA])⟩
        simp only [Sem.run_bind, guard_bool, Result.andThen_ok, binOp, he, Sem.run_pure]
      · refine ⟨.bool (!(p == q)), ?_, Done.pure hh hf (run_ret hr) (by simp only [RepA])⟩
        simp only [Sem.run_bind, guard_bool, Result.andThen_ok, binOp, he, Sem.run_pure]
      · cases hr
    · cases hr
end Go.Vm
namespace Go.Vm
open Go Go.RowKit
set_option linter.unusedVariables false
set_option linter.unusedSimpArgs false
variable {E : Env} {X : Cx}
theorem Evo.trans {C C' C'' : Cc} {hp hp' hp'' : Hp} {nx nx' nx'' : Nat} (h : Evo X C C' hp hp' nx nx') (k : Evo X C' C'' hp' hp'' nx' nx'') : Evo X C C'' hp hp'' nx nx'' where
  le := Nat.le_trans h.le k.le
  row := by
    intro id hid v'' t xs'' inner'' e
    obtain ⟨k1, v', xs', inner', k2, k3, k4, k5⟩ := k.row id (Nat.lt_of_lt_of_le hid h.le) _ _ _ _ e
    obtain ⟨h1, v, xs, inner, h2, h3, h4, h5⟩ := h.row id hid _ _ _ _ k2
    refine ⟨k1.trans h1, v, xs, inner, h2, k3.trans h3, Nat.le_trans h4 k4, fun hv => ?_⟩
    have hv' : v = v' := Nat.le_antisymm h4 (by omega)
    obtain ⟨a1, a2⟩ := h5 hv'
    obtain ⟨b1, b2⟩ := k5 (by omega)
    refine ⟨b1.trans a1, fun b hb => ?_⟩
    obtain ⟨c1, c2⟩ := a2 b hb
    obtain ⟨d1, d2⟩ := b2 b c1
    exact ⟨d1, d2.trans c2⟩
  cells := by
    intro id hid l'' e
    obtain ⟨k1, l', k2⟩ := k.cells id (Nat.lt_of_lt_of_le hid h.le) _ e
    obtain ⟨h1, l, h2⟩ := h.cells id hid _ k2
    exact ⟨k1.trans h1, l, h2⟩
  free := by
    intro b hb ho
    obtain ⟨h1, h2⟩ := h.free b hb ho
    have hb' : b < C'.w.heap.size := by
      have : C.w.heap[b]? = some C.w.heap[b] := Array.getElem?_eq_getElem hb
      exact heap_lt (h2.trans this)
    obtain ⟨k1, k2⟩ := k.free b hb' h1
    exact ⟨k1, k2.trans h2⟩
/-- A step without a step of the world. -/
structure Gh (X : Cx) (C C' : Cc) (hp hp' : Hp) (nx nx' : Nat) : Prop where
  w : C'.w = C.w
  evo : Evo X C C' hp hp' nx nx'
  hp : HpOk X C' hp' nx'
  fr : Fr X C'
theorem Gh.refl {C : Cc} {hp : Hp} {nx : Nat} (hh : HpOk X C hp nx) (hf : Fr X C) : Gh X C C hp hp nx nx := ⟨rfl, Evo.refl _ _ _ _, hh, hf⟩
theorem Gh.trans {C C' C'' : Cc} {hp hp' hp'' : Hp} {nx nx' nx'' : Nat} (h : Gh X C C' hp hp' nx nx') (k : Gh X C' C'' hp' hp'' nx' nx'') : Gh X C C'' hp hp'' nx nx'' :=
  ⟨k.w.trans h.w, h.evo.trans k.evo, k.hp, k.fr⟩
mutual
theorem up_ok {h : HSk} {hp : Hp} : ∀ {sk : Sk} {av av' : AV} {v : Value} {dl dl' : Hp} {nx nx' : Nat} {C : Cc}, sk.up h hp av dl nx = (av', dl', nx') → HpOk X C (dl ++ hp) nx → Fr X C → RepA X C (dl ++ hp) nx av v →
    ∃ C', Gh X C C' (dl ++ hp) (dl' ++ hp) nx nx' ∧ RepA X C' (dl' ++ hp) nx' av' v := by
  intro sk av av' v dl dl' nx nx' C hu hh hf ha
  have same : (av, dl, nx) = (av', dl', nx') → ∃ C', Gh X C C' (dl ++ hp) (dl' ++ hp) nx nx' ∧ RepA X C' (dl' ++ hp) nx' av' v := by
    intro e
    cases e
    exact ⟨C, Gh.refl hh hf, ha⟩
  cases sk with
  | own i =>
    cases av with
    | nil =>
      simp only [Sk.up] at hu
      split at hu
      · rename_i t inner hg
        cases hu
        simp only [RepA] at ha
        subst ha
        obtain ⟨hk, hG⟩ := get?_eff (e := []) (nx := nx) (B := .row 0 t [] none) (by simp [allDead]) (by simp)
        have := row_fin (s := ⟨[], dl ++ hp, nx⟩) (C := C) (out := ⟨.own nx, [(nx, .row 0 t [] none)], nx + 1⟩) (G := []) (k := nx) (t := t) (xs := []) (ver := 0) (inner := none) (w' := C.w) (v' := .slice none 0 0) (u := .slice none 0 0) hh hf (Same.refl _) (Nat.le_refl _) (Nat.le_succ _) (Nat.lt_succ_self _) hk (by simp) hG
          (fun _ _ _ => rfl) (fun h => absurd h (Nat.lt_irrefl _)) (by simp [innerL]) ⟨none, 0, rfl⟩ (fun _ _ => ⟨_, fun _ => 0, rfl, none, 0, rfl, Nat.le_refl _, fun h => absurd h (by decide)⟩) (fun _ => by
            simp only [RepA]
            refine ⟨Nat.lt_succ_self _, rfl, fun ver t xs inner _ => ?_⟩
            simp [Cc.give])
        refine ⟨_, ?_, this.val⟩
        exact ⟨rfl, this.evo, this.hp, this.fr⟩
      · exact same hu
    | sub j ver t xs =>
      simp only [Sk.up] at hu
      split at hu
      · rename_i v' u us inner hg
        split at hu
        · rename_i hc
          simp only [Bool.and_eq_true] at hc
          have hv := Nat.eq_of_beq_eq_true hc.1
          subst hv
          cases hu
          simp only [RepA] at ha
          obtain ⟨hut, hown⟩ := ha.2.2 _ _ _ hg hc.2
          subst hut
          have hkk := hh j
          rw [hg] at hkk
          obtain ⟨hid, _, _, hin⟩ := hkk
          have hj : j ≠ nx := by omega
          have hk : get? [(j, Blk.dead), (nx, Blk.row 0 u xs inner)] nx = some (.row 0 u xs inner) := by
            rw [get?_cons, if_neg hj, get?_cons, if_pos rfl]
          have hG : ∀ q, q ≠ nx → get? [(j, Blk.dead), (nx, Blk.row 0 u xs inner)] q = if memN [j] q = true then some .dead else none := by
            intro q hq
            rw [get?_cons, get?_cons]
            by_cases hjq : j = q
            · subst hjq; simp [memN]
            · rw [if_neg hjq, if_neg (fun h => hq h.symm), if_neg]
              · rfl
              · intro hm
                have := memN_iff.1 hm
                simp at this
                exact hjq this.symm
          have hshape : ∃ A cap, v = .slice A xs.length cap := by
            cases inner with
            | none =>
              obtain ⟨w1, f, hw, A, cap, hv, _⟩ := hown
              have : v = w1 := by simpa using hw
              exact ⟨A, cap, this.trans hv⟩
            | some ls =>
              obtain ⟨A, cap, hv, _⟩ := hown
              exact ⟨A, cap, hv⟩
          have := row_fin (s := ⟨[], dl ++ hp, nx⟩) (C := C) (out := ⟨.own nx, [(j, .dead), (nx, .row 0 u xs inner)], nx + 1⟩) (G := [j]) (k := nx) (t := u) (xs := xs) (ver := 0) (inner := inner) (w' := C.w) (v' := v) (u := v) hh hf (Same.refl _) (Nat.le_refl _) (Nat.le_succ _) (Nat.lt_succ_self _) hk (by simpa using fun h => hj h.symm) hG
            (fun _ _ _ => rfl) (fun h => absurd h (Nat.lt_irrefl _)) hin hshape (fun hev hl => by
              have hgo : ∀ b, C.o b = some j → (C.give [j] nx C.w v).o b = some nx := fun b hb => give_own hf hb (by simp)
              cases inner with
              | none => exact OwnD.mono (t := .row u) (fun b hb o ho => ⟨ho, hgo b hb⟩) hown
              | some ls =>
                refine RowR.mono (fun b hb o ho => ⟨ho, hgo b hb⟩) (fun _ _ _ _ he => he.mono fun b hb o ho => ?_) hown
                rcases hb.1 with h1 | h1
                · obtain ⟨h2, h3⟩ := hev.stays hin hl b h1 o ho
                  exact ⟨h2, .inl h3, hb.2⟩
                · exact ⟨ho, .inr (hgo b h1), hb.2⟩) (fun _ => by
              simp only [RepA]
              refine ⟨Nat.lt_succ_self _, ha.2.1, fun ver t xs inner _ => ?_⟩
              simp [Cc.give])
          refine ⟨_, ?_, this.val⟩
          exact ⟨rfl, this.evo, this.hp, this.fr⟩
        · exact same hu
      · exact same hu
    | _ => exact same hu
  | agg l =>
    cases av with
    | agg vs =>
      simp only [Sk.up] at hu
      cases e1 : Sk.upL h hp l vs dl nx with
      | mk vs1 q =>
      obtain ⟨dl1, nx1⟩ := q
      rw [e1] at hu
      simp only at hu
      cases hu
      simp only [RepA] at ha
      obtain ⟨arr, rfl, ha⟩ := ha
      obtain ⟨C', h1, h2⟩ := upL_ok (l := l) (vs := vs) e1 hh hf ha
      exact ⟨C', h1, by simp only [RepA]; exact ⟨arr, rfl, h2⟩⟩
    | _ => exact same hu
  | tup l =>
    cases av with
    | tup vs =>
      simp only [Sk.up] at hu
      cases e1 : Sk.upL h hp l vs dl nx with
      | mk vs1 q =>
      obtain ⟨dl1, nx1⟩ := q
      rw [e1] at hu
      simp only at hu
      cases hu
      simp only [RepA] at ha
      obtain ⟨arr, rfl, ha⟩ := ha
      obtain ⟨C', h1, h2⟩ := upL_ok (l := l) (vs := vs) e1 hh hf ha
      exact ⟨C', h1, by simp only [RepA]; exact ⟨arr, rfl, h2⟩⟩
    | _ => exact same hu
  | _ => cases av <;> exact same hu
theorem upL_ok {h : HSk} {hp : Hp} : ∀ {l : List Sk} {vs vs' : List AV} {us : List Value} {dl dl' : Hp} {nx nx' : Nat} {C : Cc}, Sk.upL h hp l vs dl nx = (vs', dl', nx') → HpOk X C (dl ++ hp) nx → Fr X C → RepL X C (dl ++ hp) nx vs us →
    ∃ C', Gh X C C' (dl ++ hp) (dl' ++ hp) nx nx' ∧ RepL X C' (dl' ++ hp) nx' vs' us := by
  intro l vs vs' us dl dl' nx nx' C hu hh hf hr
  cases l with
  | nil =>
    simp only [Sk.upL] at hu
    cases hu
    exact ⟨C, Gh.refl hh hf, hr⟩
  | cons sk l =>
    cases vs with
    | nil =>
      simp only [Sk.upL] at hu
      cases hu
      exact ⟨C, Gh.refl hh hf, hr⟩
    | cons av vs =>
      simp only [Sk.upL] at hu
      simp only [RepL] at hr
      obtain ⟨v, r, rfl, h1, h2⟩ := hr
      cases e1 : sk.up h hp av dl nx with
      | mk av1 q =>
        obtain ⟨dl1, nx1⟩ := q
        rw [e1] at hu
        simp only at hu
        cases e2 : Sk.upL h hp l vs dl1 nx1 with
        | mk vs1 q =>
          rw [e2] at hu
          simp only at hu
          cases hu
          obtain ⟨C1, g1, a1⟩ := up_ok e1 hh hf h1
          obtain ⟨C2, g2, a2⟩ := upL_ok e2 g1.hp g1.fr (h2.evo g1.evo hh)
          refine ⟨C2, g1.trans g2, ?_⟩
          simp only [RepL]
          exact ⟨v, r, rfl, a1.evo g2.evo g1.hp, a2⟩
end
theorem set_same {w : World} {b : Nat} {o : Obj} (h : w.heap[b]? = some o) : w.heap = w.heap.setIfInBounds b o := by
  apply Array.ext_getElem?
  intro j
  rw [Array.getElem?_setIfInBounds]
  split
  · rename_i e; subst e
    rw [h]; simp [heap_lt h]
  · rfl
theorem hup_ok {h : HSk} {hp : Hp} : ∀ {l : HSk} {dl dl' : Hp} {nx nx' : Nat} {m m' : Mp} {C : Cc}, hup h hp l dl nx m = some (dl', nx', m') → HpOk X C (dl ++ hp) nx → Fr X C → ∃ C', Gh X C C' (dl ++ hp) (dl' ++ hp) nx nx'
  | [], dl, dl', nx, nx', m, m', C, hu, hh, hf => by
    simp only [hup, Option.some.injEq, Prod.mk.injEq] at hu
    obtain ⟨rfl, rfl, rfl⟩ := hu
    exact ⟨C, Gh.refl hh hf⟩
  | (i, .row t inner) :: l, dl, dl', nx, nx', m, m', C, hu, hh, hf => by
    simp only [hup] at hu
    exact hup_ok hu hh hf
  | (i, .cells sk) :: l, dl, dl', nx, nx', m, m', C, hu, hh, hf => by
    simp only [hup] at hu
    split at hu
    · rename_i j hj
      split at hu
      · rename_i vs hg
        cases e1 : Sk.upL h hp sk vs dl nx with
        | mk vs1 q =>
          obtain ⟨dl1, nx1⟩ := q
          rw [e1] at hu
          simp only at hu
          split at hu
          · rename_i l2 m1 hg1 hb1
            have hk := hh j
            rw [hg] at hk
            obtain ⟨hid, b, arr, e, hm, ho, hw, hl⟩ := hk
            obtain ⟨C1, g1, a1⟩ := upL_ok e1 hh hf hl
            have hk1 := g1.hp j
            rw [hg1] at hk1
            obtain ⟨hid1, b1, arr1, e1', hm1, ho1, hw1, hl1⟩ := hk1
            have hmm := (g1.evo.cells j hid _ hg1).1
            rw [hmm, hm] at hm1
            simp at hm1
            subst hm1
            rw [g1.w, hw] at hw1
            cases hw1
            have := cells_fin (s := ⟨[], dl1 ++ hp, nx1⟩) (C := C1) (out := ⟨.junk, [(j, .cells vs1)], nx1⟩) (id := j) (b := b) (arr := arr) (arr' := arr) (e := e) (l := l2) (l' := vs1) (w' := C1.w) (v := undef) g1.hp g1.fr hg1 (hmm.trans hm) ho1 (by rw [g1.w]; exact hw) (Same.refl _) (set_same (by rw [g1.w]; exact hw)) rfl a1
            obtain ⟨C2, g2⟩ := hup_ok hu this.hp this.fr
            have g3 : Gh X C1 (C1.give [] j C1.w (C1.μ j)) (dl1 ++ hp) (((j, .cells vs1) :: dl1) ++ hp) nx1 nx1 := ⟨rfl, this.evo, this.hp, this.fr⟩
            exact ⟨C2, (g1.trans g3).trans g2⟩
          · cases hu
      · cases hu
    · cases hu
end Go.Vm
namespace Go.Vm
open Go Go.RowKit
set_option linter.unusedVariables false
set_option linter.unusedSimpArgs false
theorem rowCast_self (t : Ty) (xs : List t.D) : rowCast t t xs = some xs := by
  unfold rowCast
  rw [dif_pos (Ty.beq_self t)]
theorem beq_true {a b : Nat} : Nat.beq a b = true ↔ a = b := ⟨Nat.eq_of_beq_eq_true, fun h => by subst h; exact Nat.beq_refl a⟩
theorem beq_false' {a b : Nat} (h : a ≠ b) : Nat.beq a b = false := by
  cases e : Nat.beq a b with
  | false => rfl
  | true => exact absurd (Nat.eq_of_beq_eq_true e) h
theorem kept_cons (i j k : Nat) (m : Mp) : kept ((i, j) :: m) k = if j = k then some i else kept m k := by
  simp only [kept]
  by_cases h : j = k
  · subst h; simp
  · rw [beq_false' h, if_neg h]
/-- From one state to another: the names m are kept, under other names. -/
structure Ren (X X' : Cx) (C C' : Cc) (hp h' : Hp) (m : Mp) (B : Nat) (L : List Lb) : Prop where
  w : C'.w = C.w
  mu : ∀ i j, get? m i = some j → C'.μ i = C.μ j
  own : ∀ b j i, C.o b = some j → kept m j = some i → C'.o b = some i
  sh : ∀ b, X.sh C.o b → X'.sh C'.o b
  shl : ∀ l ∈ L, kept m l.1 = none → ∀ b, C.o b = some l.1 → X'.sh C'.o b
  kept : ∀ i j, get? m i = some j → kept m j = some i
  rows : ∀ i j, get? m i = some j → ∀ v t xs inner, hget h' i = .row v t xs inner → ∃ v' xs' inner', hget hp j = .row v' t xs' inner'
  cells : ∀ i j, get? m i = some j → ∀ l, hget h' i = .cells l → ∃ l', hget hp j = .cells l'
def labs (ls : List Nat) : List Lb := ls.map fun i => (id0 i, ver0 i)
section
variable {X X' : Cx} {C C' : Cc} {hp h' : Hp} {m : Mp} {B nx : Nat} {L : List Lb}
theorem lsOk_mem : ∀ {l : List Lb} {ls : List Nat}, lsOk m ls l = true → ∀ x ∈ l, ∀ i, kept m x.1 = some i → i ∈ ls
  | [], ls, _, x, hx, i, hi => by simp at hx
  | (j, v) :: l, ls, h, x, hx, i, hi => by
    simp only [lsOk, Bool.and_eq_true] at h
    cases hx with
    | head =>
      have h1 := h.1
      simp only at hi
      rw [hi] at h1
      exact memN_iff.1 h1
    | tail _ hx => exact lsOk_mem h.2 x hx i hi
theorem allLt_mem : ∀ {ls : List Nat}, allLt B ls = true → ∀ i ∈ ls, i < B
  | [], _, i, hi => by simp at hi
  | a :: ls, h, i, hi => by
    simp only [allLt, Bool.and_eq_true] at h
    cases hi with
    | head => exact Nat.le_of_ble_eq_true h.1
    | tail _ hi => exact allLt_mem h.2 i hi
theorem Ren.lbs (hR : Ren X X' C C' hp h' m B L) {l : List Lb} {ls : List Nat} (h1 : lsOk m ls l = true) (h2 : ∀ x ∈ l, x ∈ L) : ∀ b, lbS X C.o l b → lbS X' C'.o (labs ls) b := by
  intro b hb
  rcases hb with hb | ⟨x, hx, hb⟩
  · exact .inl (hR.sh b hb)
  · cases hk : Vm.kept m x.1 with
    | none => exact .inl (hR.shl x (h2 x hx) hk b hb)
    | some i =>
      have hi := lsOk_mem h1 x hx i hk
      exact .inr ⟨(i, 0), by simp only [labs, List.mem_map]; exact ⟨i, hi, rfl⟩, hR.own b _ _ hb hk⟩
theorem labs_ok {ls : List Nat} (h : allLt B ls = true) : ∀ l ∈ labs ls, okL h' B l := by
  intro l hl
  simp only [labs, List.mem_map] at hl
  obtain ⟨i, hi, rfl⟩ := hl
  exact ⟨allLt_mem h i hi, fun v t xs inner _ => Nat.zero_le _⟩
mutual
theorem ext_rep (hh : HpOk X C hp nx) (hR : Ren X X' C C' hp h' m B L) : ∀ {sk : Sk} {av : AV} {v : Value} {d : Ex'}, RepA X C hp nx av v → sk.ext hp m B av = some d → (∀ l ∈ d.ls, l ∈ L) → ∀ rest : List DV,
    ∃ av', sk.inst [] id0 ver0 (d.ds ++ rest) = (av', rest) ∧ RepA X' C' h' B av' v := by
  intro sk av v d ha he hL rest
  cases sk with
  | int k =>
    cases av with
    | int k' n =>
      simp only [Sk.ext] at he
      split at he
      · rename_i hk
        have hk := kindEq_eq hk
        subst hk
        cases he
        simp only [RepA] at ha
        exact ⟨.int k n, rfl, by simp only [RepA]; exact ha⟩
      · cases he
    | _ => simp [Sk.ext] at he
  | bool =>
    simp only [Sk.ext] at he
    split at he
    · rename_i dv hdv
      cases he
      obtain ⟨b, rfl, rfl⟩ := boolDV_rep hdv ha
      exact ⟨.bool b, rfl, by simp only [RepA]⟩
    · cases he
  | str =>
    cases av with
    | str x =>
      simp only [Sk.ext, Option.some.injEq] at he
      subst he
      simp only [RepA] at ha
      exact ⟨.str x, rfl, by simp only [RepA]; exact ha⟩
    | _ => simp [Sk.ext] at he
  | frz t ls =>
    simp only [Sk.ext] at he
    split at he
    · rename_i hn
      split at he
      · rename_i hlt
        cases he
        cases av <;> simp [isNil] at hn
        simp only [RepA] at ha
        subst ha
        refine ⟨.lst t [] (labs ls), by simp [Sk.inst, rowCast_self, labs], ?_⟩
        simp only [RepA]
        exact ⟨labs_ok hlt, rfl, fun _ => ⟨none, 0, rfl, Nat.le_refl _, fun h => absurd h (by simp)⟩⟩
      · cases he
    · split at he
      · rename_i rr hrr
        split at he
        · rename_i ys hys
          split at he
          · rename_i hc
            simp only [Bool.and_eq_true] at hc
            cases he
            obtain ⟨h1, h2, h3⟩ := rowOf_rep hh ha hrr
            obtain ⟨T, xs, ls0⟩ := rr
            obtain ⟨hT, hy⟩ := rowCast_eq hys
            simp only at hT hy h1 hc hL
            subst hT
            simp only at hy
            have hy := hy.symm
            subst hy
            refine ⟨.lst T xs (labs ls), by simp [Sk.inst, rowCast_self, labs], ?_⟩
            have hone : v.oneCell' = true := RepD.one h1 v (by simp)
            simp only [RepA]
            refine ⟨labs_ok hc.2, hone, fun _ => h1.mono fun b hb o ho => ⟨by rw [hR.w]; exact ho, hR.lbs hc.1 hL b hb⟩⟩
          · cases he
        · cases he
      · cases he
  | own i =>
    cases av with
    | own j =>
      simp only [Sk.ext, sameName] at he
      split at he
      · rename_i j' hj
        split at he
        · rename_i hc
          simp only [Bool.and_eq_true] at hc
          have hjj := Nat.eq_of_beq_eq_true hc.1
          subst hjj
          have hlt : i < B := Nat.le_of_ble_eq_true hc.2
          cases he
          refine ⟨.own i, rfl, ?_⟩
          simp only [RepA] at ha ⊢
          refine ⟨hlt, ha.2.1, fun ver t xs inner e => ?_⟩
          obtain ⟨v', xs', inner', e'⟩ := hR.rows i j hj _ _ _ _ e
          rw [hR.mu i j hj]
          exact ha.2.2 _ _ _ _ e'
        · cases he
      · cases he
    | _ => simp [Sk.ext] at he
  | ptr i off =>
    cases av with
    | ptr j off' =>
      simp only [Sk.ext, sameName] at he
      split at he
      · rename_i hoff
        have hoff := Nat.eq_of_beq_eq_true hoff
        subst hoff
        split at he
        · rename_i j' hj
          split at he
          · rename_i hc
            simp only [Bool.and_eq_true] at hc
            have hjj := Nat.eq_of_beq_eq_true hc.1
            subst hjj
            have hlt : i < B := Nat.le_of_ble_eq_true hc.2
            cases he
            refine ⟨.ptr i off, rfl, ?_⟩
            simp only [RepA] at ha ⊢
            refine ⟨hlt, ha.2.1, fun l e => ?_⟩
            obtain ⟨l', e'⟩ := hR.cells i j hj _ e
            rw [hR.mu i j hj]
            exact ha.2.2 _ e'
          · cases he
        · cases he
      · cases he
    | _ => simp [Sk.ext] at he
  | spn i n =>
    cases av with
    | spn j n' =>
      simp only [Sk.ext, sameName] at he
      split at he
      · rename_i hnn
        have hnn := Nat.eq_of_beq_eq_true hnn
        subst hnn
        split at he
        · rename_i j' hj
          split at he
          · rename_i hc
            simp only [Bool.and_eq_true] at hc
            have hjj := Nat.eq_of_beq_eq_true hc.1
            subst hjj
            have hlt : i < B := Nat.le_of_ble_eq_true hc.2
            cases he
            refine ⟨.spn i n, rfl, ?_⟩
            simp only [RepA] at ha ⊢
            refine ⟨hlt, ha.2.1, fun l e => ?_⟩
            obtain ⟨l', e'⟩ := hR.cells i j hj _ e
            rw [hR.mu i j hj]
            exact ha.2.2 _ e'
          · cases he
        · cases he
      · cases he
    | _ => simp [Sk.ext] at he
  | agg l =>
    cases av with
    | agg vs =>
      simp only [Sk.ext] at he
      simp only [RepA] at ha
      obtain ⟨arr, rfl, ha⟩ := ha
      obtain ⟨vs', h1, h2⟩ := extL_rep hh hR ha he hL rest
      exact ⟨.agg vs', by simp only [Sk.inst, h1], by simp only [RepA]; exact ⟨arr, rfl, h2⟩⟩
    | _ => simp [Sk.ext] at he
  | tup l =>
    cases av with
    | tup vs =>
      simp only [Sk.ext] at he
      simp only [RepA] at ha
      obtain ⟨arr, rfl, ha⟩ := ha
      obtain ⟨vs', h1, h2⟩ := extL_rep hh hR ha he hL rest
      exact ⟨.tup vs', by simp only [Sk.inst, h1], by simp only [RepA]; exact ⟨arr, rfl, h2⟩⟩
    | _ => simp [Sk.ext] at he
  | fn g l =>
    cases av with
    | fn g' vs =>
      simp only [Sk.ext] at he
      split at he
      · rename_i hg
        have hg := Nat.eq_of_beq_eq_true hg
        subst hg
        simp only [RepA] at ha
        obtain ⟨arr, rfl, ha⟩ := ha
        obtain ⟨vs', h1, h2⟩ := extL_rep hh hR ha he hL rest
        exact ⟨.fn g vs', by simp only [Sk.inst, h1], by simp only [RepA]; exact ⟨arr, rfl, h2⟩⟩
      · cases he
    | _ => simp [Sk.ext] at he
  | nil =>
    cases av with
    | nil =>
      simp only [Sk.ext, Option.some.injEq] at he
      subst he
      simp only [RepA] at ha
      exact ⟨.nil, rfl, by simp only [RepA]; exact ha⟩
    | _ => simp [Sk.ext] at he
  | cst k n =>
    cases av with
    | int k' m =>
      simp only [Sk.ext] at he
      split at he
      · rename_i hk
        simp only [Bool.and_eq_true, decide_eq_true_eq] at hk
        have hkk := kindEq_eq hk.1
        have hmn := hk.2
        subst hkk
        subst hmn
        cases he
        simp only [RepA] at ha
        exact ⟨.int k m, rfl, by simp only [RepA]; exact ha⟩
      · cases he
    | _ => simp [Sk.ext] at he
  | nptr =>
    cases av with
    | nptr =>
      simp only [Sk.ext, Option.some.injEq] at he
      subst he
      simp only [RepA] at ha
      exact ⟨.nptr, rfl, by simp only [RepA]; exact ha⟩
    | _ => simp [Sk.ext] at he
  | junk =>
    have : d = Ex'.nil := by cases av <;> simp only [Sk.ext, Option.some.injEq] at he <;> exact he.symm
    subst this
    exact ⟨.junk, rfl, by simp only [RepA]⟩
theorem extL_rep (hh : HpOk X C hp nx) (hR : Ren X X' C C' hp h' m B L) : ∀ {l : List Sk} {vs : List AV} {us : List Value} {d : Ex'}, RepL X C hp nx vs us → Sk.extL hp m B l vs = some d → (∀ x ∈ d.ls, x ∈ L) → ∀ rest : List DV,
    ∃ vs', Sk.instL [] id0 ver0 l (d.ds ++ rest) = (vs', rest) ∧ RepL X' C' h' B vs' us := by
  intro l vs us d ha he hL rest
  cases l with
  | nil =>
    cases vs with
    | nil =>
      simp only [Sk.extL, Option.some.injEq] at he
      subst he
      simp only [RepL] at ha
      subst ha
      exact ⟨[], rfl, by simp only [RepL]⟩
    | cons a vs => simp [Sk.extL] at he
  | cons sk l =>
    cases vs with
    | nil => simp [Sk.extL] at he
    | cons a vs =>
      simp only [RepL] at ha
      obtain ⟨v, r, rfl, h1, h2⟩ := ha
      simp only [Sk.extL] at he
      split at he
      · rename_i d1 e1
        split at he
        · rename_i d2 e2
          cases he
          simp only at hL
          obtain ⟨a', g1, g2⟩ := ext_rep hh hR h1 e1 (fun x hx => hL x (by simp [hx])) (d2.ds ++ rest)
          obtain ⟨vs', g3, g4⟩ := extL_rep hh hR h2 e2 (fun x hx => hL x (by simp [hx])) rest
          refine ⟨a' :: vs', ?_, by simp only [RepL]; exact ⟨v, r, rfl, g2, g4⟩⟩
          simp only [Sk.instL, List.append_assoc, g1, g3]
        · cases he
      · cases he
end
theorem innerOk_of {t : Ty} {inner : Option (List Nat)} {inner' : Option (List Lb)} (h : innerOk m B inner (match t.flat with | true => none | false => inner') = true) :
    (inner = none ∧ (inner' = none ∨ t.flat = true)) ∨ ∃ ls, inner = some ls ∧ allLt B ls = true ∧ (t.flat = true ∨ lsOk m ls (innerL inner') = true) := by
  cases hf : t.flat with
  | true =>
    rw [hf] at h
    cases inner with
    | none => exact .inl ⟨rfl, .inr rfl⟩
    | some ls => exact .inr ⟨ls, rfl, h, .inl rfl⟩
  | false =>
    rw [hf] at h
    cases inner with
    | none =>
      cases inner' with
      | none => exact .inl ⟨rfl, .inl rfl⟩
      | some l => simp [innerOk] at h
    | some ls =>
      cases inner' with
      | none => exact .inr ⟨ls, rfl, h, .inr rfl⟩
      | some l =>
        simp only [innerOk, Bool.and_eq_true] at h
        exact .inr ⟨ls, rfl, h.2, .inr h.1⟩
/-- A row of one's own under another name. -/
theorem innerOwn_ren (hR : Ren X X' C C' hp h' m B L) {i j : Nat} (hij : get? m i = some j) {t : Ty} {xs : List t.D} {v : Value} {inner : Option (List Nat)} {inner' : Option (List Lb)}
    (hi : innerOk m B inner (match t.flat with | true => none | false => inner') = true) (hL : ∀ l ∈ innerL inner', l ∈ L) (h : innerOwn X C j inner' xs v) : innerOwn X' C' i (inner.map labs) xs v := by
  have hgo : ∀ b, C.o b = some j → C'.o b = some i := fun b hb => hR.own b j i hb (hR.kept i j hij)
  have hw : ∀ {b : Nat} {o : Obj}, C.w.heap[b]? = some o → C'.w.heap[b]? = some o := fun h => by rw [hR.w]; exact h
  rcases innerOk_of hi with ⟨rfl, hc⟩ | ⟨ls, rfl, hlt, hc⟩
  · have h0 : innerOwn X C j none xs v := by
      rcases hc with rfl | hf
      · exact h
      · exact innerOwn_conv h (.inr (.inl ⟨hf, rfl⟩))
    exact OwnD.mono (t := .row t) (fun b hb o ho => ⟨hw ho, hgo b hb⟩) h0
  · rcases hc with hf | hls
    · have h0 : innerOwn X C j none xs v := innerOwn_conv h (.inr (.inl ⟨hf, rfl⟩))
      have h1 : innerOwn X' C' i none xs v := OwnD.mono (t := .row t) (fun b hb o ho => ⟨hw ho, hgo b hb⟩) h0
      exact innerOwn_conv h1 (.inr (.inr ⟨labs ls, rfl, by simp [innerL]⟩))
    · have h0 : innerOwn X C j (some (innerL inner')) xs v := innerOwn_conv h (.inr (.inr ⟨_, rfl, fun l hl => hl⟩))
      refine RowR.mono (fun b hb o ho => ⟨hw ho, hgo b hb⟩) (fun _ _ _ _ he => he.mono fun b hb o ho => ⟨hw ho, ?_, hb.2⟩) h0
      rcases hb.1 with h1 | h1
      · exact .inl (hR.lbs hls hL b h1)
      · exact .inr (hgo b h1)
theorem hext_rep (hh : HpOk X C hp nx) (hR : Ren X X' C C' hp h' m B L) : ∀ {l : HSk} {d : Ex'}, hext hp m B l = some d → (∀ x ∈ d.ls, x ∈ L) → (∀ p ∈ l, p.1 < B) → ∀ rest : List DV,
    ∃ hh', hinst [] id0 ver0 l (d.ds ++ rest) = (hh', rest) ∧ (∀ i b, get? hh' i = some b → blkOk X' C' h' B i b) ∧ (∀ i v t xs inner, get? hh' i = some (.row v t xs inner) → ∃ j v' xs' inner', get? m i = some j ∧ hget hp j = .row v' t xs' inner') ∧
      (∀ i l, get? hh' i = some (.cells l) → ∃ j l', get? m i = some j ∧ hget hp j = .cells l')
  | [], d, he, hL, hB, rest => by
    simp only [hext, Option.some.injEq] at he
    subst he
    exact ⟨[], rfl, fun i b h => by simp [get?] at h, fun i v t xs inner h => by simp [get?] at h, fun i l h => by simp [get?] at h⟩
  | (i, b) :: l, d, he, hL, hB, rest => by
    simp only [hext] at he
    split at he
    · rename_i d1 e1
      split at he
      · rename_i d2 e2
        cases he
        simp only at hL
        have hiB : i < B := hB (i, b) (by simp)
        obtain ⟨hh2, g1, g2, g3, g4⟩ := hext_rep hh hR e2 (fun x hx => hL x (by simp [hx])) (fun p hp => hB p (by simp [hp])) rest
        cases b with
        | cells sk =>
          simp only [BSk.ext] at e1
          split at e1
          · rename_i j hj
            split at e1
            · rename_i vs hg
              have hk := hh j
              rw [hg] at hk
              obtain ⟨hid, b, arr, e, hm, ho, hw, hl⟩ := hk
              obtain ⟨vs', q1, q2⟩ := extL_rep hh hR hl e1 (fun x hx => hL x (by simp [hx])) (d2.ds ++ rest)
              refine ⟨(i, .cells vs') :: hh2, ?_, ?_, ?_, ?_⟩
              · simp only [hinst, BSk.inst, List.append_assoc, q1, g1, id0]
              · intro k b' hb'
                rw [get?_cons] at hb'
                split at hb'
                · rename_i hik
                  subst hik
                  cases hb'
                  refine ⟨hiB, b, arr, e, (hR.mu i j hj).trans hm, hR.own b j i ho (hR.kept i j hj), by rw [hR.w]; exact hw, q2⟩
                · exact g2 k b' hb'
              · intro k v t xs inner hb'
                rw [get?_cons] at hb'
                split at hb'
                · cases hb'
                · exact g3 k v t xs inner hb'
              · intro k l hb'
                rw [get?_cons] at hb'
                split at hb'
                · rename_i hik
                  subst hik
                  exact ⟨j, vs, hj, hg⟩
                · exact g4 k l hb'
            · cases e1
          · cases e1
        | row t inner =>
          simp only [BSk.ext] at e1
          split at e1
          · rename_i j hj
            split at e1
            · rename_i vv u xs inner' hg
              split at e1
              · rename_i hc
                split at e1
                · rename_i ys hys
                  cases e1
                  simp only [Bool.and_eq_true] at hc
                  obtain ⟨hT, hy⟩ := rowCast_eq hys
                  subst hT
                  simp only at hy
                  have hy := hy.symm
                  subst hy
                  have hk := hh j
                  rw [hg] at hk
                  obtain ⟨hid, hown, ⟨A, cap, hs⟩, hin⟩ := hk
                  have hren := innerOwn_ren hR hj hc.2 (fun x hx => hL x (by simp [hx])) (hown hc.1)
                  have hinst : (match inner with | none => none | some ls => some ([] ++ ls.map fun i => (id0 i, ver0 i))) = inner.map labs := by cases inner <;> rfl
                  refine ⟨(i, .row 0 u xs (inner.map labs)) :: hh2, ?_, ?_, ?_, ?_⟩
                  · simp only [Vm.hinst, BSk.inst, List.append_assoc, List.cons_append, List.nil_append, rowCast_self, g1, id0, ver0]
                    cases inner <;> rfl
                  · intro k b' hb'
                    rw [get?_cons] at hb'
                    split at hb'
                    · rename_i hik
                      subst hik
                      cases hb'
                      refine ⟨hiB, fun _ => ?_, ⟨A, cap, by rw [hR.mu i j hj, hs]⟩, ?_⟩
                      · rw [hR.mu i j hj]; exact hren
                      · intro x hx
                        rcases innerOk_of hc.2 with ⟨rfl, _⟩ | ⟨ls, rfl, hlt, _⟩
                        · simp [innerL] at hx
                        · exact labs_ok hlt x hx
                    · exact g2 k b' hb'
                  · intro k v t xs inner hb'
                    rw [get?_cons] at hb'
                    split at hb'
                    · rename_i hik
                      subst hik
                      cases hb'
                      exact ⟨j, vv, _, inner', hj, hg⟩
                    · exact g3 k v t xs inner hb'
                  · intro k l hb'
                    rw [get?_cons] at hb'
                    split at hb'
                    · cases hb'
                    · exact g4 k l hb'
                · cases e1
              · cases e1
            · cases e1
          · cases e1
      · cases he
    · cases he
end
end Go.Vm
namespace Go.Vm
open Go Go.RowKit
set_option linter.unusedVariables false
set_option linter.unusedSimpArgs false
variable {E : Env} {X : Cx}
theorem blkOk.keep {C C' : Cc} {hp hp' : Hp} {nx nx' : Nat} (hev : Evo X C C' hp hp' nx nx') (hh : HpOk X C hp nx) {id : Nat} (he : hget hp' id = hget hp id) (hb : ∀ b, C.o b = some id → C'.o b = some id ∧ C'.w.heap[b]? = C.w.heap[b]?) : blkOk X C' hp' nx' id (hget hp id) := by
  have hk := hh id
  cases hg : hget hp id with
  | dead => trivial
  | cells l =>
    rw [hg] at hk
    obtain ⟨h1, b, arr, e, hm, ho, hw, hr⟩ := hk
    obtain ⟨h2, h3⟩ := hb b ho
    have hmu := (hev.cells id h1 l (he.trans hg)).1
    exact ⟨Nat.lt_of_lt_of_le h1 hev.le, b, arr, e, hmu.trans hm, h2, h3.trans hw, hr.evo hev hh⟩
  | row v t xs inner =>
    rw [hg] at hk
    obtain ⟨h1, ho, ⟨A, cap, hs⟩, hl⟩ := hk
    have hmu := (hev.row id h1 _ _ _ _ (he.trans hg)).1
    refine ⟨Nat.lt_of_lt_of_le h1 hev.le, fun hin => ?_, ⟨A, cap, hmu.trans hs⟩, fun l hl' => hev.okL (hl l hl')⟩
    rw [hmu]
    have hok : okL hp nx (id, v) := ⟨h1, fun v' t' xs' inner' e => by rw [hg] at e; cases e; exact Nat.le_refl _⟩
    exact innerOwn_evo hev hok (lv_of_row (he.trans hg)) hl hin (ho (hev.lvs hl hin))
/-- Names and blocks one to one. -/
structure OneOne (m : Mp) : Prop where
  kept : ∀ i j, get? m i = some j → kept m j = some i
  got : ∀ i j, Vm.kept m j = some i → get? m i = some j
theorem noDupV_cons {i j : Nat} {m : Mp} {seen : List Nat} (h : noDupV ((i, j) :: m) seen = true) : j ∉ seen ∧ noDupV m (j :: seen) = true := by
  simp only [noDupV] at h
  split at h
  · cases h
  · rename_i hm
    exact ⟨(fun h' => by rw [memN_iff.2 h'] at hm; cases hm), h⟩
theorem noDupV_seen : ∀ {m : Mp} {seen : List Nat}, noDupV m seen = true → ∀ i j, get? m i = some j → j ∉ seen
  | [], _, _, i, j, h => by simp [get?] at h
  | (a, b) :: m, seen, h, i, j, hg => by
    obtain ⟨h1, h2⟩ := noDupV_cons h
    rw [get?_cons] at hg
    split at hg
    · cases hg; exact h1
    · exact fun hs => noDupV_seen h2 i j hg (by simp [hs])
theorem kept_seen : ∀ {m : Mp} {seen : List Nat}, noDupN m seen = true → ∀ i j, kept m j = some i → i ∉ seen
  | [], _, _, i, j, h => by simp [kept] at h
  | (a, b) :: m, seen, h, i, j, hg => by
    obtain ⟨h1, h2⟩ := noDupN_cons h
    rw [kept_cons] at hg
    split at hg
    · cases hg; exact h1
    · exact fun hs => kept_seen h2 i j hg (by simp [hs])
theorem oneOne_of : ∀ {m : Mp} {s1 s2 : List Nat}, noDupV m s1 = true → noDupN m s2 = true → OneOne m
  | [], _, _, _, _ => ⟨fun i j h => by simp [get?] at h, fun i j h => by simp [kept] at h⟩
  | (a, b) :: m, s1, s2, hv, hn => by
    obtain ⟨h1, h2⟩ := noDupV_cons hv
    obtain ⟨h3, h4⟩ := noDupN_cons hn
    have ih := oneOne_of h2 h4
    refine ⟨fun i j h => ?_, fun i j h => ?_⟩
    · rw [get?_cons] at h
      rw [kept_cons]
      split at h
      · rename_i e; subst e; cases h; rw [if_pos rfl]
      · have hj : b ≠ j := by
          rintro rfl
          exact noDupV_seen h2 i b h (by simp)
        rw [if_neg hj]
        exact ih.kept i j h
    · rw [kept_cons] at h
      rw [get?_cons]
      split at h
      · rename_i e; subst e; cases h; rw [if_pos rfl]
      · have hi : a ≠ i := by
          rintro rfl
          exact kept_seen h4 a j h (by simp)
        rw [if_neg hi]
        exact ih.got i j h
theorem ext_labs {hp : Hp} {m : Mp} {B nx : Nat} {C : Cc} (hh : HpOk X C hp nx) : ∀ (sk : Sk) {av : AV} {v : Value} {d : Ex'}, RepA X C hp nx av v → sk.ext hp m B av = some d → ∀ l ∈ d.ls, okL hp nx l := by
  intro sk av v d ha he
  exact one hh sk ha he
where
  one {hp : Hp} {m : Mp} {B nx : Nat} {C : Cc} (hh : HpOk X C hp nx) : ∀ (sk : Sk) {av : AV} {v : Value} {d : Ex'}, RepA X C hp nx av v → sk.ext hp m B av = some d → ∀ l ∈ d.ls, okL hp nx l := by
    intro sk av v d ha he x hx
    cases sk with
    | frz t ls =>
      simp only [Sk.ext] at he
      split at he
      · split at he
        · cases he; simp at hx
        · cases he
      · split at he
        · rename_i rr hrr
          split at he
          · split at he
            · cases he
              exact (rowOf_rep hh ha hrr).2.1 x hx
            · cases he
          · cases he
        · cases he
    | agg l =>
      cases av with
      | agg vs =>
        simp only [Sk.ext] at he
        simp only [RepA] at ha
        obtain ⟨arr, _, ha⟩ := ha
        exact many hh l ha he x hx
      | _ => simp [Sk.ext] at he
    | tup l =>
      cases av with
      | tup vs =>
        simp only [Sk.ext] at he
        simp only [RepA] at ha
        obtain ⟨arr, _, ha⟩ := ha
        exact many hh l ha he x hx
      | _ => simp [Sk.ext] at he
    | fn g l =>
      cases av with
      | fn g' vs =>
        simp only [Sk.ext] at he
        split at he
        · simp only [RepA] at ha
          obtain ⟨arr, _, ha⟩ := ha
          exact many hh l ha he x hx
        · cases he
      | _ => simp [Sk.ext] at he
    | int k =>
      cases av <;> simp only [Sk.ext, reduceCtorEq] at he
      split at he <;> cases he
      simp at hx
    | bool =>
      simp only [Sk.ext] at he
      split at he <;> cases he
      simp at hx
    | str => cases av <;> simp only [Sk.ext, reduceCtorEq, Option.some.injEq] at he; subst he; simp at hx
    | own i =>
      cases av <;> simp only [Sk.ext, reduceCtorEq, sameName] at he
      split at he
      · split at he <;> cases he
        simp [Ex'.nil] at hx
      · cases he
    | ptr i off =>
      cases av <;> simp only [Sk.ext, reduceCtorEq, sameName] at he
      split at he
      · split at he
        · split at he <;> cases he
          simp [Ex'.nil] at hx
        · cases he
      · cases he
    | spn i n =>
      cases av <;> simp only [Sk.ext, reduceCtorEq, sameName] at he
      split at he
      · split at he
        · split at he <;> cases he
          simp [Ex'.nil] at hx
        · cases he
      · cases he
    | nil => cases av <;> simp only [Sk.ext, reduceCtorEq, Option.some.injEq] at he; subst he; simp [Ex'.nil] at hx
    | nptr => cases av <;> simp only [Sk.ext, reduceCtorEq, Option.some.injEq] at he; subst he; simp [Ex'.nil] at hx
    | cst k n =>
      cases av <;> simp only [Sk.ext, reduceCtorEq] at he
      split at he <;> cases he
      simp [Ex'.nil] at hx
    | junk =>
      have : d = Ex'.nil := by cases av <;> simp only [Sk.ext, Option.some.injEq] at he <;> exact he.symm
      subst this
      simp [Ex'.nil] at hx
  many {hp : Hp} {m : Mp} {B nx : Nat} {C : Cc} (hh : HpOk X C hp nx) : ∀ (l : List Sk) {vs : List AV} {us : List Value} {d : Ex'}, RepL X C hp nx vs us → Sk.extL hp m B l vs = some d → ∀ x ∈ d.ls, okL hp nx x := by
    intro l vs us d ha he x hx
    cases l with
    | nil =>
      cases vs <;> simp only [Sk.extL, reduceCtorEq, Option.some.injEq] at he
      subst he
      simp [Ex'.nil] at hx
    | cons sk l =>
      cases vs with
      | nil => simp [Sk.extL] at he
      | cons a vs =>
        simp only [RepL] at ha
        obtain ⟨v, r, rfl, h1, h2⟩ := ha
        simp only [Sk.extL] at he
        split at he
        · rename_i d1 e1
          split at he
          · rename_i d2 e2
            cases he
            rcases List.mem_append.1 hx with hx | hx
            · exact one hh sk h1 e1 x hx
            · exact many hh l h2 e2 x hx
          · cases he
        · cases he
theorem hext_labs {hp : Hp} {m : Mp} {B nx : Nat} {C : Cc} (hh : HpOk X C hp nx) : ∀ {l : HSk} {d : Ex'}, hext hp m B l = some d → ∀ x ∈ d.ls, okL hp nx x
  | [], d, he, x, hx => by
    simp only [hext, Option.some.injEq] at he
    subst he
    simp [Ex'.nil] at hx
  | (i, b) :: l, d, he, x, hx => by
    simp only [hext] at he
    split at he
    · rename_i d1 e1
      split at he
      · rename_i d2 e2
        cases he
        rcases List.mem_append.1 hx with hx | hx
        · cases b with
          | cells sk =>
            simp only [BSk.ext] at e1
            split at e1
            · rename_i j hj
              split at e1
              · rename_i vs hg
                have hk := hh j
                rw [hg] at hk
                obtain ⟨_, b, arr, e, _, _, _, hl⟩ := hk
                exact ext_labs.many hh sk hl e1 x hx
              · cases e1
            · cases e1
          | row t inner =>
            simp only [BSk.ext] at e1
            split at e1
            · rename_i j hj
              split at e1
              · rename_i vv u xs inner' hg
                split at e1
                · split at e1
                  · cases e1
                    have hk := hh j
                    rw [hg] at hk
                    exact hk.2.2.2 x hx
                  · cases e1
                · cases e1
              · cases e1
            · cases e1
        · exact hext_labs hh e2 x hx
      · cases he
    · cases he
theorem lt_nextOf {α : Type} : ∀ {l : List (Nat × α)} (p : Nat × α), p ∈ l → p.1 < nextOf l
  | (i, b) :: l, p, hp => by
    simp only [nextOf]
    cases hp with
    | head => exact Nat.lt_of_lt_of_le (Nat.lt_succ_self _) (Nat.le_max_left _ _)
    | tail _ hp => exact Nat.lt_of_lt_of_le (lt_nextOf p hp) (Nat.le_max_right _ _)
/-- What a taking gives. -/
theorem take_ok {sks : List Sk} {h : HSk} {m0 : Mp} {as : List AV} {hp : Hp} {nx : Nat} {g : Got} {C : Cc} {us : List Value} (hh : HpOk X C hp nx) (hf : Fr X C) (hr : RepL X C hp nx as us) (hg : takeL sks h m0 as hp nx = some g) :
    ∃ C1, Gh X C C1 hp (g.dl ++ hp) nx g.nx ∧ OneOne g.m ∧ (∀ l ∈ g.ls, okL (g.dl ++ hp) g.nx l) ∧
      (∀ p ∈ h, ∀ j, get? g.m p.1 = some j → (∀ t inner, p.2 = .row t inner → ∃ v xs inner', hget (g.dl ++ hp) j = .row v t xs inner') ∧ (∀ sk, p.2 = .cells sk → ∃ l, hget (g.dl ++ hp) j = .cells l)) ∧ (∀ p ∈ h, ∃ j, get? g.m p.1 = some j) ∧
      ∀ X' C', C'.w = C1.w → (∀ i j, get? g.m i = some j → C'.μ i = C1.μ j) → (∀ b j i, C1.o b = some j → kept g.m j = some i → C'.o b = some i) → (∀ b, X.sh C1.o b → X'.sh C'.o b) →
        (∀ l ∈ g.ls, kept g.m l.1 = none → ∀ b, C1.o b = some l.1 → X'.sh C'.o b) →
        ∃ vs h' r, Sk.instL [] id0 ver0 sks g.ds = (vs, r) ∧ hinst [] id0 ver0 h r = (h', []) ∧ RepL X' C' h' (nextOf h) vs us ∧ HpOk X' C' h' (nextOf h) := by
  unfold takeL at hg
  cases e1 : Sk.upL h hp sks as [] nx with
  | mk as1 q =>
  obtain ⟨dl1, nx1⟩ := q
  rw [e1] at hg
  simp only at hg
  split at hg
  · rename_i m1 hb
    split at hg
    · rename_i dl2 nx2 m2 hu
      split at hg
      · rename_i hnd
        simp only [Bool.and_eq_true] at hnd
        split at hg
        · rename_i a ha
          split at hg
          · rename_i b hbx
            cases hg
            obtain ⟨Ca, ga, ra⟩ := upL_ok (X := X) e1 (by simpa using hh) hf (by simpa using hr)
            obtain ⟨Cb, gb⟩ := hup_ok hu ga.hp ga.fr
            have hgh := ga.trans gb
            simp only [List.nil_append] at hgh
            have rb := ra.evo gb.evo ga.hp
            have hoo := oneOne_of hnd.1 hnd.2.1
            have hlabs : ∀ l ∈ a.ls ++ b.ls, okL (dl2 ++ hp) nx2 l := by
              intro l hl
              rcases List.mem_append.1 hl with hl | hl
              · exact ext_labs.many gb.hp sks rb ha l hl
              · exact hext_labs gb.hp hbx l hl
            refine ⟨Cb, hgh, hoo, hlabs, ?_, ?_, ?_⟩
            · exact (entries hbx).1
            · exact (entries hbx).2
            · intro X' C' hw hmu hown hsh hshl
              have hR0 : Ren X X' Cb C' (dl2 ++ hp) [] m2 (nextOf h) (a.ls ++ b.ls) := ⟨hw, hmu, hown, hsh, hshl, hoo.kept, fun i j _ v t xs inner e => by simp [hget, get?] at e, fun i j _ l e => by simp [hget, get?] at e⟩
              obtain ⟨h', q1, _, q3, q4⟩ := hext_rep gb.hp hR0 hbx (fun x hx => by simp [hx]) (fun p hp => lt_nextOf p hp) []
              have hR : Ren X X' Cb C' (dl2 ++ hp) h' m2 (nextOf h) (a.ls ++ b.ls) := ⟨hw, hmu, hown, hsh, hshl, hoo.kept, fun i j hij v t xs inner e => by
                  have e' : get? h' i = some (.row v t xs inner) := hget_some e (by simp)
                  obtain ⟨j', v', xs', inner', h1, h2⟩ := q3 i v t xs inner e'
                  rw [hij] at h1
                  cases h1
                  exact ⟨v', xs', inner', h2⟩, fun i j hij l e => by
                  have e' : get? h' i = some (.cells l) := hget_some e (by simp)
                  obtain ⟨j', l', h1, h2⟩ := q4 i l e'
                  rw [hij] at h1
                  cases h1
                  exact ⟨l', h2⟩⟩
              obtain ⟨h'', p1, p2, _, _⟩ := hext_rep gb.hp hR hbx (fun x hx => by simp [hx]) (fun p hp => lt_nextOf p hp) []
              rw [q1] at p1
              cases p1
              obtain ⟨vs, r1, r2⟩ := extL_rep gb.hp hR rb ha (fun x hx => by simp [hx]) b.ds
              refine ⟨vs, h', b.ds, r1, by simpa using q1, r2, fun id => ?_⟩
              cases hgi : get? h' id with
              | none =>
                have : hget h' id = .dead := by unfold hget; rw [hgi]
                rw [this]; trivial
              | some B =>
                have : hget h' id = B := by unfold hget; rw [hgi]
                rw [this]
                exact p2 id B hgi
          · cases hg
        · cases hg
      · cases hg
    · cases hg
  · cases hg
where
  hget_some {h : Hp} {i : Nat} {B : Blk} (e : hget h i = B) (hb : B ≠ .dead) : get? h i = some B := by
    unfold hget at e
    split at e
    · rename_i v hv; rw [hv, e]
    · exact absurd e.symm hb
  entries {hp : Hp} {m : Mp} {B : Nat} : ∀ {l : HSk} {d : Ex'}, hext hp m B l = some d → (∀ p ∈ l, ∀ j, get? m p.1 = some j → (∀ t inner, p.2 = .row t inner → ∃ v xs inner', hget hp j = .row v t xs inner') ∧ (∀ sk, p.2 = .cells sk → ∃ l, hget hp j = .cells l)) ∧ (∀ p ∈ l, ∃ j, get? m p.1 = some j) := by
    intro l
    induction l with
    | nil => intro d _; exact ⟨by simp, by simp⟩
    | cons p l ih =>
      obtain ⟨i, b⟩ := p
      intro d he
      simp only [hext] at he
      split at he
      · rename_i d1 e1
        split at he
        · rename_i d2 e2
          obtain ⟨h1, h2⟩ := ih e2
          have h0 : ∃ j, get? m i = some j ∧ (∀ t inner, b = .row t inner → ∃ v xs inner', hget hp j = .row v t xs inner') ∧ (∀ sk, b = .cells sk → ∃ l, hget hp j = .cells l) := by
            cases b with
            | cells sk =>
              simp only [BSk.ext] at e1
              split at e1
              · rename_i j hj
                split at e1
                · rename_i vs hg
                  exact ⟨j, hj, (fun t inner h => by cases h), fun sk _ => ⟨vs, hg⟩⟩
                · cases e1
              · cases e1
            | row t inner =>
              simp only [BSk.ext] at e1
              split at e1
              · rename_i j hj
                split at e1
                · rename_i vv u xs inner' hg
                  split at e1
                  · split at e1
                    · rename_i ys hys
                      obtain ⟨hT, _⟩ := rowCast_eq hys
                      subst hT
                      refine ⟨j, hj, fun t inner h => ?_, fun sk h => by cases h⟩
                      cases h
                      exact ⟨vv, xs, inner', hg⟩
                    · cases e1
                  · cases e1
                · cases e1
              · cases e1
          obtain ⟨j, hj, g1, g2⟩ := h0
          refine ⟨fun p hp j' hj' => ?_, fun p hp => ?_⟩
          · cases hp with
            | head => rw [hj] at hj'; cases hj'; exact ⟨g1, g2⟩
            | tail _ hp => exact h1 p hp j' hj'
          · cases hp with
            | head => exact ⟨j, hj⟩
            | tail _ hp => exact h2 p hp
        · cases he
      · cases he
end Go.Vm
namespace Go.Vm
open Go Go.RowKit
set_option linter.unusedVariables false
set_option linter.unusedSimpArgs false
structure EntryOk (X : Cx) (C : Cc) (S : Sig) (ds : List DV) (args : Array Value) : Prop where
  w0 : X.w0 = C.w
  o0 : X.o0 = C.o
  n0 : X.n0 = nextOf S.hin
  mu0 : X.μ0 = C.μ
  args : ∃ vs h' r, Sk.instL [] id0 ver0 S.params ds = (vs, r) ∧ hinst [] id0 ver0 S.hin r = (h', []) ∧ RepL X C h' (nextOf S.hin) vs args.toList ∧ HpOk X C h' (nextOf S.hin)
  own : ∀ b id, C.o b = some id → b < C.w.heap.size
structure ExitOk (X : Cx) (C' : Cc) (S : Sig) (ds : List DV) (v : Value) : Prop where
  res : ∃ av r h', S.res.inst [] id0 ver0 ds = (av, r) ∧ hinst [] id0 ver0 S.hout r = (h', []) ∧ RepA X C' h' (nextOf S.hout) av v ∧ HpOk X C' h' (nextOf S.hout) ∧ ∀ i, memH S.hin i = true → hget h' i ≠ .dead → C'.μ i = X.μ0 i
  fr : Fr X C'
def FnOk (P : Program) (J : Glob) (E : Env) (orc : Orc E) : Prop := ∀ g S, get? E.sg g = some S → ∀ ds d, orc g ds = some d → ∀ X C args, X.P = P → X.J = J → EntryOk X C S ds args →
  Calls P g args C.w fun e w' => ∃ v C', e = .returned v ∧ C'.w = w' ∧ ExitOk X C' S (untyped (E.rats g) d) v
/-- From the callee's state to the caller's. -/
structure Back (X X' : Cx) (C C' : Cc) (h' hn : Hp) (B nx : Nat) (bs : List Lb) (f vr : Nat → Nat) : Prop where
  w : C'.w = C.w
  lt : ∀ i, i < B → f i < nx
  mu : ∀ i, hget h' i ≠ .dead → C'.μ (f i) = C.μ i
  own : ∀ b i, C.o b = some i → C'.o b = some (f i)
  sh : ∀ b, X'.sh C.o b → lbS X C'.o bs b
  row : ∀ i, i < B → ∀ v t xs inner, hget hn (f i) = .row v t xs inner → v = vr i ∧ ∃ inner', hget h' i = .row 0 t xs inner'
  cells : ∀ i, i < B → ∀ l, hget hn (f i) = .cells l → ∃ l', hget h' i = .cells l'
  bs : ∀ l ∈ bs, okL hn nx l
section
variable {X X' : Cx} {C C' : Cc} {h' hn : Hp} {B nx : Nat} {bs : List Lb} {f vr : Nat → Nat}
def labsF (f vr : Nat → Nat) (ls : List Nat) : List Lb := ls.map fun i => (f i, vr i)
theorem Back.lbs (hB : Back X X' C C' h' hn B nx bs f vr) (ls : List Nat) : ∀ b, lbS X' C.o (labs ls) b → lbS X C'.o (bs ++ labsF f vr ls) b := by
  intro b hb
  rcases hb with hb | ⟨l, hl, hb⟩
  · exact lbS_up (fun x hx => by simp [hx]) b (hB.sh b hb)
  · simp only [labs, List.mem_map] at hl
    obtain ⟨i, hi, rfl⟩ := hl
    refine .inr ⟨(f i, vr i), ?_, hB.own b i hb⟩
    simp only [labsF, List.mem_append, List.mem_map]
    exact .inr ⟨i, hi, rfl⟩
theorem Back.labs_ok (hB : Back X X' C C' h' hn B nx bs f vr) {ls : List Nat} (h : ∀ l ∈ labs ls, okL h' B l) : ∀ l ∈ bs ++ labsF f vr ls, okL hn nx l := by
  intro l hl
  rcases List.mem_append.1 hl with hl | hl
  · exact hB.bs l hl
  · simp only [labsF, List.mem_map] at hl
    obtain ⟨i, hi, rfl⟩ := hl
    have h1 := h (i, 0) (by simp only [labs, List.mem_map]; exact ⟨i, hi, rfl⟩)
    refine ⟨hB.lt i h1.1, fun v t xs inner e => ?_⟩
    have := (hB.row i h1.1 _ _ _ _ e).1
    simp only
    omega
theorem Back.lvs (hB : Back X X' C C' h' hn B nx bs f vr) {ls : List Nat} (h : ∀ l ∈ labs ls, okL h' B l) (hl : lvs hn (bs ++ labsF f vr ls) = true) : lvs h' (labs ls) = true := by
  refine lvs_of_mem fun l hm => ?_
  have h1 := h l hm
  simp only [labs, List.mem_map] at hm
  obtain ⟨i, hi, rfl⟩ := hm
  have h2 := lvs_mem hl (f i, vr i) (by simp only [labsF, List.mem_append, List.mem_map]; exact .inr ⟨i, hi, rfl⟩)
  obtain ⟨t, xs, inner, e⟩ := lv_row h2
  obtain ⟨_, inner', e'⟩ := hB.row i h1.1 _ _ _ _ e
  exact lv_of_row e'
mutual
theorem back_rep (hB : Back X X' C C' h' hn B nx bs f vr) : ∀ (sk : Sk) {ds r : List DV} {av : AV}, sk.inst [] id0 ver0 ds = (av, r) → ∃ av2, sk.inst bs f vr ds = (av2, r) ∧ ∀ v, RepA X' C h' B av v → RepA X C' hn nx av2 v := by
  intro sk ds r av hi
  have triv : ∀ {av2 : AV}, sk.inst bs f vr ds = (av2, r) → (∀ v, RepA X' C h' B av v → RepA X C' hn nx av2 v) → ∃ av2, sk.inst bs f vr ds = (av2, r) ∧ ∀ v, RepA X' C h' B av v → RepA X C' hn nx av2 v := fun h1 h2 => ⟨_, h1, h2⟩
  cases sk with
  | int k =>
    cases ds with
    | nil => simp only [Sk.inst] at hi; cases hi; exact triv rfl (by simp [RepA])
    | cons d ds =>
      cases d <;> simp only [Sk.inst] at hi <;> cases hi <;> exact triv rfl (by intro v h; first | (simp only [RepA]; done) | (simp only [RepA] at h ⊢; exact h))
  | bool =>
    cases ds with
    | nil => simp only [Sk.inst] at hi; cases hi; exact triv rfl (by simp [RepA])
    | cons d ds =>
      cases d <;> simp only [Sk.inst] at hi <;> cases hi <;> exact triv rfl (by intro v h; first | (simp only [RepA]; done) | (simp only [RepA] at h ⊢; exact h))
  | str =>
    cases ds with
    | nil => simp only [Sk.inst] at hi; cases hi; exact triv rfl (by simp [RepA])
    | cons d ds =>
      cases d <;> simp only [Sk.inst] at hi <;> cases hi <;> exact triv rfl (by intro v h; first | (simp only [RepA]; done) | (simp only [RepA] at h ⊢; exact h))
  | frz t ls =>
    cases ds with
    | nil => simp only [Sk.inst] at hi; cases hi; exact triv rfl (by simp [RepA])
    | cons d ds =>
      cases d with
      | row u xs =>
        simp only [Sk.inst] at hi ⊢
        cases hc : rowCast u t xs with
        | none => rw [hc] at hi; cases hi; exact ⟨.junk, rfl, by simp [RepA]⟩
        | some ys =>
          rw [hc] at hi
          cases hi
          refine ⟨_, rfl, fun v h => ?_⟩
          simp only [RepA] at h ⊢
          have hl : ∀ l ∈ labs ls, okL h' B l := h.1
          exact ⟨hB.labs_ok hl, h.2.1, fun hlv => (h.2.2 (hB.lvs hl hlv)).mono fun b hb o ho => ⟨by rw [hB.w]; exact ho, hB.lbs ls b hb⟩⟩
      | _ => simp only [Sk.inst] at hi; cases hi; exact triv rfl (by simp [RepA])
  | own i =>
    simp only [Sk.inst] at hi
    cases hi
    refine ⟨.own (f i), by cases ds <;> rfl, fun v h => ?_⟩
    simp only [RepA] at h ⊢
    refine ⟨hB.lt i h.1, h.2.1, fun ver t xs inner e => ?_⟩
    obtain ⟨_, inner', e'⟩ := hB.row i h.1 _ _ _ _ e
    rw [hB.mu i (by rw [e']; simp)]
    exact h.2.2 _ _ _ _ e'
  | ptr i off =>
    simp only [Sk.inst] at hi
    cases hi
    refine ⟨.ptr (f i) off, by cases ds <;> rfl, fun v h => ?_⟩
    simp only [RepA] at h ⊢
    refine ⟨hB.lt i h.1, h.2.1, fun l e => ?_⟩
    obtain ⟨l', e'⟩ := hB.cells i h.1 _ e
    rw [hB.mu i (by rw [e']; simp)]
    exact h.2.2 _ e'
  | spn i n =>
    simp only [Sk.inst] at hi
    cases hi
    refine ⟨.spn (f i) n, by cases ds <;> rfl, fun v h => ?_⟩
    simp only [RepA] at h ⊢
    refine ⟨hB.lt i h.1, h.2.1, fun l e => ?_⟩
    obtain ⟨l', e'⟩ := hB.cells i h.1 _ e
    rw [hB.mu i (by rw [e']; simp)]
    exact h.2.2 _ e'
  | agg l =>
    cases e1 : Sk.instL [] id0 ver0 l ds with
    | mk vs r1 =>
      obtain ⟨vs2, h1, h2⟩ := backL_rep hB l e1
      have hi' : (AV.agg vs, r1) = (av, r) := by rw [← hi]; simp only [Sk.inst, e1]
      cases hi'
      refine ⟨.agg vs2, by simp only [Sk.inst, h1], fun v h => ?_⟩
      simp only [RepA] at h ⊢
      obtain ⟨arr, rfl, h⟩ := h
      exact ⟨arr, rfl, h2 _ h⟩
  | tup l =>
    cases e1 : Sk.instL [] id0 ver0 l ds with
    | mk vs r1 =>
      obtain ⟨vs2, h1, h2⟩ := backL_rep hB l e1
      have hi' : (AV.tup vs, r1) = (av, r) := by rw [← hi]; simp only [Sk.inst, e1]
      cases hi'
      refine ⟨.tup vs2, by simp only [Sk.inst, h1], fun v h => ?_⟩
      simp only [RepA] at h ⊢
      obtain ⟨arr, rfl, h⟩ := h
      exact ⟨arr, rfl, h2 _ h⟩
  | fn g l =>
    cases e1 : Sk.instL [] id0 ver0 l ds with
    | mk vs r1 =>
      obtain ⟨vs2, h1, h2⟩ := backL_rep hB l e1
      have hi' : (AV.fn g vs, r1) = (av, r) := by rw [← hi]; simp only [Sk.inst, e1]
      cases hi'
      refine ⟨.fn g vs2, by simp only [Sk.inst, h1], fun v h => ?_⟩
      simp only [RepA] at h ⊢
      obtain ⟨arr, rfl, h⟩ := h
      exact ⟨arr, rfl, h2 _ h⟩
  | nil =>
    simp only [Sk.inst] at hi
    cases hi
    exact ⟨.nil, by cases ds <;> rfl, fun v h => by simpa only [RepA] using h⟩
  | nptr =>
    simp only [Sk.inst] at hi
    cases hi
    exact ⟨.nptr, by cases ds <;> rfl, fun v h => by simpa only [RepA] using h⟩
  | cst k n =>
    simp only [Sk.inst] at hi
    cases hi
    exact ⟨.int k n, by cases ds <;> rfl, fun v h => by simpa only [RepA] using h⟩
  | junk =>
    have hi' : (AV.junk, ds) = (av, r) := by rw [← hi]; cases ds <;> rfl
    cases hi'
    exact ⟨.junk, by cases ds <;> rfl, fun v h => by simp only [RepA]⟩
theorem backL_rep (hB : Back X X' C C' h' hn B nx bs f vr) : ∀ (l : List Sk) {ds r : List DV} {vs : List AV}, Sk.instL [] id0 ver0 l ds = (vs, r) → ∃ vs2, Sk.instL bs f vr l ds = (vs2, r) ∧ ∀ us, RepL X' C h' B vs us → RepL X C' hn nx vs2 us := by
  intro l ds r vs hi
  cases l with
  | nil =>
    simp only [Sk.instL] at hi
    cases hi
    exact ⟨[], rfl, fun us h => by simpa only [RepL] using h⟩
  | cons sk l =>
    cases e1 : sk.inst [] id0 ver0 ds with
    | mk a1 r1 =>
      cases e2 : Sk.instL [] id0 ver0 l r1 with
      | mk vs1 r2 =>
        have hi' : (a1 :: vs1, r2) = (vs, r) := by rw [← hi]; simp only [Sk.instL, e1, e2]
        cases hi'
        obtain ⟨a2, h1, h2⟩ := back_rep hB sk e1
        obtain ⟨vs2, h3, h4⟩ := backL_rep hB l e2
        refine ⟨a2 :: vs2, by simp only [Sk.instL, h1, h3], fun us h => ?_⟩
        simp only [RepL] at h ⊢
        obtain ⟨v, q, rfl, g1, g2⟩ := h
        exact ⟨v, q, rfl, h2 v g1, h4 q g2⟩
end
end
/-- The same block under two namings. -/
def TwinB (bs : List Lb) (f vr : Nat → Nat) (i : Nat) (b : BSk) (B B2 : Blk) : Prop :=
  match b with
  | .cells sk => ∃ ds vs vs2 r, Sk.instL [] id0 ver0 sk ds = (vs, r) ∧ Sk.instL bs f vr sk ds = (vs2, r) ∧ B = .cells vs ∧ B2 = .cells vs2
  | .row t inner => (∃ xs, B = .row 0 t xs (inner.map labs) ∧ B2 = .row (vr i) t xs (inner.map fun ls => bs ++ labsF f vr ls)) ∨ (B = .dead ∧ B2 = .dead)
inductive Twin (bs : List Lb) (f vr : Nat → Nat) : HSk → Hp → Hp → Prop
  | nil : Twin bs f vr [] [] []
  | cons {i : Nat} {b : BSk} {l : HSk} {B B2 : Blk} {h h2 : Hp} (hk : TwinB bs f vr i b B B2) (t : Twin bs f vr l h h2) : Twin bs f vr ((i, b) :: l) ((i, B) :: h) ((f i, B2) :: h2)
theorem instL_same {bs : List Lb} {f vr : Nat → Nat} : ∀ (l : List Sk) {ds r : List DV} {vs : List AV}, Sk.instL [] id0 ver0 l ds = (vs, r) → ∃ vs2, Sk.instL bs f vr l ds = (vs2, r) := by
  intro l ds r vs h
  exact many l h
where
  one : ∀ (sk : Sk) {ds r : List DV} {av : AV}, sk.inst [] id0 ver0 ds = (av, r) → ∃ av2, sk.inst bs f vr ds = (av2, r) := by
    intro sk ds r av hi
    cases sk with
    | agg l =>
      cases e1 : Sk.instL [] id0 ver0 l ds with
      | mk vs r1 =>
        obtain ⟨vs2, h1⟩ := many l e1
        have hi' : (AV.agg vs, r1) = (av, r) := by rw [← hi]; simp only [Sk.inst, e1]
        cases hi'
        exact ⟨.agg vs2, by simp only [Sk.inst, h1]⟩
    | tup l =>
      cases e1 : Sk.instL [] id0 ver0 l ds with
      | mk vs r1 =>
        obtain ⟨vs2, h1⟩ := many l e1
        have hi' : (AV.tup vs, r1) = (av, r) := by rw [← hi]; simp only [Sk.inst, e1]
        cases hi'
        exact ⟨.tup vs2, by simp only [Sk.inst, h1]⟩
    | fn g l =>
      cases e1 : Sk.instL [] id0 ver0 l ds with
      | mk vs r1 =>
        obtain ⟨vs2, h1⟩ := many l e1
        have hi' : (AV.fn g vs, r1) = (av, r) := by rw [← hi]; simp only [Sk.inst, e1]
        cases hi'
        exact ⟨.fn g vs2, by simp only [Sk.inst, h1]⟩
    | frz t ls =>
      cases ds with
      | nil => simp only [Sk.inst] at hi; cases hi; exact ⟨_, rfl⟩
      | cons d ds =>
        cases d with
        | row u xs =>
          simp only [Sk.inst] at hi ⊢
          cases hc : rowCast u t xs with
          | none => rw [hc] at hi; cases hi; exact ⟨.junk, rfl⟩
          | some ys => rw [hc] at hi; cases hi; exact ⟨_, rfl⟩
        | _ => simp only [Sk.inst] at hi; cases hi; exact ⟨_, rfl⟩
    | int k =>
      cases ds with
      | nil => simp only [Sk.inst] at hi; cases hi; exact ⟨_, rfl⟩
      | cons d ds => cases d <;> simp only [Sk.inst] at hi <;> cases hi <;> exact ⟨_, rfl⟩
    | bool =>
      cases ds with
      | nil => simp only [Sk.inst] at hi; cases hi; exact ⟨_, rfl⟩
      | cons d ds => cases d <;> simp only [Sk.inst] at hi <;> cases hi <;> exact ⟨_, rfl⟩
    | str =>
      cases ds with
      | nil => simp only [Sk.inst] at hi; cases hi; exact ⟨_, rfl⟩
      | cons d ds => cases d <;> simp only [Sk.inst] at hi <;> cases hi <;> exact ⟨_, rfl⟩
    | own i => simp only [Sk.inst] at hi; cases hi; exact ⟨.own (f i), by cases ds <;> rfl⟩
    | ptr i off => simp only [Sk.inst] at hi; cases hi; exact ⟨.ptr (f i) off, by cases ds <;> rfl⟩
    | spn i n => simp only [Sk.inst] at hi; cases hi; exact ⟨.spn (f i) n, by cases ds <;> rfl⟩
    | nil => simp only [Sk.inst] at hi; cases hi; exact ⟨.nil, by cases ds <;> rfl⟩
    | nptr => simp only [Sk.inst] at hi; cases hi; exact ⟨.nptr, by cases ds <;> rfl⟩
    | cst k n => simp only [Sk.inst] at hi; cases hi; exact ⟨.int k n, by cases ds <;> rfl⟩
    | junk =>
      have hi' : (AV.junk, ds) = (av, r) := by rw [← hi]; cases ds <;> rfl
      cases hi'
      exact ⟨.junk, by cases ds <;> rfl⟩
  many : ∀ (l : List Sk) {ds r : List DV} {vs : List AV}, Sk.instL [] id0 ver0 l ds = (vs, r) → ∃ vs2, Sk.instL bs f vr l ds = (vs2, r) := by
    intro l ds r vs hi
    cases l with
    | nil =>
      simp only [Sk.instL] at hi
      cases hi
      exact ⟨[], rfl⟩
    | cons sk l =>
      cases e1 : sk.inst [] id0 ver0 ds with
      | mk a1 r1 =>
        cases e2 : Sk.instL [] id0 ver0 l r1 with
        | mk vs1 r2 =>
          have hi' : (a1 :: vs1, r2) = (vs, r) := by rw [← hi]; simp only [Sk.instL, e1, e2]
          cases hi'
          obtain ⟨a2, h1⟩ := one sk e1
          obtain ⟨vs2, h3⟩ := many l e2
          exact ⟨a2 :: vs2, by simp only [Sk.instL, h1, h3]⟩
theorem twin_of {bs : List Lb} {f vr : Nat → Nat} : ∀ {l : HSk} {ds r : List DV} {h : Hp}, hinst [] id0 ver0 l ds = (h, r) → ∃ h2, hinst bs f vr l ds = (h2, r) ∧ Twin bs f vr l h h2
  | [], ds, r, h, e => by
    simp only [hinst] at e
    cases e
    exact ⟨[], rfl, .nil⟩
  | (i, b) :: l, ds, r, h, e => by
    cases b with
    | cells sk =>
      cases e1 : Sk.instL [] id0 ver0 sk ds with
      | mk vs r1 =>
        cases e2 : hinst [] id0 ver0 l r1 with
        | mk h1 r2 =>
          have e' : ((i, Blk.cells vs) :: h1, r2) = (h, r) := by rw [← e]; simp only [hinst, BSk.inst, e1, e2, id0]
          cases e'
          obtain ⟨vs2, g1⟩ := instL_same (bs := bs) (f := f) (vr := vr) sk e1
          obtain ⟨h2, g2, g3⟩ := twin_of (bs := bs) (f := f) (vr := vr) e2
          exact ⟨(f i, .cells vs2) :: h2, by simp only [hinst, BSk.inst, g1, g2], .cons ⟨ds, vs, vs2, r1, e1, g1, rfl, rfl⟩ g3⟩
    | row t inner =>
      have dead : ∀ {r1 : List DV}, BSk.inst [] id0 ver0 (ver0 i) (.row t inner) ds = (.dead, r1) → BSk.inst bs f vr (vr i) (.row t inner) ds = (.dead, r1) → ∃ h2, hinst bs f vr ((i, .row t inner) :: l) ds = (h2, r) ∧ Twin bs f vr ((i, .row t inner) :: l) h h2 := by
        intro r1 q1 q2
        cases e2 : hinst [] id0 ver0 l r1 with
        | mk h1 r2 =>
          have e' : ((i, Blk.dead) :: h1, r2) = (h, r) := by rw [← e]; simp only [hinst, q1, e2, id0]
          cases e'
          obtain ⟨h2, g2, g3⟩ := twin_of (bs := bs) (f := f) (vr := vr) e2
          exact ⟨(f i, .dead) :: h2, by simp only [hinst, q2, g2], .cons (.inr ⟨rfl, rfl⟩) g3⟩
      cases ds with
      | nil => exact dead (r1 := []) rfl rfl
      | cons d ds =>
        cases d with
        | row u xs =>
          cases hc : rowCast u t xs with
          | none => exact dead (r1 := ds) (by simp only [BSk.inst, hc]) (by simp only [BSk.inst, hc])
          | some ys =>
            cases e2 : hinst [] id0 ver0 l ds with
            | mk h1 r2 =>
              have q1 : BSk.inst [] id0 ver0 (ver0 i) (.row t inner) (.row u xs :: ds) = (.row 0 t ys (inner.map labs), ds) := by
                simp only [BSk.inst, hc, ver0]
                cases inner <;> rfl
              have q2 : BSk.inst bs f vr (vr i) (.row t inner) (.row u xs :: ds) = (.row (vr i) t ys (inner.map fun ls => bs ++ labsF f vr ls), ds) := by
                simp only [BSk.inst, hc]
                cases inner <;> rfl
              have e' : ((i, Blk.row 0 t ys (inner.map labs)) :: h1, r2) = (h, r) := by rw [← e]; simp only [hinst, q1, e2, id0]
              cases e'
              obtain ⟨h2, g2, g3⟩ := twin_of (bs := bs) (f := f) (vr := vr) e2
              exact ⟨(f i, .row (vr i) t ys (inner.map fun ls => bs ++ labsF f vr ls)) :: h2, by simp only [hinst, q2, g2], .cons (.inl ⟨ys, rfl, rfl⟩) g3⟩
        | int n => exact dead (r1 := .int n :: ds) rfl rfl
        | bool n => exact dead (r1 := .bool n :: ds) rfl rfl
        | str n => exact dead (r1 := .str n :: ds) rfl rfl
theorem twin_get {bs : List Lb} {f vr : Nat → Nat} {l : HSk} {h h2 : Hp} (t : Twin bs f vr l h h2) (hinj : ∀ i i', memH l i = true → memH l i' = true → f i = f i' → i = i') {k : Nat} {B2 : Blk} (e : get? h2 k = some B2) : ∃ i b B, memH l i = true ∧ k = f i ∧ get? l i = some b ∧ get? h i = some B ∧ TwinB bs f vr i b B B2 := by
  induction t with
  | nil => simp [get?] at e
  | cons hk t ih =>
    rename_i i b l B B2' h h2
    rw [get?_cons] at e
    split at e
    · rename_i hki
      cases e
      exact ⟨i, b, B, by simp [memH], hki.symm, by rw [get?_cons, if_pos rfl], by rw [get?_cons, if_pos rfl], hk⟩
    · rename_i hki
      obtain ⟨i', b', B', h1, h3, h4, h5, h6⟩ := ih (fun a a' ha ha' => hinj a a' (memH_tail ha) (memH_tail ha')) e
      have hne : i ≠ i' := by
        rintro rfl
        exact hki h3.symm
      exact ⟨i', b', B', memH_tail h1, h3, by rw [get?_cons, if_neg hne]; exact h4, by rw [get?_cons, if_neg hne]; exact h5, h6⟩
where
  memH_tail {a : Nat} {b : BSk} {l : HSk} {k : Nat} (h : memH l k = true) : memH ((a, b) :: l) k = true := by
    simp only [memH]
    split
    · rfl
    · exact h
theorem twin_none {bs : List Lb} {f vr : Nat → Nat} {l : HSk} {h h2 : Hp} (t : Twin bs f vr l h h2) {i : Nat} (hi : memH l i = true) : get? h2 (f i) ≠ none := by
  induction t with
  | nil => simp [memH] at hi
  | cons hk t ih =>
    rename_i a b l B B2 h h2
    rw [get?_cons]
    split
    · simp
    · rename_i hne
      simp only [memH] at hi
      split at hi
      · rename_i hb
        have := Nat.eq_of_beq_eq_true hb
        subst this
        exact absurd rfl hne
      · exact ih hi
theorem get?_memH : ∀ {l : HSk} {i : Nat} {b : BSk}, get? l i = some b → memH l i = true
  | [], i, b, h => by simp [get?] at h
  | (a, c) :: l, i, b, h => by
    rw [get?_cons] at h
    simp only [memH]
    split at h
    · rename_i e; subst e; simp
    · split
      · rfl
      · exact get?_memH h
theorem memH_lt : ∀ {l : HSk} {i : Nat}, memH l i = true → i < nextOf l
  | [], i, h => by simp [memH] at h
  | (a, c) :: l, i, h => by
    simp only [memH] at h
    simp only [nextOf]
    split at h
    · rename_i hb
      have := Nat.eq_of_beq_eq_true hb
      subst this
      exact Nat.lt_of_lt_of_le (Nat.lt_succ_self _) (Nat.le_max_left _ _)
    · exact Nat.lt_of_lt_of_le (memH_lt h) (Nat.le_max_right _ _)
end Go.Vm
namespace Go.Vm
open Go Go.RowKit
set_option linter.unusedVariables false
set_option linter.unusedSimpArgs false
variable {E : Env} {R : Type} {X : Cx} {C : Cc} {s : St} {κ : Out → Option R} {r : R} {orc : Orc E}
def Cc.ren (C : Cc) (m : Mp) : Cc where
  w := C.w
  μ := fun i => match get? m i with | some j => C.μ j | none => .slice none 0 0
  o := fun b => match C.o b with | some j => kept m j | none => none
/-- The caller's state behind a call. -/
def Cc.back (hi : HSk) (C1 C2 : Cc) (m : Mp) (nx : Nat) : Cc where
  w := C2.w
  μ := fun k => if k < nx then C1.μ k else C2.μ (k - nx)
  o := fun b => match C2.o b with
    | some i => some (nameOf hi m nx i)
    | none => match C1.o b with
      | some j => match kept m j with
        | some _ => none
        | none => some j
      | none => none
theorem gone_get {hi ho : HSk} : ∀ {m : Mp} {k : Nat}, get? (goneEff hi ho m) k = none ∨ (get? (goneEff hi ho m) k = some .dead ∧ ∃ i, (memH ho i && memH hi i) = false ∧ (i, k) ∈ m)
  | [], k => .inl rfl
  | (i, j) :: m, k => by
    simp only [goneEff]
    split
    · rcases gone_get (hi := hi) (ho := ho) (m := m) (k := k) with h | ⟨h, i', h1, h2⟩
      · exact .inl h
      · exact .inr ⟨h, i', h1, by simp [h2]⟩
    · rename_i hm
      rw [get?_cons]
      split
      · rename_i hjk
        subst hjk
        exact .inr ⟨rfl, i, hm, by simp⟩
      · rcases gone_get (hi := hi) (ho := ho) (m := m) (k := k) with h | ⟨h, i', h1, h2⟩
        · exact .inl h
        · exact .inr ⟨h, i', h1, by simp [h2]⟩
theorem gone_mem {hi ho : HSk} : ∀ {m : Mp} {i k : Nat}, (i, k) ∈ m → (memH ho i && memH hi i) = false → get? (goneEff hi ho m) k = some .dead
  | [], i, k, h, _ => by simp at h
  | (a, b) :: m, i, k, h, hm => by
    simp only [goneEff]
    cases h with
    | head =>
      rw [hm]
      rw [get?_cons, if_pos rfl]
    | tail _ h =>
      have ih := gone_mem (hi := hi) (ho := ho) h hm
      split
      · exact ih
      · rw [get?_cons]
        split
        · rfl
        · exact ih
theorem get?_mem {α : Type} : ∀ {m : List (Nat × α)} {i : Nat} {j : α}, get? m i = some j → (i, j) ∈ m
  | [], i, j, h => by simp [get?] at h
  | (a, b) :: m, i, j, h => by
    rw [get?_cons] at h
    split at h
    · rename_i e; subst e; cases h; simp
    · simp [get?_mem h]
theorem backOk_row {hi : HSk} : ∀ {ho : HSk}, backOk hi ho = true → ∀ {i : Nat} {t : Ty} {inner : Option (List Nat)}, get? ho i = some (.row t inner) → memH hi i = true → ∃ inner', get? hi i = some (.row t inner')
  | [], _, i, t, inner, h, _ => by simp [get?] at h
  | (a, c) :: ho, hb, i, t, inner, h, hm => by
    simp only [backOk, Bool.and_eq_true] at hb
    rw [get?_cons] at h
    split at h
    · rename_i e
      subst e
      cases h
      have h1 := hb.1
      cases hg : get? hi a with
      | none => exact absurd hg (by
          intro hg
          exact memH_get hm hg)
      | some q =>
        cases q with
        | cells l => rw [hg] at h1; simp at h1
        | row u inner' =>
          rw [hg] at h1
          have := Ty.beq_eq h1
          subst this
          exact ⟨inner', rfl⟩
    · exact backOk_row hb.2 h hm
where
  memH_get : ∀ {l : HSk} {i : Nat}, memH l i = true → get? l i = none → False := by
    intro l
    induction l with
    | nil => intro i h; simp [memH] at h
    | cons p l ih =>
      intro i h hg
      obtain ⟨a, b⟩ := p
      rw [get?_cons] at hg
      simp only [memH] at h
      split at hg
      · cases hg
      · rename_i hne
        rw [beq_false' hne] at h
        exact ih h hg
theorem backOk_cells {hi : HSk} : ∀ {ho : HSk}, backOk hi ho = true → ∀ {i : Nat} {l : List Sk}, get? ho i = some (.cells l) → memH hi i = true → ∃ l', get? hi i = some (.cells l')
  | [], _, i, l, h, _ => by simp [get?] at h
  | (a, c) :: ho, hb, i, l, h, hm => by
    simp only [backOk, Bool.and_eq_true] at hb
    rw [get?_cons] at h
    split at h
    · rename_i e
      subst e
      cases h
      have h1 := hb.1
      cases hg : get? hi a with
      | none => exact (backOk_row.memH_get hm hg).elim
      | some q =>
        cases q with
        | cells l' => exact ⟨l', rfl⟩
        | row u inner' => rw [hg] at h1; simp at h1
    · exact backOk_cells hb.2 h hm
theorem noDupN_get {α : Type} : ∀ {l : List (Nat × α)} {seen : List Nat}, noDupN l seen = true → ∀ {p : Nat × α}, p ∈ l → get? l p.1 = some p.2
  | [], _, _, p, hp => by simp at hp
  | (i, a) :: l, seen, h, p, hp => by
    obtain ⟨h1, h2⟩ := noDupN_cons h
    rw [get?_cons]
    cases hp with
    | head => rw [if_pos rfl]
    | tail _ hp =>
      have := noDupN_seen h2 p hp
      rw [if_neg (by rintro rfl; exact this (by simp))]
      exact noDupN_get h2 hp
theorem plain_sound (hP : FnOk X.P X.J E orc) {g : Nat} (hh : HpOk X C s.hp s.nx) (hf : Fr X C) {as : List AV} {us : Array Value} (hrep : RepL X C s.hp s.nx as us.toList) (hr : (callPlain s g as : Tr E Out).run orc κ = some r) :
    Calls X.P g us C.w fun e w' => ∃ v, e = .returned v ∧ Done X C s κ r v w' := by
  unfold callPlain at hr
  split at hr
  · rename_i S hS
    split at hr
    · rename_i hbk
      simp only [Bool.and_eq_true] at hbk
      split at hr
      · rename_i t ht
        simp only [Tr.run, Option.bind_eq_some_iff] at hr
        obtain ⟨d, hd, hr⟩ := hr
        obtain ⟨C1, gh, hoo, hlabs, hent, hhave, hfin⟩ := take_ok hh hf hrep ht
        have hw1 : C1.w = C.w := gh.w
        -- the callee's view
        let C0 := C1.ren t.m
        let A : Nat → Prop := fun b => X.sh C1.o b ∨ ∃ l ∈ t.ls, kept t.m l.1 = none ∧ C1.o b = some l.1
        let X' : Cx := { P := X.P, w0 := C.w, o0 := C0.o, A := A, n0 := nextOf S.hin, μ0 := C0.μ, J := X.J, inv := X.J.st gh.fr.inv fun b _ ho => ⟨by simp only [C0, Cc.ren, ho], by rw [hw1]⟩ }
        have ho_none : ∀ b, C1.o b = none → C0.o b = none := fun b h => by simp only [C0, Cc.ren, h]
        have ho_some : ∀ b j, C1.o b = some j → C0.o b = kept t.m j := fun b j h => by simp only [C0, Cc.ren, h]
        obtain ⟨vs, h0, r0, q1, q2, q3, q4⟩ := hfin X' C0 rfl (fun i j h => by simp only [C0, Cc.ren, h]) (fun b j i h1 h2 => by rw [ho_some b j h1, h2]) (fun b h => ⟨ho_none b h.1, .inl (.inl h)⟩)
          (fun l hl hk b hb => ⟨by rw [ho_some b _ hb, hk], .inl (.inr ⟨l, hl, hk, hb⟩)⟩)
        have hentry : EntryOk X' C0 S t.ds us := by
          refine ⟨hw1.symm, rfl, rfl, rfl, ⟨vs, h0, r0, q1, q2, q3, q4⟩, fun b id hb => ?_⟩
          cases ho : C1.o b with
          | none => rw [ho_none b ho] at hb; cases hb
          | some j => exact (gh.fr.own b j ho).1
        have hcall := hP g S hS t.ds d hd X' C0 us rfl rfl hentry
        have hcw : C0.w = C.w := hw1
        rw [hcw] at hcall
        refine hcall.mono ?_
        rintro e w' ⟨v, C2, rfl, hw2, hexit⟩
        refine ⟨v, rfl, ?_⟩
        obtain ⟨av, r1, h', p1, p2, p3, p4, p5⟩ := hexit.res
        have hfr := hexit.fr
        have hoo1 := hoo.kept
        have hoo2 := hoo.got
        have hlive : ∀ i j, memH S.hin i = true → get? t.m i = some j → j < t.nx := by
          intro i j hi hj
          obtain ⟨p, hp, hpi⟩ := memH_mem hi
          subst hpi
          obtain ⟨e1, e2⟩ := hent p hp j hj
          refine hp_lt gh.hp ?_
          cases hb : p.2 with
          | cells sk => obtain ⟨l, hl⟩ := e2 sk hb; rw [hl]; simp
          | row tt inner => obtain ⟨v, xs, ii, hl⟩ := e1 tt inner hb; rw [hl]; simp
        have hgot : ∀ i, memH S.hin i = true → ∃ j, get? t.m i = some j := by
          intro i hi
          obtain ⟨p, hp, hpi⟩ := memH_mem hi
          subst hpi
          exact hhave p hp
        -- the names
        let f := nameOf S.hin t.m t.nx
        let vr := nvOf (t.dl ++ s.hp) S.hin t.m
        have hf1 : ∀ i j, memH S.hin i = true → get? t.m i = some j → f i = j ∧ vr i = verOf (t.dl ++ s.hp) j + 1 := fun i j h1 h2 => ⟨by simp only [f, nameOf, h1, h2], by simp only [vr, nvOf, h1, h2]⟩
        have hf2 : ∀ i, memH S.hin i = false → f i = t.nx + i ∧ vr i = 0 := fun i h1 => ⟨by simp only [f, nameOf, h1], by simp only [vr, nvOf, h1]⟩
        have hinj : ∀ i i', f i = f i' → i = i' := by
          intro i i' he
          cases h1 : memH S.hin i with
          | true =>
            obtain ⟨j, hj⟩ := hgot i h1
            have e1 := (hf1 i j h1 hj).1
            have l1 := hlive i j h1 hj
            cases h2 : memH S.hin i' with
            | true =>
              obtain ⟨j', hj'⟩ := hgot i' h2
              have e2 := (hf1 i' j' h2 hj').1
              have : j = j' := by omega
              subst this
              have k1 := hoo1 i j hj
              have k2 := hoo1 i' j hj'
              rw [k1] at k2
              exact Option.some.inj k2
            | false =>
              have e2 := (hf2 i' h2).1
              omega
          | false =>
            have e1 := (hf2 i h1).1
            cases h2 : memH S.hin i' with
            | true =>
              obtain ⟨j', hj'⟩ := hgot i' h2
              have e2 := (hf1 i' j' h2 hj').1
              have l2 := hlive i' j' h2 hj'
              omega
            | false =>
              have e2 := (hf2 i' h2).1
              omega
        obtain ⟨av2, hinst1⟩ : ∃ av2, S.res.inst t.ls f vr (untyped (E.rats g) d) = (av2, r1) := instL_same.one S.res p1
        obtain ⟨h2, hinst2, htw⟩ := twin_of (bs := t.ls) (f := f) (vr := vr) p2
        have hr' : κ ⟨av2, h2 ++ (goneEff S.hin S.hout t.m ++ t.dl), t.nx + nextOf S.hout⟩ = some r := by
          have hr2 : (afterCall S t s.hp (untyped (E.rats g) d) : Tr E Out).run orc κ = some r := hr
          simp only [afterCall, Tr.run] at hr2
          rw [show S.res.inst t.ls (nameOf S.hin t.m t.nx) (nvOf (t.dl ++ s.hp) S.hin t.m) (untyped (E.rats g) d) = (av2, r1) from hinst1] at hr2
          simp only at hr2
          rw [show hinst t.ls (nameOf S.hin t.m t.nx) (nvOf (t.dl ++ s.hp) S.hin t.m) S.hout r1 = (h2, []) from hinst2] at hr2
          exact hr2
        have hgets : ∀ {k : Nat} {B2 : Blk}, get? h2 k = some B2 → ∃ i b B, memH S.hout i = true ∧ k = f i ∧ get? S.hout i = some b ∧ get? h' i = some B ∧ TwinB t.ls f vr i b B B2 := fun e => twin_get htw (fun i i' _ _ h => hinj i i' h) e
        let hn := (h2 ++ (goneEff S.hin S.hout t.m ++ t.dl)) ++ s.hp
        have hnA : ∀ k B2, get? h2 k = some B2 → hget hn k = B2 := by
          intro k B2 e
          simp only [hn]
          rw [List.append_assoc, hget_append, e]
        have hnB : ∀ k, get? h2 k = none → (hget hn k = .dead ∧ ∃ i, (memH S.hout i && memH S.hin i) = false ∧ (i, k) ∈ t.m) ∨ (get? (goneEff S.hin S.hout t.m) k = none ∧ hget hn k = hget (t.dl ++ s.hp) k) := by
          intro k e
          simp only [hn]
          rw [List.append_assoc, hget_append, e]
          simp only
          rw [List.append_assoc, hget_append]
          rcases gone_get (hi := S.hin) (ho := S.hout) (m := t.m) (k := k) with h | ⟨h, i, h1, h3⟩
          · rw [h]; exact .inr ⟨rfl, rfl⟩
          · rw [h]; exact .inl ⟨rfl, i, h1, h3⟩
        -- what is handed on is renamed or gone
        have hkept_out : ∀ k, get? h2 k = none → get? (goneEff S.hin S.hout t.m) k = none → kept t.m k = none := by
          intro k e1 e2
          cases hk : kept t.m k with
          | none => rfl
          | some i =>
            have hg := hoo2 i k hk
            cases hm : memH S.hout i && memH S.hin i with
            | false => rw [gone_mem (get?_mem hg) hm] at e2; cases e2
            | true =>
              simp only [Bool.and_eq_true] at hm
              have := twin_none htw hm.1
              rw [(hf1 i k hm.2 hg).1] at this
              exact absurd e1 this
        have hB0 : ∀ b i, C2.o b = some i → C1.o b = none ∨ ∃ j, C1.o b = some j ∧ kept t.m j ≠ none := by
          intro b i hb
          cases ho : C1.o b with
          | none => exact .inl rfl
          | some j =>
            refine .inr ⟨j, rfl, fun hk => ?_⟩
            rcases (hfr.own b i hb).2 with h | h
            · have h3 := (gh.fr.own b j ho).1
              rw [hw1] at h3
              have h4 : C.w.heap.size ≤ b := h
              omega
            · exact h (by show C0.o b = none; rw [ho_some b j ho, hk])
        let C3 := Cc.back S.hin C1 C2 t.m t.nx
        have hsame : ∀ b, b < C.w.heap.size → C0.o b = none → C2.w.heap[b]? = C1.w.heap[b]? := by
          intro b hb ho
          have := hfr.block b hb ho
          rw [this, hw1]
        have ho3 : ∀ b, C2.o b = none → ∀ j, C1.o b = some j → kept t.m j = none → C3.o b = some j := by
          intro b h1 j h3 h4
          simp only [C3, Cc.back, h1, h3, h4]
        have hevo : Evo X C1 C3 (t.dl ++ s.hp) hn t.nx (t.nx + nextOf S.hout) := by
          refine ⟨Nat.le_add_right _ _, fun id hid v' tt xs' inner' e => ?_, fun id hid l' e => ?_, fun b hb ho => ?_⟩
          · have hmu3 : C3.μ id = C1.μ id := by simp only [C3, Cc.back]; rw [if_pos hid]
            refine ⟨hmu3, ?_⟩
            cases hg : get? h2 id with
            | some B2 =>
              have e1 := hnA id B2 hg
              rw [e1] at e
              obtain ⟨i, b, B, m1, m2, m3, m4, m5⟩ := hgets hg
              cases hmi : memH S.hin i with
              | false => have := (hf2 i hmi).1; omega
              | true =>
                obtain ⟨j, hj⟩ := hgot i hmi
                obtain ⟨n1, n2⟩ := hf1 i j hmi hj
                have hij : j = id := by omega
                subst hij
                cases b with
                | cells sk =>
                  obtain ⟨_, _, _, _, _, _, _, hB2⟩ := m5
                  rw [hB2] at e; cases e
                | row t' inner =>
                  rcases m5 with ⟨xs, hB, hB2⟩ | ⟨hB, hB2⟩
                  · rw [hB2] at e
                    cases e
                    obtain ⟨inner0, hi0⟩ := backOk_row hbk.1 m3 hmi
                    obtain ⟨v0, xs0, ii0, hold⟩ := (hent (i, .row tt inner0) (get?_mem hi0) j hj).1 tt inner0 rfl
                    refine ⟨v0, xs0, ii0, hold, ?_, ?_, ?_⟩
                    · -- the length is told by the slice
                      have k1 := gh.hp j
                      rw [hold] at k1
                      obtain ⟨_, _, ⟨A1, cap1, hs1⟩, _⟩ := k1
                      have k2 := p4 i
                      have hhi : hget h' i = .row 0 tt xs' (inner.map labs) := by unfold hget; rw [m4, hB]
                      rw [hhi] at k2
                      obtain ⟨_, _, ⟨A2, cap2, hs2⟩, _⟩ := k2
                      have hmm := p5 i hmi (by rw [hhi]; simp)
                      have hm0 : X'.μ0 i = C1.μ j := by show C0.μ i = C1.μ j; simp only [C0, Cc.ren, hj]
                      rw [hmm, hm0, hs1] at hs2
                      simp only [Value.slice.injEq] at hs2
                      exact hs2.2.1.symm
                    · rw [n2]; simp only [verOf, hold]; omega
                    · intro hv
                      exfalso
                      rw [n2] at hv
                      simp only [verOf, hold] at hv
                      omega
                  · rw [hB2] at e; cases e
            | none =>
              rcases hnB id hg with ⟨h1, _⟩ | ⟨h1, h3⟩
              · rw [h1] at e; cases e
              · have hkk := hkept_out id hg h1
                refine ⟨v', xs', inner', by rw [← h3]; exact e, rfl, Nat.le_refl _, fun _ => ⟨h3, fun b hb => ?_⟩⟩
                have hn2 : C2.o b = none := by
                  cases h5 : C2.o b with
                  | none => rfl
                  | some i =>
                    rcases hB0 b i h5 with h6 | ⟨j, h6, h7⟩
                    · rw [h6] at hb; cases hb
                    · rw [h6] at hb; cases hb; exact absurd hkk h7
                refine ⟨ho3 b hn2 id hb hkk, ?_⟩
                have hbs := (gh.fr.own b id hb).1
                rw [hw1] at hbs
                exact hsame b hbs (by rw [ho_some b id hb, hkk])
          · have hmu3 : C3.μ id = C1.μ id := by simp only [C3, Cc.back]; rw [if_pos hid]
            refine ⟨hmu3, ?_⟩
            cases hg : get? h2 id with
            | some B2 =>
              have e1 := hnA id B2 hg
              rw [e1] at e
              obtain ⟨i, b, B, m1, m2, m3, m4, m5⟩ := hgets hg
              cases hmi : memH S.hin i with
              | false => have := (hf2 i hmi).1; omega
              | true =>
                obtain ⟨j, hj⟩ := hgot i hmi
                obtain ⟨n1, n2⟩ := hf1 i j hmi hj
                have hij : j = id := by omega
                subst hij
                cases b with
                | cells sk =>
                  obtain ⟨l0, hi0⟩ := backOk_cells hbk.1 m3 hmi
                  exact (hent (i, .cells l0) (get?_mem hi0) j hj).2 l0 rfl
                | row t' inner =>
                  rcases m5 with ⟨xs, hB, hB2⟩ | ⟨hB, hB2⟩ <;> (rw [hB2] at e; cases e)
            | none =>
              rcases hnB id hg with ⟨h1, _⟩ | ⟨h1, h3⟩
              · rw [h1] at e; cases e
              · exact ⟨l', by rw [← h3]; exact e⟩
          · have hbs : b < C.w.heap.size := by rw [← hw1]; exact hb
            refine ⟨?_, hsame b hbs (ho_none b ho)⟩
            have hn2 : C2.o b = none := by
              cases h5 : C2.o b with
              | none => rfl
              | some i =>
                rcases (hfr.own b i h5).2 with h | h
                · have h4 : C.w.heap.size ≤ b := h
                  omega
                · exact absurd (ho_none b ho) h
            simp only [C3, Cc.back, hn2, ho]
        have hdead_hi : ∀ k, t.nx ≤ k → hget (t.dl ++ s.hp) k = .dead := by
          intro k hk
          cases hg : hget (t.dl ++ s.hp) k with
          | dead => rfl
          | cells l => have := hp_lt gh.hp (k := k) (by rw [hg]; simp); omega
          | row v tt xs inner => have := hp_lt gh.hp (k := k) (by rw [hg]; simp); omega
        have hnout : ∀ i, memH S.hout i = false → hget hn (f i) = .dead := by
          intro i hi
          have h0 : get? h2 (f i) = none := by
            cases hg : get? h2 (f i) with
            | none => rfl
            | some B2 =>
              obtain ⟨i', _, _, m1, m2, _⟩ := hgets hg
              have := hinj _ _ m2
              subst this
              rw [hi] at m1; cases m1
          rcases hnB _ h0 with ⟨h1, _⟩ | ⟨h1, h3⟩
          · exact h1
          · cases hmi : memH S.hin i with
            | true =>
              obtain ⟨j, hj⟩ := hgot i hmi
              rw [(hf1 i j hmi hj).1, gone_mem (get?_mem hj) (by rw [hi]; rfl)] at h1
              cases h1
            | false =>
              rw [h3]
              exact hdead_hi _ (by rw [(hf2 i hmi).1]; omega)
        have hback : Back X X' C2 C3 h' hn (nextOf S.hout) (t.nx + nextOf S.hout) t.ls f vr := by
          refine ⟨rfl, fun i hi => ?_, fun i hi => ?_, fun b i hb => by simp only [C3, Cc.back, hb]; rfl, fun b hb => ?_, fun i hi v tt xs inner e => ?_, fun i hi l e => ?_, fun l hl => hevo.okL (hlabs l hl)⟩
          · cases hmi : memH S.hin i with
            | true =>
              obtain ⟨j, hj⟩ := hgot i hmi
              rw [(hf1 i j hmi hj).1]
              have := hlive i j hmi hj
              omega
            | false => rw [(hf2 i hmi).1]; omega
          · cases hmi : memH S.hin i with
            | true =>
              obtain ⟨j, hj⟩ := hgot i hmi
              rw [(hf1 i j hmi hj).1]
              have hlt := hlive i j hmi hj
              have h5 := p5 i hmi hi
              have hm0 : X'.μ0 i = C1.μ j := by show C0.μ i = C1.μ j; simp only [C0, Cc.ren, hj]
              rw [h5, hm0]
              simp only [C3, Cc.back]
              rw [if_pos hlt]
            | false =>
              rw [(hf2 i hmi).1]
              simp only [C3, Cc.back]
              rw [if_neg (by omega), Nat.add_sub_cancel_left]
          · obtain ⟨h1, h3⟩ := hb
            have hnone : C1.o b = none → C3.o b = none := fun h => by simp only [C3, Cc.back, h1, h]
            rcases h3 with (h3 | ⟨l, hl, hk, h3⟩) | h3 | h3
            · exact .inl ⟨hnone h3.1, h3.2⟩
            · exact .inr ⟨l, hl, ho3 b h1 _ h3 hk⟩
            · have h4 : C.w.heap.size ≤ b := h3
              have h5 : C1.o b = none := by
                cases ho : C1.o b with
                | none => rfl
                | some j =>
                  have := (gh.fr.own b j ho).1
                  rw [hw1] at this
                  omega
              exact .inl ⟨hnone h5, .inr (.inl (Nat.le_trans hf.size h4))⟩
            · have h4 : C0.o b ≠ none := h3
              cases ho : C1.o b with
              | none => exact absurd (ho_none b ho) h4
              | some j =>
                rw [ho_some b j ho] at h4
                cases hk : kept t.m j with
                | none => exact absurd hk h4
                | some i => exact .inl ⟨by simp only [C3, Cc.back, h1, ho, hk], .inr ((gh.fr.own b j ho).2)⟩
          · cases hmo : memH S.hout i with
            | false => rw [hnout i hmo] at e; cases e
            | true =>
              have h0 := twin_none htw hmo
              cases hg : get? h2 (f i) with
              | none => exact absurd hg h0
              | some B2 =>
                rw [hnA _ _ hg] at e
                obtain ⟨i', b, B, m1, m2, m3, m4, m5⟩ := hgets hg
                have := hinj _ _ m2
                subst this
                cases b with
                | cells sk =>
                  obtain ⟨_, _, _, _, _, _, _, hB2⟩ := m5
                  rw [hB2] at e; cases e
                | row t' inner =>
                  rcases m5 with ⟨xs, hB, hB2⟩ | ⟨hB, hB2⟩
                  · rw [hB2] at e
                    cases e
                    exact ⟨rfl, _, by unfold hget; rw [m4, hB]⟩
                  · rw [hB2] at e; cases e
          · cases hmo : memH S.hout i with
            | false => rw [hnout i hmo] at e; cases e
            | true =>
              have h0 := twin_none htw hmo
              cases hg : get? h2 (f i) with
              | none => exact absurd hg h0
              | some B2 =>
                rw [hnA _ _ hg] at e
                obtain ⟨i', b, B, m1, m2, m3, m4, m5⟩ := hgets hg
                have := hinj _ _ m2
                subst this
                cases b with
                | cells sk =>
                  obtain ⟨ds, vs1, vs2, rr, _, _, hB, hB2⟩ := m5
                  exact ⟨vs1, by unfold hget; rw [m4, hB]⟩
                | row t' inner =>
                  rcases m5 with ⟨xs, hB, hB2⟩ | ⟨hB, hB2⟩ <;> (rw [hB2] at e; cases e)
        have hhp : HpOk X C3 hn (t.nx + nextOf S.hout) := by
          intro id
          cases hg : get? h2 id with
          | some B2 =>
            rw [hnA id B2 hg]
            obtain ⟨i, b, B, m1, m2, m3, m4, m5⟩ := hgets hg
            have hk := p4 i
            have hgi : hget h' i = B := by unfold hget; rw [m4]
            rw [hgi] at hk
            have hlt := memH_lt m1
            have hmu := hback.mu i
            rw [m2]
            cases b with
            | cells sk =>
              obtain ⟨ds, vs1, vs2, rr, e1, e2, hB, hB2⟩ := m5
              rw [hB] at hk
              rw [hB2]
              obtain ⟨_, b, arr, ee, hm, ho, hw, hl⟩ := hk
              obtain ⟨vs3, g1, g2⟩ := backL_rep hback sk e1
              rw [e2] at g1
              cases g1
              exact ⟨hback.lt i hlt, b, arr, ee, (hmu (by rw [hgi, hB]; simp)).trans hm, hback.own b i ho, hw, g2 _ hl⟩
            | row t' inner =>
              rcases m5 with ⟨xs, hB, hB2⟩ | ⟨hB, hB2⟩
              · rw [hB] at hk
                rw [hB2]
                obtain ⟨_, hown, ⟨A1, cap1, hs1⟩, hin⟩ := hk
                have hmu1 := hmu (by rw [hgi, hB]; simp)
                refine ⟨hback.lt i hlt, fun hl => ?_, ⟨A1, cap1, by rw [hmu1, hs1]⟩, ?_⟩
                · rw [hmu1]
                  cases inner with
                  | none =>
                    have h0 : innerOwn X' C2 i none xs (C2.μ i) := hown (by simp [innerL, Option.map, lvs])
                    exact OwnD.mono (t := .row t') (fun b hb o ho => ⟨ho, hback.own b i hb⟩) h0
                  | some ls =>
                    have hok : ∀ l ∈ labs ls, okL h' (nextOf S.hout) l := fun l hl => hin l hl
                    have h0 : innerOwn X' C2 i (some (labs ls)) xs (C2.μ i) := hown (hback.lvs hok hl)
                    refine RowR.mono (fun b hb o ho => ⟨ho, hback.own b i hb⟩) (fun _ _ _ _ he => he.mono fun b hb o ho => ⟨ho, ?_, hb.2⟩) h0
                    rcases hb.1 with h1 | h1
                    · exact .inl (hback.lbs ls b h1)
                    · exact .inr (hback.own b i h1)
                · cases inner with
                  | none => intro l hl; simp [innerL] at hl
                  | some ls => exact hback.labs_ok (fun l hl => hin l hl)
              · rw [hB2]; trivial
          | none =>
            rcases hnB id hg with ⟨h1, _⟩ | ⟨h1, h3⟩
            · rw [h1]; trivial
            · rw [h3]
              have hkk := hkept_out id hg h1
              refine blkOk.keep hevo gh.hp h3 fun b hb => ?_
              have hn2 : C2.o b = none := by
                cases h5 : C2.o b with
                | none => rfl
                | some i =>
                  rcases hB0 b i h5 with h6 | ⟨j, h6, h7⟩
                  · rw [h6] at hb; cases hb
                  · rw [h6] at hb; cases hb; exact absurd hkk h7
              refine ⟨ho3 b hn2 id hb hkk, ?_⟩
              have hbs := (gh.fr.own b id hb).1
              rw [hw1] at hbs
              exact hsame b hbs (by rw [ho_some b id hb, hkk])
        have hfr3 : Fr X C3 := by
          refine ⟨hfr.os.trans hf.os, hfr.tape.trans hf.tape, hfr.output.trans hf.output, Nat.le_trans hf.size hfr.size, fun b hb ho => ?_, fun b id hb => ?_⟩
          · have hn1 : C1.o b = none := by
              cases h5 : C1.o b with
              | none => rfl
              | some j =>
                rcases (gh.fr.own b j h5).2 with h | h
                · omega
                · exact absurd ho h
            exact (hsame b (Nat.lt_of_lt_of_le hb hf.size) (ho_none b hn1)).trans (gh.fr.block b hb ho)
          · cases h5 : C2.o b with
            | some i =>
              refine ⟨(hfr.own b i h5).1, ?_⟩
              rcases hB0 b i h5 with h6 | ⟨j, h6, h7⟩
              · rcases (hfr.own b i h5).2 with h | h
                · exact .inl (Nat.le_trans hf.size h)
                · exact absurd (ho_none b h6) h
              · exact (gh.fr.own b j h6).2
            | none =>
              cases h6 : C1.o b with
              | none => simp only [C3, Cc.back, h5, h6] at hb; cases hb
              | some j =>
                have h7 := gh.fr.own b j h6
                refine ⟨?_, h7.2⟩
                have h8 := h7.1
                rw [hw1] at h8
                exact Nat.lt_of_lt_of_le h8 hfr.size
        obtain ⟨av3, z1, z2⟩ := back_rep hback S.res p1
        rw [hinst1] at z1
        cases z1
        exact ⟨_, C3, hw2, hr', gh.evo.trans hevo, hhp, z2 v p3, hfr3⟩
      · cases hr
    · cases hr
  · cases hr
where
  memH_mem : ∀ {l : HSk} {i : Nat}, memH l i = true → ∃ p ∈ l, p.1 = i := by
    intro l
    induction l with
    | nil => intro i h; simp [memH] at h
    | cons p l ih =>
      intro i h
      obtain ⟨a, b⟩ := p
      simp only [memH] at h
      split at h
      · rename_i hb
        exact ⟨(a, b), by simp, Nat.eq_of_beq_eq_true hb⟩
      · obtain ⟨q, h1, h2⟩ := ih h
        exact ⟨q, by simp [h1], h2⟩
end Go.Vm
namespace Go.Vm
open Go Go.RowKit
set_option linter.unusedVariables false
set_option linter.unusedSimpArgs false
variable {E : Env} {R : Type} {X : Cx} {C : Cc} {s : St} {κ : Out → Option R} {r : R} {orc : Orc E}
theorem new_span {out : Out} {arr : Array Value} {e : TypeId} {l : List AV} {n : Nat} {w' : World} (hh : HpOk X C s.hp s.nx) (hf : Fr X C) (hs : Same C.w w') (hw' : w'.heap = C.w.heap.push (.cells arr e))
    (hout : out = ⟨.spn s.nx n, [(s.nx, .cells l)], s.nx + 1⟩) (hl : RepL X C s.hp s.nx l arr.toList) :
    Fin X C s out (.slice (some ⟨C.w.heap.size, 0, none⟩) n n) (C.give [] s.nx w' (.pointer (some ⟨C.w.heap.size, 0, none⟩))) := by
  obtain ⟨hb1, hsz, hoth⟩ := push_heap hw'
  have heff : get? [(s.nx, Blk.cells l)] s.nx = some (.cells l) := by rw [get?_cons, if_pos rfl]
  have hG : ∀ j, j ≠ s.nx → get? [(s.nx, Blk.cells l)] j = if memN [] j = true then some .dead else none := fun j hj => by rw [get?_cons, if_neg (fun h => hj h.symm)]; rfl
  have hwk : ∀ b, b < C.w.heap.size → (∀ j, C.o b = some j → j ≠ s.nx ∧ j ∉ ([] : List Nat)) → w'.heap[b]? = C.w.heap[b]? := fun b hb _ => hoth b hb
  have hpre := give_pre (hp := s.hp) (nx' := s.nx + 1) (v := .pointer (some ⟨C.w.heap.size, 0, none⟩)) hf (Nat.le_succ _) heff (by simp) hG hwk (fun h => absurd h (Nat.lt_irrefl _))
  have hmu : (C.give [] s.nx w' (.pointer (some ⟨C.w.heap.size, 0, none⟩))).μ s.nx = .pointer (some ⟨C.w.heap.size, 0, none⟩) := by simp [Cc.give]
  subst hout
  refine Fin.of hh (give_step hpre heff hG ⟨Nat.lt_succ_self _, C.w.heap.size, arr, e, hmu, give_o_new (Nat.le_refl _) (by omega), hb1, hl.evo hpre.evo hh⟩) ?_ (give_fr hf hs (by omega) hwk)
  simp only [RepA]
  exact ⟨Nat.lt_succ_self _, rfl, fun l hl => ⟨_, hmu, rfl⟩⟩
theorem ptr_size {P : Program} {e : TypeId} (h : PtrOk P e) (w : World) : (sizeOf e).run P w = .ok 1 w := by
  obtain ⟨i, z, hi, hs, hz⟩ := h.info
  simp [sizeOf, typeInfo, hi, hs]
theorem ptr_zero {P : Program} {e : TypeId} (h : PtrOk P e) (w : World) : ∃ z, (zeroValue e).run P w = .ok z w := by
  obtain ⟨i, z, hi, hs, hz⟩ := h.info
  exact ⟨z, by simp [zeroValue, typeInfo, hi, hz]⟩
theorem run_span {P : Program} {w : World} {t e : TypeId} {len : Nat} {ps : Array (Nat × Value)} (hti : PtrOk P e) (ht : P.underlying t = some (.slice e)) (hlen : ps.size = len) (hmax : len ≤ 16777216)
    (hps : ∀ j p, ps.toList[j]? = some p → p.1 = 0 + j ∧ p.2.cells.size = 1) :
    ∃ c : Array Value, (Instr.buildSlice t len ps).run P w = .ok (.slice (some ⟨w.heap.size, 0, none⟩) len len) (w.alloc (.cells c e)) ∧ c.toList = (ps.toList.map fun p => p.2.cells.toList).flatten := by
  obtain ⟨z, hz⟩ := ptr_zero hti w
  have hne : ¬ (16777216 < len) := by omega
  have hpl : ps.toList.length = len := by simpa using hlen
  by_cases h0 : len = 0
  · obtain ⟨c, h1, h2⟩ := fill_row 1 ps.toList 0 ((Array.range (len * 1)).map ((#[] : Array Value)[· % (#[] : Array Value).size]!)) hps (by simp [hpl])
    refine ⟨c, ?_, by simpa using h2⟩
    simp [Instr.buildSlice, run_underlying ht, ptr_size hti, hne, h0, newRow]
    simp [h0] at h1
    rw [h1]
    simp
  · obtain ⟨c, h1, h2⟩ := fill_row 1 ps.toList 0 ((Array.range (len * 1)).map (z.cells[· % z.cells.size]!)) hps (by simp [hpl])
    refine ⟨c, ?_, by simpa using h2⟩
    simp [Instr.buildSlice, run_underlying ht, ptr_size hti, hne, h0, newRow, hz]
    simp at h1
    rw [h1]
    simp
theorem span_parts {hp : Hp} {nx : Nat} : ∀ {l : List (Nat × AV)} {vs : List (Nat × Value)} {k : Nat}, ptrsAt k l = true → RepP X C hp nx l vs →
    RepL X C hp nx (vals l) ((vs.map fun p => p.2.cells.toList).flatten) ∧ ∀ j p, vs[j]? = some p → p.1 = k + j ∧ p.2.cells.size = 1
  | [], _, k, h, .nil => ⟨by simp [vals, RepL], fun j p hj => by simp at hj⟩
  | (i, a) :: l, _, k, h, hr => by
    cases hr with
    | cons ha ht =>
      rename_i v rest
      cases a with
      | ptr id off =>
        simp only [ptrsAt, Bool.and_eq_true] at h
        have hik := Nat.eq_of_beq_eq_true h.1
        obtain ⟨h1, h2⟩ := span_parts h.2 ht
        have hc := cells_of ha (by rfl)
        have hcl := hc.length
        simp only [cellsOf, List.length_singleton] at hcl
        refine ⟨?_, fun j p hj => ?_⟩
        · simp only [vals, List.map_cons, List.flatten_cons]
          exact hc.append h1
        · cases j with
          | zero => simp at hj; subst hj; refine ⟨hik, ?_⟩; simp at hcl; exact hcl
          | succ j =>
            simp at hj
            obtain ⟨q1, q2⟩ := h2 j p hj
            exact ⟨by omega, q2⟩
      | _ => simp [ptrsAt] at h
theorem span_sound {t e : TypeId} {len : Nat} (hti : PtrOk X.P e) (ht : X.P.underlying t = some (.slice e)) (hh : HpOk X C s.hp s.nx) (hf : Fr X C) {l : List (Nat × AV)} {ps : Array (Nat × Value)} (hp : RepP X C s.hp s.nx l ps.toList)
    (hr : (spanOp len s l : Tr E Out).run orc κ = some r) : ∃ v' w', (Instr.buildSlice t len ps).run X.P C.w = .ok v' w' ∧ Done X C s κ r v' w' := by
  unfold spanOp at hr
  split at hr
  · rename_i hc
    simp only [Bool.and_eq_true] at hc
    have hl := Nat.eq_of_beq_eq_true hc.1
    have hmax := Nat.le_of_ble_eq_true hc.2.1
    have hpl := hp.length
    have hsz : ps.size = len := by rw [← hl, ← hpl]; simp
    obtain ⟨h1, h2⟩ := span_parts hc.2.2 hp
    obtain ⟨c, g1, g2⟩ := run_span (w := C.w) hti ht hsz hmax h2
    exact ⟨_, _, g1, _, _, rfl, hr, new_span (arr := c) (e := e) (w' := C.w.alloc (.cells c e)) hh hf ⟨rfl, rfl, rfl⟩ rfl rfl (by rw [g2]; exact h1)⟩
  · cases hr
theorem spanIdx_sound {t e : TypeId} (hti : PtrOk X.P e) (ht : X.P.underlying t = some (.slice e)) (hh : HpOk X C s.hp s.nx) (hf : Fr X C) {a i : AV} {v vi : Value} (ha : RepA X C s.hp s.nx a v) (hi : RepA X C s.hp s.nx i vi)
    (hr : (spanIdx s a i : Tr E Out).run orc κ = some r) : ∃ u, (Instr.indexAt t v vi).run X.P C.w = .ok u C.w ∧ Done X C s κ r u C.w := by
  unfold spanIdx at hr
  split at hr
  · rename_i id n k m
    split at hr
    · rename_i l hg
      obtain ⟨h0, hr⟩ := run_test hr
      obtain ⟨h1, hr⟩ := run_test hr
      simp only [RepA] at ha hi
      subst hi
      obtain ⟨b, hm, rfl⟩ := ha.2.2 l hg
      have hh' : 0 ≤ m ∧ m < (n : Int) := ⟨h0, h1⟩
      refine ⟨.pointer (some ⟨b, m.toNat, none⟩), ?_, Done.pure hh hf (run_ret hr) ?_⟩
      · simp [Instr.indexAt, asIntOf, run_underlying ht, ptr_size hti, hh', add_lit]
      · simp only [RepA]
        exact ⟨ha.1, rfl, fun l' hl' => ⟨b, hm, rfl⟩⟩
    · cases hr
  · cases hr
theorem spanLoad_sound {t : TypeId} (hti : PtrOk X.P t) (hh : HpOk X C s.hp s.nx) (hf : Fr X C) {a : AV} {v : Value} (ha : RepA X C s.hp s.nx a v) (hr : (spanLoad s a : Tr E Out).run orc κ = some r) :
    ∃ u, (Instr.loadAt t v).run X.P C.w = .ok u C.w ∧ Done X C s κ r u C.w := by
  unfold spanLoad at hr
  split at hr
  · rename_i id off
    split at hr
    · rename_i l hg
      split at hr
      · rename_i av hp
        simp only [RepA] at ha
        obtain ⟨b, hm, rfl⟩ := ha.2.2 l hg
        have hk := hh id
        rw [hg] at hk
        obtain ⟨_, b', arr, e, hm', ho, hw, hl⟩ := hk
        rw [hm] at hm'
        simp at hm'
        subst hm'
        obtain ⟨u, h1, h2⟩ := hl.get hp
        refine ⟨u, ?_, Done.pure hh hf (run_ret hr) h2⟩
        obtain ⟨q, hq⟩ := hti.kind
        have hc : C.w.cell? ⟨b, off, none⟩ = some u := by rw [cell_blk hw]; simpa using h1
        simp [Instr.loadAt, Instr.sureAddr, asAddr, loadVar, isAgg, run_underlying hq, hc]
      · cases hr
    · cases hr
  · cases hr
theorem arrPick_run {id off sz : Nat} {i : Int} : ∀ {m j : Nat}, (arrPick s id off sz i m j : Tr E Out).run orc κ = some r → (j : Int) ≤ i → i < (j : Int) + (m : Int) + 1 → κ ⟨.ptr id (off + i.toNat * sz), [], s.nx⟩ = some r
  | 0, j, hr, h0, h1 => by
    have : i = (j : Int) := by omega
    subst this
    exact run_ret hr
  | m + 1, j, hr, h0, h1 => by
    simp only [arrPick, Tr.run] at hr
    by_cases h : i = (j : Int)
    · rw [if_pos h] at hr
      subst h
      exact run_ret hr
    · rw [if_neg h] at hr
      exact arrPick_run hr (by omega) (by omega)
theorem arrIdx_sound {t e : TypeId} {te : TI} {m : Nat} (hti : TiOk X.P e te) (ht : X.P.underlying t = some (.array m e)) (hh : HpOk X C s.hp s.nx) (hf : Fr X C) {a i : AV} {v vi : Value} (ha : RepA X C s.hp s.nx a v) (hi : RepA X C s.hp s.nx i vi)
    (hr : (arrIdx te.ty.sz m s a i : Tr E Out).run orc κ = some r) : ∃ u, (Instr.indexAt t v vi).run X.P C.w = .ok u C.w ∧ Done X C s κ r u C.w := by
  unfold arrIdx at hr
  split at hr
  · rename_i id off k n
    split at hr
    · rename_i l m' hg
      obtain ⟨h0, hr⟩ := run_test hr
      obtain ⟨h1, hr⟩ := run_test hr
      have hr := arrPick_run hr (by omega) (by omega)
      simp only [RepA] at ha hi
      subst hi
      obtain ⟨b, hm, rfl⟩ := ha.2.2 l hg
      have hh' : 0 ≤ n ∧ n < ((m' + 1 : Nat) : Int) := ⟨h0, h1⟩
      refine ⟨.pointer (some ⟨b, off + n.toNat * te.ty.sz, none⟩), ?_, Done.pure hh hf hr ?_⟩
      · have h2 : n < (m' : Int) + 1 := by omega
        simp [Instr.indexAt, Instr.sureAddr, asIntOf, run_underlying ht, run_sizeOf hti, h0, h2, add_lit]
      · simp only [RepA]
        exact ⟨ha.1, rfl, fun l' hl' => ⟨b, hm, rfl⟩⟩
    · cases hr
  · cases hr
theorem arrFl_get {e sz : Nat} : ∀ {m o i : Nat} {q : Nat × Nat}, (arrFl e sz m o)[i]? = some q → q = (o + i * sz, e)
  | 0, o, i, q, h => by simp [arrFl] at h
  | m + 1, o, 0, q, h => by simp [arrFl] at h; simp [← h]
  | m + 1, o, i + 1, q, h => by
    simp only [arrFl, List.getElem?_cons_succ] at h
    rw [arrFl_get h, Nat.add_mul]
    congr 1
    omega
theorem arrBuild_sound (hE : EnvOk E X.P) {t e : TypeId} {ti te : TI} {m : Nat} (hti : TiOk X.P t ti) (hte : get? E.ti e = some te) (har : X.P.underlying t = some (.array m e)) (hh : HpOk X C s.hp s.nx) (hf : Fr X C) {l : List (Nat × AV)} {ps : Array (Nat × Value)} {cs : List AV} (hp : RepP X C s.hp s.nx l ps.toList)
    (hb : buildCells (arrFl e te.ty.sz m 0) (get? E.ti) ti.ty.zero l = some cs) (hr : κ ⟨.agg cs, [], s.nx⟩ = some r) : ∃ u, (Instr.build t ps).run X.P C.w = .ok u C.w ∧ Done X C s κ r u C.w := by
  obtain ⟨i, hi, hisz, hiby, z, hiz, hzc⟩ := hti.info
  obtain ⟨ie, hie, hies, _⟩ := (hE.ti _ _ hte).info
  obtain ⟨c', h1, h2⟩ := buildCells_ok (X := X) (C := C) (s := s) hE (fl := arrFl e te.ty.sz m 0) (place := fun i => some (i * ie.size, ie.size)) (by
    intro n o t' ti' ho hti'
    have := arrFl_get ho
    simp only [Nat.zero_add, Prod.mk.injEq] at this
    obtain ⟨rfl, rfl⟩ := this
    rw [hte] at hti'
    cases hti'
    rw [hies]) hb hp (c := z.cells) (by rw [hzc]; exact zero_rep ti.ty)
  refine ⟨.agg c', run_build C.w t ps c' ?_, Done.pure hh hf hr (by simp only [RepA]; exact ⟨c', rfl, h2⟩)⟩
  unfold Program.built
  simp only [hi, har, hiz, hie]
  exact h1
end Go.Vm
namespace Go.Vm
open Go Go.RowKit
set_option linter.unusedVariables false
set_option linter.unusedSimpArgs false
section
variable {X X' : Cx} {C C' : Cc} {hp hp' : Hp} {nx nx' : Nat} {E : Env}
theorem run_andThen {α β R : Type} {orc : Orc E} (f : α → Tr E β) (κ : β → Option R) : ∀ (t : Tr E α), (t.andThen f).run orc κ = t.run orc fun a => (f a).run orc κ
  | .ok a => rfl
  | .test p d t => by simp only [Tr.andThen, Tr.run, run_andThen f κ t]
  | .ite p d a b => by simp only [Tr.andThen, Tr.run, run_andThen f κ a, run_andThen f κ b]
  | .call g ds k => by
    simp only [Tr.andThen, Tr.run]
    congr 1
    funext x
    exact run_andThen f κ (k x)
  | .fail => rfl
theorem run_some0 {α R : Type} {orc : Orc E} {κ : α → Option R} {r : R} : ∀ {t : Tr E α}, t.run orc κ = some r → ∃ a, t.run orc some = some a ∧ κ a = some r
  | .ok a, h => ⟨a, rfl, h⟩
  | .test p d t, h => by
    simp only [Tr.run] at h ⊢
    by_cases c : p
    · rw [if_pos c] at h
      obtain ⟨a, h1, h2⟩ := run_some0 h
      exact ⟨a, by rw [if_pos c]; exact h1, h2⟩
    · rw [if_neg c] at h; cases h
  | .ite p d a b, h => by
    simp only [Tr.run] at h ⊢
    by_cases c : p
    · rw [if_pos c] at h
      obtain ⟨x, h1, h2⟩ := run_some0 h
      exact ⟨x, by rw [if_pos c]; exact h1, h2⟩
    · rw [if_neg c] at h
      obtain ⟨x, h1, h2⟩ := run_some0 h
      exact ⟨x, by rw [if_neg c]; exact h1, h2⟩
  | .call g ds k, h => by
    simp only [Tr.run, Option.bind_eq_some_iff] at h ⊢
    obtain ⟨x, h1, h2⟩ := h
    obtain ⟨a, h3, h4⟩ := run_some0 h2
    exact ⟨a, ⟨x, h1, h3⟩, h4⟩
  | .fail, h => by cases h
theorem scal_rep {a : AV} {v : Value} (hs : scal a = true) (h : RepA X C hp nx a v) : RepA X' C' hp' nx' a v := by
  cases a <;> first
    | (simp only [RepA] at h ⊢; exact h)
    | (simp [scal] at hs; done)
theorem scalL_rep : ∀ {l : List AV} {us : List Value}, scalL l = true → RepL X C hp nx l us → RepL X' C' hp' nx' l us
  | [], us, _, h => by simpa only [RepL] using h
  | a :: l, us, hs, h => by
    simp only [scalL, Bool.and_eq_true] at hs
    simp only [RepL] at h ⊢
    obtain ⟨v, r, e, h1, h2⟩ := h
    exact ⟨v, r, e, scal_rep hs.1 h1, scalL_rep hs.2 h2⟩
theorem innAt_rep {n : Nat} : ∀ {l l' : List AV} {us : List Value} {q : Nat × Nat × Int × Nat}, innAt n l = some (q, l') → RepL X C hp nx l us →
    ∃ v0, RepA X C hp nx (.inn q.1 q.2.1 q.2.2.1 q.2.2.2) v0 ∧ ∀ X' C' hp' nx', RepA X' C' hp' nx' (.own n) v0 → RepL X' C' hp' nx' l' us
  | [], l', us, q, h, _ => by simp [innAt] at h
  | a :: l, l', us, q, h, hr => by
    simp only [innAt] at h
    simp only [RepL] at hr
    obtain ⟨v, r, rfl, h1, h2⟩ := hr
    split at h
    · rename_i hsc
      split at h
      · rename_i q' l'' he
        cases h
        obtain ⟨v0, g1, g2⟩ := innAt_rep he h2
        exact ⟨v0, g1, fun X' C' hp' nx' g => by
          simp only [RepL]
          exact ⟨v, r, rfl, scal_rep hsc h1, g2 X' C' hp' nx' g⟩⟩
      · cases h
    · split at h
      · cases h
        refine ⟨v, h1, fun X' C' hp' nx' g => ?_⟩
        simp only [RepL]
        exact ⟨v, r, rfl, g, scalL_rep (by assumption) h2⟩
      · cases h
theorem cell_set {w w' : World} (I : Nat → Prop) (hsame : ∀ k o, ¬ I k → w.heap[k]? = some o → w'.heap[k]? = some o) {el : Ty} {ys zs : List el.D} {v0 : Value}
    (hIv : ∀ k, I k → ∃ n cp o, v0 = .slice (some ⟨k, o, none⟩) n cp ∧ 0 < cp) (hnew : ∀ S, OwnD w (.row el) S ys [v0] → OwnD w' (.row el) S zs [v0]) :
    ∀ {t : Ty} {S : Nat → Prop} {x y : t.D} {cs : List Value} {off : Nat}, OwnD w t S x cs → t.cellRow x off = some ⟨el, ys⟩ → cs[off]? = some v0 → t.setCell x off (.row el zs) = some y → OwnD w' t S y cs
  | .row el', S, xs, y, cs, 0, h, e, hc, hs => by
    simp only [Ty.cellRow, Option.some.injEq, Sigma.mk.injEq] at e
    obtain ⟨h1, h2⟩ := e
    subst h1
    simp only [heq_eq_eq] at h2
    subst h2
    simp only [Ty.setCell, rowCast_self, Option.some.injEq] at hs
    subst hs
    have h' := h
    obtain ⟨v, f, rfl, _⟩ := h
    simp at hc
    subst hc
    exact hnew S h'
  | .row el', S, xs, y, cs, n + 1, h, e, hc, hs => by simp [Ty.cellRow] at e
  | .int k, S, xs, y, cs, n, h, e, hc, hs => by cases n <;> simp [Ty.cellRow] at e
  | .bool, S, xs, y, cs, n, h, e, hc, hs => by cases n <;> simp [Ty.cellRow] at e
  | .str, S, xs, y, cs, n, h, e, hc, hs => by cases n <;> simp [Ty.cellRow] at e
  | .pair a b, S, x, y, cs, off, h, e, hc, hs => by
    obtain ⟨f, c1, c2, rfl, h1, h2⟩ := h
    have hl1 := h1.len
    have blk : ∀ {S' : Nat → Prop}, OwnD w (.row el) S' ys [v0] → ∀ k, I k → S' k := by
      rintro S' ⟨v, f', hv, A, cp, hv2, hle, hr⟩ k hk
      simp at hv
      subst hv
      obtain ⟨n, cp', o, e1, e2⟩ := hIv k hk
      rw [hv2] at e1
      simp only [Value.slice.injEq] at e1
      obtain ⟨rfl, _, rfl⟩ := e1
      obtain ⟨b', off', arr, e', fr, hA, hS, _⟩ := hr e2
      simp only [Option.some.injEq, Addr.mk.injEq] at hA
      rw [hA.1]
      exact hS
    simp only [Ty.cellRow] at e
    simp only [Ty.setCell] at hs
    cases hb : Nat.ble a.sz off with
    | true =>
      rw [hb] at e hs
      simp only at hs e
      have hle := Nat.le_of_ble_eq_true hb
      split at hs
      · rename_i y2 hy2
        cases hs
        rw [List.getElem?_append_right (by omega), hl1] at hc
        obtain ⟨_, v, g2, g3⟩ := cellRow_own h2 e
        rw [hc] at g2
        cases g2
        refine ⟨f, c1, c2, rfl, h1.mono fun k hk o ho => ⟨hsame k o (fun hI => ?_) ho, hk⟩, cell_set I hsame hIv hnew h2 e hc hy2⟩
        have := (blk g3 k hI).2
        have := hk.2
        omega
      · cases hs
    | false =>
      rw [hb] at e hs
      simp only at hs e
      split at hs
      · rename_i y2 hy2
        cases hs
        obtain ⟨g1, v, g2, g3⟩ := cellRow_own h1 e
        rw [List.getElem?_append_left (by omega)] at hc
        rw [hc] at g2
        cases g2
        refine ⟨f, c1, c2, rfl, cell_set I hsame hIv hnew h1 e hc hy2, h2.mono fun k hk o ho => ⟨hsame k o (fun hI => ?_) ho, hk⟩⟩
        have := (blk g3 k hI).2
        have := hk.2
        omega
      · cases hs
open Classical in
/-- The inner row alone. -/
noncomputable def innCc (C : Cc) (I : Nat → Prop) (v0 : Value) : Cc := ⟨C.w, fun _ => v0, fun k => if I k then some 0 else none⟩
theorem innCc_o {C : Cc} {I : Nat → Prop} {v0 : Value} {k : Nat} (h : I k) : (innCc C I v0).o k = some 0 := by simp only [innCc]; rw [if_pos h]
theorem innCc_n {C : Cc} {I : Nat → Prop} {v0 : Value} {k : Nat} (h : ¬ I k) : (innCc C I v0).o k = none := by simp only [innCc]; rw [if_neg h]
theorem innCc_s {C : Cc} {I : Nat → Prop} {v0 : Value} {k j : Nat} (h : (innCc C I v0).o k = some j) : I k := by
  simp only [innCc] at h
  split at h
  · assumption
  · cases h
end
variable {E : Env} {orc : Orc E} {R : Type} {r : R} {X : Cx} {C : Cc} {s : St} {κ : Out → Option R}
theorem inn_sound (hP : FnOk X.P X.J E orc) {g : Nat} (hh : HpOk X C s.hp s.nx) (hf : Fr X C) {args as : List AV} {us : Array Value} {q : Nat × Nat × Int × Nat} (hrep : RepL X C s.hp s.nx args us.toList) (hq : innAt 0 args = some (q, as))
    (hr : (innCall s g q as : Tr E Out).run orc κ = some r) : Calls X.P g us C.w fun e w' => ∃ v, e = .returned v ∧ Done X C s κ r v w' := by
  obtain ⟨v0, hv0, h2⟩ := innAt_rep hq hrep
  obtain ⟨id, ver, i, off⟩ := q
  simp only at hv0
  unfold innCall at hr
  simp only at hr
  split at hr
  · rename_i v t xs hg
    split at hr
    · rename_i hbv
      have hbv := Nat.eq_of_beq_eq_true hbv
      subst hbv
      split at hr
      · rename_i el ys hcr
        split at hr
        · rename_i hfl
          rw [run_andThen] at hr
          obtain ⟨o, hr1, hr2⟩ := run_some0 hr
          simp only [RepA] at hv0
          obtain ⟨h0, hi, b, ao, len, cap, arr, e, fr, hm, hb, ho, ha⟩ := hv0.2.2 t xs hg
          have hk := hh id
          rw [hg] at hk
          obtain ⟨hid, hown, hshape, hlab⟩ := hk
          have hown : OwnD C.w (.row t) (ownS C.o id) xs [C.μ id] := hown rfl
          obtain ⟨w1, f, hw, A1, cp1, hw1, hle1, hrow⟩ := hown
          obtain ⟨b', off', arr', e', fr', hA, hSb, hb', hfr, hcp, hel⟩ := hrow (by omega)
          have h5 : C.μ id = w1 := by simpa using hw
          subst h5
          have hw1' := hw1
          rw [hm, hA] at hw1
          simp only [Value.slice.injEq, Option.some.injEq, Addr.mk.injEq] at hw1
          obtain ⟨⟨rfl, rfl, _⟩, rfl, rfl⟩ := hw1
          rw [hb] at hb'
          cases hb'
          have hxi := rd_get (t := t) hi
          have heli := hel i.toNat _ hxi
          obtain ⟨hoff, v1, hv1, hinn⟩ := cellRow_own heli hcr
          have hv1' : v1 = v0 := by
            rw [sl_get hoff, ha] at hv1
            exact (Option.some.inj hv1).symm
          subst hv1'
          have hinn' := hinn
          obtain ⟨vv, f', hvv, A, cp, hsv, hle', hr'⟩ := hinn
          have hvv' : v1 = vv := by simpa using hvv
          subst hvv'
          let I : Nat → Prop := fun k => 0 < cp ∧ ∃ o', A = some ⟨k, o', none⟩
          have hI : ∀ k, I k → C.o k = some id ∧ k ≠ b ∧ f k = i.toNat := by
            rintro k ⟨hcp0, o', hA'⟩
            obtain ⟨bi, offi, arri, ei, fri, hAi, hSi, _⟩ := hr' hcp0
            rw [hA'] at hAi
            simp only [Option.some.injEq, Addr.mk.injEq] at hAi
            rw [hAi.1]
            exact hSi
          have hIv : ∀ k, I k → ∃ n cp o', v1 = .slice (some ⟨k, o', none⟩) n cp ∧ 0 < cp := by
            rintro k ⟨hcp0, o', hA'⟩
            exact ⟨ys.length, cp, o', by rw [hsv, hA'], hcp0⟩
          let Cq := innCc C I v1
          have hqn : ∀ b, C.o b = none → Cq.o b = none := fun b ho => by
            cases e : Cq.o b with
            | none => rfl
            | some j =>
              have := (hI b (innCc_s e)).1
              rw [ho] at this
              cases this
          let Xq : Cx := ⟨X.P, C.w, Cq.o, fun _ => False, 0, fun _ => v1, X.J, X.J.st hf.inv fun b _ ho => ⟨hqn b ho, rfl⟩⟩
          let sq : St := ⟨[], [(0, Blk.row 0 el ys none)], 1⟩
          have hhq : HpOk Xq Cq sq.hp sq.nx := by
            intro k
            by_cases hk0 : k = 0
            · subst hk0
              refine ⟨Nat.one_pos, fun _ => ?_, ⟨A, cp, hsv⟩, fun l hl => by simp [innerL] at hl⟩
              refine ⟨v1, fun _ => 0, rfl, A, cp, hsv, hle', fun hcp0 => ?_⟩
              obtain ⟨bi, offi, arri, ei, fri, hAi, hSi, hhi, hfi, hzi, hei⟩ := hr' hcp0
              exact ⟨bi, offi, arri, ei, fri, hAi, innCc_o ⟨hcp0, offi, hAi⟩, hhi, hfi, hzi, fun j x hx => flat_any hfl (hei j x hx).rep⟩
            · have : hget sq.hp k = .dead := by
                show hget [(0, Blk.row 0 el ys none)] k = .dead
                unfold hget
                rw [get?_cons, if_neg (fun q => hk0 q.symm)]
                rfl
              rw [this]
              trivial
          have hfq : Fr Xq Cq := by
            refine ⟨rfl, rfl, rfl, Nat.le_refl _, fun _ _ _ => rfl, fun k j hk => ?_⟩
            have := hI k (innCc_s hk)
            exact ⟨(hf.own k id this.1).1, .inr (by show Cq.o k ≠ none; rw [hk]; simp)⟩
          have hrepq : RepL Xq Cq sq.hp sq.nx as us.toList := h2 Xq Cq sq.hp sq.nx (by
            simp only [RepA]
            exact ⟨Nat.one_pos, by rw [hsv]; rfl, fun _ _ _ _ _ => rfl⟩)
          have hc := plain_sound (X := Xq) (C := Cq) (s := sq) (κ := some) hP hhq hfq hrepq hr1
          refine hc.mono ?_
          rintro e2 w2 ⟨u, rfl, out, C', hw', hout, F⟩
          cases hout
          refine ⟨u, rfl, ?_⟩
          unfold innBack at hr2
          split at hr2
          · rename_i _ _ v' u' zs hsc hgo
            split at hr2
            · rename_i zs' hzs
              split at hr2
              · rename_i y hy
                simp only [Tr.run] at hr2
                obtain ⟨hu, hzz⟩ := rowCast_eq hzs
                subst hu
                simp only at hzz
                obtain rfl := hzz.symm
                have hsame : ∀ k ob, ¬ I k → C.w.heap[k]? = some ob → C'.w.heap[k]? = some ob := fun k ob hk hob => (F.fr.block k (heap_lt hob) (innCc_n (C := C) (v0 := v1) hk)).trans hob
                obtain ⟨hmu, v3, xs3, in3, hg3, hl3, _⟩ := F.evo.row 0 Nat.one_pos _ _ _ _ hgo
                have hg3' : (v3, xs3.length) = (0, ys.length) := by
                  have : hget sq.hp 0 = Blk.row 0 u' ys none := rfl
                  rw [this] at hg3
                  cases hg3
                  rfl
                simp only [Prod.mk.injEq] at hg3'
                have hb0 := F.hp 0
                rw [hgo] at hb0
                have hnewO : OwnD C'.w (.row u') (ownS C'.o 0) zs [C'.μ 0] := hb0.2.1 rfl
                have hmu' : C'.μ 0 = v1 := hmu
                rw [hmu'] at hnewO
                have hnew : ∀ S, OwnD C.w (.row u') S ys [v1] → OwnD C'.w (.row u') S zs [v1] := by
                  rintro S ⟨va, fa, hva, Aa, ca, hsa, hla, hra⟩
                  have hva' : v1 = va := by simpa using hva
                  subst hva'
                  obtain ⟨vb, fb, hvb, Ab, cb, hsb, hlb, hrb⟩ := hnewO
                  have hvb' : v1 = vb := by simpa using hvb
                  subst hvb'
                  have hab := hsa.symm.trans hsb
                  simp only [Value.slice.injEq] at hab
                  obtain ⟨rfl, _, rfl⟩ := hab
                  refine ⟨v1, fb, rfl, Aa, ca, hsb, hlb, fun hc0 => ?_⟩
                  obtain ⟨ba, oa, ara, ea, fra, hAa, hSa, _⟩ := hra hc0
                  obtain ⟨bb, ob, arb, eb, frb, hAb, hSb2, hhb, hfb, hzb, heb⟩ := hrb hc0
                  have hbb : ba = bb := by
                    rw [hAa] at hAb
                    simp only [Option.some.injEq, Addr.mk.injEq] at hAb
                    exact hAb.1
                  subst hbb
                  exact ⟨ba, ob, arb, eb, frb, hAb, hSa, hhb, hfb, hzb, fun j x hx => flat_any hfl (heb j x hx).rep⟩
                have hbI : ¬ I b := fun q => (hI b q).2.1 rfl
                let C2 : Cc := ⟨C'.w, C.μ, C.o⟩
                have hrowN : OwnD C'.w (.row t) (ownS C.o id) (xs.set i.toNat y) [C.μ id] := by
                  refine ⟨C.μ id, f, rfl, A1, _, by rw [hw1']; simp, by simpa using hle1, fun _ => ⟨b, ao, arr, e, fr, hA, hSb, hsame b _ hbI hb, hfr, hcp, fun j x hx => ?_⟩⟩
                  by_cases hj : j = i.toNat
                  · subst hj
                    rw [List.getElem?_set_self hi] at hx
                    cases hx
                    exact cell_set I hsame hIv hnew heli hcr (by rw [sl_get hoff]; exact ha) hy
                  · rw [List.getElem?_set_ne (fun h => hj h.symm)] at hx
                    refine (hel j x hx).mono fun k hk ob hob => ⟨hsame k ob (fun q => hj ?_) hob, hk⟩
                    rw [← hk.2.2, (hI k q).2.2]
                have hstep : Step X C C2 s.hp [(id, Blk.row (v + 1) t (xs.set i.toNat y) none)] s.nx s.nx := by
                  have hge : ∀ k, get? [(id, Blk.row (v + 1) t (xs.set i.toNat y) none)] k = if id = k then some (Blk.row (v + 1) t (xs.set i.toNat y) none) else none := fun k => by rw [get?_cons]; rfl
                  refine ⟨⟨Nat.le_refl _, fun _ _ _ => rfl, fun k j hk hj => ⟨hk, ?_⟩, fun k hk hk2 => ⟨hk2, ?_⟩, fun j hj => ⟨fun v' t' xs' inner' q => ⟨rfl, ?_⟩, fun l' q => ?_⟩⟩, fun j B q => ?_⟩
                  · have hjid : id ≠ j := fun q => by rw [hge, if_pos q] at hj; cases hj
                    exact F.fr.block k (hf.own k j hk).1 (innCc_n (C := C) (v0 := v1) fun q => hjid (by have := (hI k q).1; rw [hk] at this; exact (Option.some.inj this).symm))
                  · exact F.fr.block k hk (innCc_n (C := C) (v0 := v1) fun q => by have := (hI k q).1; rw [hk2] at this; cases this)
                  · rw [hge] at q
                    split at q
                    · rename_i hij
                      subst hij
                      cases q
                      exact ⟨v, xs, none, hg, by simp, Nat.lt_succ_self _⟩
                    · cases q
                  · rw [hge] at q
                    split at q <;> cases q
                  · rw [hge] at q
                    split at q
                    · rename_i hij
                      subst hij
                      cases q
                      obtain ⟨As, cs, hs⟩ := hshape
                      exact ⟨hid, fun _ => hrowN, ⟨As, cs, by show C.μ id = _; rw [hs]; simp⟩, fun l hl => by simp [innerL] at hl⟩
                    · cases q
                have hfr2 : Fr X C2 := by
                  refine ⟨F.fr.os.trans hf.os, F.fr.tape.trans hf.tape, F.fr.output.trans hf.output, Nat.le_trans hf.size F.fr.size, fun k hk hko => ?_, fun k j hk => ⟨Nat.lt_of_lt_of_le (hf.own k j hk).1 F.fr.size, (hf.own k j hk).2⟩⟩
                  refine (F.fr.block k (Nat.lt_of_lt_of_le hk hf.size) (innCc_n (C := C) (v0 := v1) fun q => ?_)).trans (hf.block k hk hko)
                  have := (hf.own k id (hI k q).1).2
                  rcases this with h | h
                  · omega
                  · exact h hko
                exact ⟨_, C2, hw', hr2, Fin.of hh hstep (scal_rep hsc F.val) hfr2⟩
              · cases hr2
            · cases hr2
          · cases hr2
        · cases hr
      · cases hr
    · cases hr
  · cases hr
theorem call_sound (hP : FnOk X.P X.J E orc) {g : Nat} (hh : HpOk X C s.hp s.nx) (hf : Fr X C) {as : List AV} {us : Array Value} (hrep : RepL X C s.hp s.nx as us.toList) (hr : (callOp s g as : Tr E Out).run orc κ = some r) :
    Calls X.P g us C.w fun e w' => ∃ v, e = .returned v ∧ Done X C s κ r v w' := by
  unfold callOp at hr
  split at hr
  · split at hr
    · split at hr
      · rename_i q l hq
        exact inn_sound hP hh hf hrep hq hr
      · exact plain_sound hP hh hf hrep hr
    · exact plain_sound hP hh hf hrep hr
  · cases hr
end Go.Vm
namespace Go.Vm
open Go Go.RowKit
set_option linter.unusedVariables false
set_option linter.unusedSimpArgs false
variable {E : Env} {R : Type} {X : Cx} {C : Cc} {s : St} {κ : Out → Option R} {r : R} {orc : Orc E}
theorem opnds_rep {ntm : Nat} {a : Act} (h : Rel X C s ntm a) : ∀ l : List Operand, RepL X C s.hp s.nx (opnds s.tm l) (l.map a.eval)
  | [] => by simp [opnds, RepL]
  | x :: l => by
    simp only [opnds, List.map_cons, RepL]
    exact ⟨_, _, rfl, eval_opnd h x, opnds_rep h l⟩
theorem opt_rep {ntm : Nat} {a : Act} (h : Rel X C s ntm a) (x : Option Operand) : OptRep X C s.hp s.nx (optOpnd s.tm x) (x.map a.eval) := by
  cases x with
  | none => trivial
  | some x => exact eval_opnd h x
theorem rowish_of {P : Program} {t : TypeId} {ti : TI} (h : TiOk P t ti) (hc : (!ti.agg && (isRow ti.ty || isStr ti.ty)) = true) : rowish P t := by
  simp only [Bool.and_eq_true, Bool.or_eq_true, Bool.not_eq_true'] at hc
  rcases hc.2 with h1 | h1
  · obtain ⟨e, he⟩ := slice_kind h h1 hc.1
    exact .inr ⟨e, he⟩
  · exact .inl (str_kind h h1 hc.1)
theorem repL_one {hp : Hp} {nx : Nat} {a : AV} {vs : List Value} (h : RepL X C hp nx [a] vs) : ∃ v, vs = [v] ∧ RepA X C hp nx a v := by
  simp only [RepL] at h
  obtain ⟨v, r, rfl, h1, rfl⟩ := h
  exact ⟨v, rfl, h1⟩
theorem repL_two {hp : Hp} {nx : Nat} {a b : AV} {vs : List Value} (h : RepL X C hp nx [a, b] vs) : ∃ u v, vs = [u, v] ∧ RepA X C hp nx a u ∧ RepA X C hp nx b v := by
  simp only [RepL] at h
  obtain ⟨v, r, rfl, h1, v2, r2, rfl, h2, rfl⟩ := h
  exact ⟨v, v2, rfl, h1, h2⟩
theorem arr_of {α : Type} {x : Array α} {l : List α} (h : x.toList = l) : x = l.toArray := by cases x; simp_all
theorem builtin_sound (hE : EnvOk E X.P) {b : Builtin} {ts : Array TypeId} {ty : TypeId} (hh : HpOk X C s.hp s.nx) (hf : Fr X C) {as : List AV} {us : Array Value} {consts : Array Bool} (ha : RepL X C s.hp s.nx as us.toList) (hr : (builtinOp b ts.toList s as : Tr E Out).run orc κ = some r) :
    ∃ v w', (builtin b ts ty consts us).run X.P C.w = .ok (.value v) w' ∧ Done X C s κ r v w' := by
  unfold builtinOp at hr
  split at hr
  · rename_i x
    split at hr
    · rename_i t ht
      have ht' := arr_of ht
      subst ht'
      split at hr
      · rename_i ti hti
        obtain ⟨v, hv, hx⟩ := repL_one ha
        have hv' := arr_of hv
        subst hv'
        obtain ⟨u, h1, h2⟩ := len_sound (ty := ty) (hE.ti _ _ hti) hh hf hx hr
        exact ⟨u, C.w, by simp [builtin, h1], h2⟩
      · split at hr
        · rename_i e' id n he'
          obtain ⟨v, hv, hx⟩ := repL_one ha
          have hv' := arr_of hv
          subst hv'
          split at hr
          · rename_i l hg
            simp only [RepA] at hx
            obtain ⟨b, hm, hv⟩ := hx.2.2 l hg
            have hs := (hE.ps _ _ he').1
            refine ⟨.int .i64 n, C.w, ?_, Done.pure hh hf (run_ret hr) (by simp only [RepA])⟩
            rw [hv]
            simp [builtin, Builtin.len_, run_underlying hs, goInt]
          · cases hr
        · cases hr
    · cases hr
  · rename_i x y
    split at hr
    · rename_i t t2 ht
      have ht' := arr_of ht
      subst ht'
      split at hr
      · rename_i e ti2 he hti2
        split at hr
        · rename_i ti hti
          split at hr
          · rename_i hc
            simp only [Bool.and_eq_true] at hc
            obtain ⟨⟨hb0, hb1⟩, hc⟩ := hc
            obtain ⟨u, v, hv, hx, hy⟩ := repL_two ha
            have hv' := arr_of hv
            subst hv'
            obtain ⟨v', w', h1, h2⟩ := append_sound (ty := ty) (hE.ti _ _ hti) (hE.el _ _ he) (rowish_of (hE.ti _ _ hti2) (by simpa only [Bool.and_eq_true] using hc)) (Nat.le_of_ble_eq_true hb0) (Nat.le_of_ble_eq_true hb1) hh hf hx hy hr
            exact ⟨v', w', by simp [builtin, h1], h2⟩
          · cases hr
        · cases hr
      · cases hr
    · cases hr
  · rename_i a l
    split at hr
    · rename_i x hx
      simp only [RepL] at ha
      obtain ⟨v, q, hv, h1, h2⟩ := ha
      simp only [RepA] at h1
      subst h1
      have hv' := arr_of hv
      subst hv'
      refine ⟨.int .i64 x, C.w, ?_, Done.pure hh hf (run_ret hr) (by simp only [RepA])⟩
      have := minMax_max (P := X.P) (w := C.w) hx h2
      simp [builtin, Builtin.max_, this]
    · cases hr
  · rename_i a l
    split at hr
    · rename_i x hx
      simp only [RepL] at ha
      obtain ⟨v, q, hv, h1, h2⟩ := ha
      simp only [RepA] at h1
      subst h1
      have hv' := arr_of hv
      subst hv'
      refine ⟨.int .i64 x, C.w, ?_, Done.pure hh hf (run_ret hr) (by simp only [RepA])⟩
      have := minMax_min (P := X.P) (w := C.w) hx h2
      simp [builtin, Builtin.min_, this]
    · cases hr
  · cases hr
end Go.Vm
namespace Go.Vm
open Go Go.RowKit
set_option linter.unusedVariables false
set_option linter.unusedSimpArgs false
variable {E : Env} {R : Type} {X : Cx} {C : Cc} {s : St} {κ : Out → Option R} {r : R} {orc : Orc E}
/-- The functions that are called have bodies. -/
def SigOk (E : Env) (P : Program) : Prop := ∀ g S, get? E.sg g = some S → ∃ fn, P.funcs[g]? = some fn ∧ fn.name ≠ "runtime.NumGoroutine" ∧ fn.body.isSome = true
theorem goes_value {P : Program} {o : Oper} {a : Act} {w : World} {φ : Value → World → Prop} {m : Sem Value} (he : execOp a.eval o = (do pure (.value (← m)))) {v : Value} {w' : World} (h : m.run P w = .ok v w') (hv : φ v w') : OpGoes P o a w φ :=
  OpGoes.value (v := v) (w' := w') (by rw [he]; simp [h]) hv
theorem run_newVar {P : Program} {w : World} {t : TypeId} {v : Value} : ∃ w', (newVar t v).run P w = .ok ⟨w.heap.size, 0, none⟩ w' ∧ Same w w' ∧ w'.heap = w.heap.push (.cells v.cells t) := by
  refine ⟨w.alloc (.cells v.cells t), ?_, ⟨rfl, rfl, rfl⟩, rfl⟩
  simp [newVar, newRow]
theorem sliceStr_sound {t : TypeId} {by_ : Nat} (hti : TiOk X.P t ⟨false, .str, by_⟩) (hh : HpOk X C s.hp s.nx) (hf : Fr X C) {b : ByteArray} {lo hi : Option AV} {vlo vhi : Option Value}
    (hlo : OptRep X C s.hp s.nx lo vlo) (hhi : OptRep X C s.hp s.nx hi vhi) (hr : (sliceStr s b lo hi : Tr E Out).run orc κ = some r) :
    ∃ u, (Instr.sliceAt t (.string b) vlo vhi none).run X.P C.w = .ok u C.w ∧ Done X C s κ r u C.w := by
  have ht := str_kind hti rfl rfl
  unfold sliceStr at hr
  split at hr
  · rename_i l h hl hh'
    have fin : ∀ {l h : Nat}, κ ⟨.str (b.extract l h), [], s.nx⟩ = some r → Done X C s κ r (.string (b.extract l h)) C.w := fun hk => Done.pure hh hf hk (by simp only [RepA])
    rcases bnd_rep hl hlo with ⟨rfl, rfl⟩ | ⟨l, kl, rfl, rfl⟩ <;> rcases bnd_rep hh' hhi with ⟨rfl, rfl⟩ | ⟨h, kh, rfl, rfl⟩
    · refine ⟨_, ?_, fin (run_ret hr)⟩
      rw [run_sliceAt_string C.w t _ _ _ _ ht]
      simp [Instr.slice, run_underlying ht, Instr.sliceBounds]
    · obtain ⟨h1, hr⟩ := run_test hr
      obtain ⟨h2, hr⟩ := run_test hr
      refine ⟨_, ?_, fin (run_ret hr)⟩
      rw [run_sliceAt_string C.w t _ _ _ _ ht]
      simp [Instr.slice, run_underlying ht, Instr.sliceBounds, run_sliceBound C.w kh h b.size _ h1 h2]
    · obtain ⟨h1, hr⟩ := run_test hr
      obtain ⟨h2, hr⟩ := run_test hr
      refine ⟨_, ?_, fin (run_ret hr)⟩
      rw [run_sliceAt_string C.w t _ _ _ _ ht]
      simp [Instr.slice, run_underlying ht, Instr.sliceBounds, run_sliceBound C.w kl l b.size _ h1 h2]
    · obtain ⟨h1, hr⟩ := run_test hr
      obtain ⟨h2, hr⟩ := run_test hr
      obtain ⟨h3, hr⟩ := run_test hr
      refine ⟨_, ?_, fin (run_ret hr)⟩
      rw [run_sliceAt_string C.w t _ _ _ _ ht]
      simp [Instr.slice, run_underlying ht, Instr.sliceBounds, run_sliceBound C.w kh h b.size _ (by omega) h3, run_sliceBound C.w kl l h.toNat _ h1 (by omega)]
  · cases hr
theorem op_sound (hE : EnvOk E X.P) (hS : SigOk E X.P) (hP : FnOk X.P X.J E orc) {ntm : Nat} {a : Act} (h : Rel X C s ntm a) {o : Oper} (hr : (evalOp o s : Tr E Out).run orc κ = some r) :
    OpGoes X.P o a C.w (fun v w' => Done X C s κ r v w') := by
  obtain ⟨dst, op, ty, pos, after, guard⟩ := o
  have hh := h.hp
  have hf := h.fr
  have ev := fun x => eval_opnd h x
  unfold evalOp at hr
  cases op with
  | move x => exact OpGoes.value (v := a.eval x) rfl (Done.pure hh hf (run_ret hr) (ev x))
  | assign x => exact OpGoes.value (v := a.eval x) rfl (Done.pure hh hf (run_ret hr) (ev x))
  | pick c x y =>
    simp only at hr
    have hc := ev c
    have go : ∀ b : Bool, a.eval c = .bool b → ∀ z, z = (if b = true then x else y) → κ ⟨opnd s.tm z, [], s.nx⟩ = some r → OpGoes X.P ⟨dst, .pick c x y, ty, pos, after, guard⟩ a C.w (fun v w' => Done X C s κ r v w') := by
      intro b hb z hz hk
      refine OpGoes.value (v := a.eval z) (w' := C.w) ?_ (Done.pure hh hf hk (ev z))
      subst hz
      cases b <;> simp [execOp, hb, asBool]
    split at hr
    · rename_i e
      rw [e] at hc
      simp only [RepA] at hc
      exact go true hc x rfl (run_ret hr)
    · rename_i e
      rw [e] at hc
      simp only [RepA] at hc
      exact go false hc y rfl (run_ret hr)
    · rename_i b e
      rw [e] at hc
      simp only [RepA] at hc
      simp only [Tr.run] at hr
      cases b with
      | true => exact go true hc x rfl (run_ret (by simpa using hr))
      | false => exact go false hc y rfl (run_ret (by simpa using hr))
    · rename_i p d e
      rw [e] at hc
      simp only [RepA] at hc
      simp only [Tr.run] at hr
      by_cases hp : p
      · rw [if_pos hp] at hr
        exact go true (by simpa [hp] using hc) x rfl (run_ret hr)
      · rw [if_neg hp] at hr
        exact go false (by simpa [hp] using hc) y rfl (run_ret hr)
    · cases hr
  | alloc t =>
    simp only at hr
    split at hr
    · rename_i ti hti
      have hti' := hE.ti _ _ hti
      obtain ⟨z, hz, hzc⟩ := run_zeroValue hti' C.w
      obtain ⟨w', h1, h2, h3⟩ := run_newVar (P := X.P) (w := C.w) (t := t) (v := z)
      refine goes_value rfl (v := .pointer (some ⟨C.w.heap.size, 0, none⟩)) (w' := w') ?_ ⟨_, _, rfl, hr, new_cells hh hf h2 h3 rfl ?_⟩
      · simp [Instr.alloc, hz, h1]
      · rw [hzc]; exact zero_rep ti.ty
    · cases hr
  | box t x =>
    simp only at hr
    split at hr
    · rename_i ti hti
      split at hr
      · rename_i hc
        simp only [Bool.and_eq_true] at hc
        obtain ⟨w', h1, h2, h3⟩ := run_newVar (P := X.P) (w := C.w) (t := t) (v := a.eval x)
        refine goes_value rfl (v := .pointer (some ⟨C.w.heap.size, 0, none⟩)) (w' := w') ?_ ⟨_, _, rfl, hr, new_cells hh hf h2 h3 rfl (cells_of (ev x) hc.1)⟩
        simp [Instr.box, h1]
      · cases hr
    · cases hr
  | build t ps =>
    simp only at hr
    split at hr
    · rename_i ti fl hti hfl
      split at hr
      · rename_i cs hcs
        obtain ⟨u, h1, h2⟩ := build_sound (ps := ps.map fun (i, x) => (i, a.eval x)) hE (hE.ti _ _ hti) hfl hh hf (by rw [Array.toList_map]; exact parts_rep h ps.toList) hcs (run_ret hr)
        exact goes_value rfl h1 h2
      · cases hr
    · rename_i ti hti hfl
      split at hr
      · rename_i e m har
        split at hr
        · rename_i te hte
          split at hr
          · rename_i cs hcs
            obtain ⟨u, h1, h2⟩ := arrBuild_sound (ps := ps.map fun (i, x) => (i, a.eval x)) hE (hE.ti _ _ hti) hte (hE.ar _ _ har) hh hf (by rw [Array.toList_map]; exact parts_rep h ps.toList) hcs (run_ret hr)
            exact goes_value rfl h1 h2
          · cases hr
        · cases hr
      · cases hr
    · cases hr
  | buildSlice t len ps =>
    simp only at hr
    split at hr
    · rename_i e he
      split at hr
      · rename_i ti hti
        obtain ⟨u, w', h1, h2⟩ := lit_sound (ps := ps.map fun (i, x) => (i, a.eval x)) (hE.ti _ _ hti) (hE.el _ _ he) hh hf (by rw [Array.toList_map]; exact parts_rep h ps.toList) hr
        exact goes_value rfl h1 h2
      · cases hr
    · split at hr
      · rename_i e he
        obtain ⟨h3, h4⟩ := hE.ps _ _ he
        obtain ⟨u, w', h1, h2⟩ := span_sound (ps := ps.map fun (i, x) => (i, a.eval x)) h4 h3 hh hf (by rw [Array.toList_map]; exact parts_rep h ps.toList) hr
        exact goes_value rfl h1 h2
      · cases hr
  | load t x =>
    simp only at hr
    split at hr
    · rename_i ti hti
      obtain ⟨u, h1, h2⟩ := load_sound (hE.ti _ _ hti) hh hf (ev x) hr
      exact goes_value rfl h1 h2
    · split at hr
      · rename_i b hb
        obtain ⟨u, h1, h2⟩ := spanLoad_sound (hE.pe _ _ hb) hh hf (ev x) hr
        exact goes_value rfl h1 h2
      · cases hr
  | store t x y =>
    simp only at hr
    split at hr
    · rename_i ti hti
      obtain ⟨w', h1, h2⟩ := store_sound (hE.ti _ _ hti) hh hf (ev x) (ev y) hr
      exact OpGoes.skip (w' := w') (by simp [execOp, h1]) h2
    · cases hr
  | nilCheck x =>
    simp only at hr
    have hx := ev x
    have go : κ ⟨opnd s.tm x, [], s.nx⟩ = some r → ∀ q, a.eval x = .pointer (some q) → OpGoes X.P ⟨dst, .nilCheck x, ty, pos, after, guard⟩ a C.w (fun v w' => Done X C s κ r v w') := by
      intro hk q hq
      refine OpGoes.value (v := a.eval x) (w' := C.w) ?_ (Done.pure hh hf hk (ev x))
      simp [execOp, hq]
    split at hr
    · rename_i id off e
      split at hr
      · rename_i l hl
        rw [e] at hx
        simp only [RepA] at hx
        obtain ⟨b, _, hb⟩ := hx.2.2 l hl
        exact go (by rw [e]; exact run_ret hr) _ hb
      · cases hr
    · rename_i id i off e
      split at hr
      · rename_i hl
        rw [e] at hx
        simp only [RepA] at hx
        obtain ⟨_, _, b, ao, len, cap, _, hb⟩ := hx.2.2 _ _ _ _ hl
        exact go (by rw [e]; exact run_ret hr) _ hb
      · cases hr
    · rename_i t y off ls e
      split at hr
      · rename_i hl
        rw [e] at hx
        simp only [RepA] at hx
        obtain ⟨b, ao, arr, ee, fr, hb, _⟩ := hx.2.2 hl
        exact go (by rw [e]; exact run_ret hr) _ hb
      · cases hr
    · cases hr
  | binOp op t x y yt =>
    simp only at hr
    obtain ⟨u, h1, h2⟩ := binOp_sound (x := x) (y := y) hE hh hf (ev x) (ev y) hr
    exact goes_value rfl h1 h2
  | unOp op t x =>
    simp only at hr
    obtain ⟨u, h1, h2⟩ := unOp_sound hh hf (ev x) hr
    exact goes_value rfl h1 h2
  | convert t u x =>
    simp only at hr
    obtain ⟨u, w', h1, h2⟩ := conv_sound hE hh hf (ev x) hr
    exact goes_value rfl h1 h2
  | makeFunc fn first caps =>
    cases fn with
    | func f =>
      simp only at hr
      split at hr
      · rename_i hfi
        refine OpGoes.value (v := .func (.func f) #[] (caps.map a.eval)) (w' := C.w) ?_ (Done.pure hh hf (run_ret hr) ?_)
        · have := arr_of hfi
          subst this
          simp [execOp, Instr.makeFunc]
        · simp only [RepA]
          refine ⟨_, rfl, ?_⟩
          rw [Array.toList_map]
          exact opnds_rep h _
      · cases hr
    | _ => simp only at hr; cases hr
  | makeSlice t l c =>
    simp only at hr
    split at hr
    · rename_i e he
      split at hr
      · rename_i ti hti
        obtain ⟨u, w', h1, h2⟩ := make_sound (hE.ti _ _ hti) (hE.el _ _ he) hh hf (ev l) (ev c) hr
        exact goes_value rfl h1 h2
      · cases hr
    · cases hr
  | slice t x lo hi mx =>
    cases mx with
    | some m => simp only at hr; cases hr
    | none =>
      simp only at hr
      split at hr
      · rename_i b by_ hx hti
        have hb := ev x
        rw [hx] at hb
        simp only [RepA] at hb
        obtain ⟨u, h1, h2⟩ := sliceStr_sound (hE.ti _ _ hti) hh hf (opt_rep h lo) (opt_rep h hi) hr
        exact goes_value (m := Instr.sliceAt t (a.eval x) (lo.map a.eval) (hi.map a.eval) none) rfl (by rw [hb]; exact h1) h2
      · split at hr
        · rename_i e he
          split at hr
          · rename_i ti hti
            obtain ⟨u, h1, h2⟩ := slice_sound (hE.ti _ _ hti) (hE.el _ _ he) hh hf (ev x) (opt_rep h lo) (opt_rep h hi) hr
            exact goes_value rfl h1 h2
          · cases hr
        · cases hr
  | fieldAddr t x f =>
    simp only at hr
    split at hr
    · rename_i fl hfl
      obtain ⟨fs, hfs, hok⟩ := hE.fl _ _ hfl
      obtain ⟨u, h1, h2⟩ := fieldAt_sound hfs hok hh hf (ev x) hr
      exact goes_value rfl h1 h2
    · cases hr
  | field t x f =>
    simp only at hr
    split at hr
    · rename_i fl hfl
      obtain ⟨fs, hfs, hok⟩ := hE.fl _ _ hfl
      obtain ⟨u, h1, h2⟩ := fieldOf_sound hE hfs hok hh hf (ev x) hr
      exact goes_value rfl h1 h2
    · cases hr
  | indexAddr t x i =>
    simp only at hr
    split at hr
    · rename_i e he
      split at hr
      · rename_i ti hti
        obtain ⟨u, h1, h2⟩ := index_sound (hE.ti _ _ hti) (hE.el _ _ he) hh hf (ev x) (ev i) hr
        exact goes_value rfl h1 h2
      · cases hr
    · split at hr
      · rename_i e he
        obtain ⟨h3, h4⟩ := hE.ps _ _ he
        obtain ⟨u, h1, h2⟩ := spanIdx_sound h4 h3 hh hf (ev x) (ev i) hr
        exact goes_value rfl h1 h2
      · split at hr
        · rename_i e m har
          split at hr
          · rename_i te hte
            obtain ⟨u, h1, h2⟩ := arrIdx_sound (hE.ti _ _ hte) (hE.ar _ _ har) hh hf (ev x) (ev i) hr
            exact goes_value rfl h1 h2
          · cases hr
        · cases hr
  | index t x i =>
    simp only at hr
    split at hr
    · rename_i b k n by_ hx hi hti
      have h1 := ev x
      have h2 := ev i
      rw [hx] at h1
      rw [hi] at h2
      simp only [RepA] at h1 h2
      obtain ⟨u, g1, g2⟩ := strIndex_sound (ty := .str) (k := k) (hE.ti _ _ hti) hh hf hr
      exact goes_value (m := Instr.index t (a.eval x) (a.eval i)) rfl (by rw [h1, h2]; exact g1) g2
    · cases hr
  | extract x i =>
    simp only at hr
    split at hr
    · rename_i l hl
      split at hr
      · rename_i v hv
        have h1 := ev x
        rw [hl] at h1
        simp only [RepA] at h1
        obtain ⟨arr, h1, h2⟩ := h1
        obtain ⟨u, h3, h4⟩ := h2.get hv
        refine goes_value (m := Instr.extract (a.eval x) i) rfl (v := u) (w' := C.w) ?_ (Done.pure hh hf (run_ret hr) h4)
        rw [h1]
        have : arr[i]? = some u := by rw [← Array.getElem?_toList]; exact h3
        simp [Instr.extract, this]
      · cases hr
    · cases hr
  | call c =>
    simp only at hr
    obtain ⟨callee, args, ats⟩ := c
    cases callee with
    | builtin b =>
      simp only at hr
      have hex : ∃ consts, execOp a.eval ⟨dst, .call ⟨.builtin b, args, ats⟩, ty, pos, after, guard⟩ = builtin b ats ty consts (args.map a.eval) := ⟨_, rfl⟩
      obtain ⟨consts, hex⟩ := hex
      obtain ⟨v, w', h1, h2⟩ := builtin_sound (ty := ty) (us := args.map a.eval) (consts := consts) hE hh hf (by rw [Array.toList_map]; exact opnds_rep h _) hr
      exact OpGoes.value (v := v) (w' := w') (by rw [hex]; exact h1) h2
    | value f =>
      simp only at hr
      split at hr
      · rename_i g caps hfn
        have h1 := ev f
        rw [hfn] at h1
        simp only [RepA] at h1
        obtain ⟨arr, h1, h2⟩ := h1
        have hsig : ∃ S, get? E.sg g = some S := by
          unfold callOp at hr
          split at hr
          · rename_i S hSS; exact ⟨S, hSS⟩
          · cases hr
        obtain ⟨S, hSS⟩ := hsig
        obtain ⟨fn, hfu, hnm, hbd⟩ := hS _ _ hSS
        have hcall := call_sound (us := (args.map a.eval) ++ arr) hP hh hf (by simp only [Array.toList_append, Array.toList_map]; exact (opnds_rep h _).append h2) hr
        refine OpGoes.enter (f := g) (args := args.map a.eval ++ arr) (w' := C.w) ?_ hcall
        simp only [execOp, resolve, h1, Deferred.ofValue, invoke]
        obtain ⟨c, hb⟩ := Option.isSome_iff_exists.1 hbd
        simp [callFunc, hfu, hnm, hb]
      · cases hr
    | invoke x y => simp only at hr; cases hr
  | _ => simp only at hr; cases hr
end Go.Vm
namespace Go.Vm
open Go Go.RowKit
set_option linter.unusedVariables false
set_option linter.unusedSimpArgs false
variable {E : Env} {R : Type} {X : Cx} {C : Cc} {s : St} {r : R} {orc : Orc E}
theorem Rel.know {ntm : Nat} {a : Act} (h : Rel X C s ntm a) {t : Nat} {v : AV} (hv : RepA X C s.hp s.nx v (a.tmps.getD t undef)) : Rel X C { s with tm := (t, v) :: s.tm } ntm a :=
  ⟨h.defers, h.size, fun u => by
    show RepA X C s.hp s.nx (tget ((t, v) :: s.tm) u) _
    rw [tget_cons]
    split
    · rename_i e; subst e; exact hv
    · exact h.tm u, h.hp, h.fr, h.n0, h.mu0⟩
def boolIn : Value → Option Bool
  | .bool b => some b
  | _ => none
/-- What a guard's operation yielded. -/
theorem yielded_eq {ops : Array Oper} {a : Act} {j t : Nat} (hd : dstOf ops j = some t) {v : Value} (hv : a.tmps.getD t undef = v) : yielded ops a.tmps j = boolIn v := by
  have h1 : (ops[j]?).bind (·.dst) = some t := by
    unfold dstOf at hd
    split at hd
    · rename_i o ho; simp [ho, hd]
    · cases hd
  unfold yielded
  rw [h1]
  simp only [Option.bind]
  rw [Array.getD_eq_getD_getElem?] at hv
  cases hg : a.tmps[t]? with
  | none =>
    rw [hg] at hv
    simp only [Option.getD_none] at hv
    subst hv
    rfl
  | some u =>
    rw [hg] at hv
    simp only [Option.getD_some] at hv
    subst hv
    cases u <;> rfl
theorem wanted_is {ops : Array Oper} {a : Act} {o : Oper} {j t : Nat} {want b : Bool} (hg : o.guard = some (j, want)) (hd : dstOf ops j = some t) (hv : a.tmps.getD t undef = .bool b) : Region.wanted o (yielded ops a.tmps) = (b == want) := by
  simp only [Region.wanted, hg, yielded_eq hd hv]
  cases b <;> cases want <;> rfl
theorem wanted_undef {ops : Array Oper} {a : Act} {o : Oper} {j t : Nat} {want : Bool} (hg : o.guard = some (j, want)) (hd : dstOf ops j = some t) (hv : a.tmps.getD t undef = .tuple #[]) : Region.wanted o (yielded ops a.tmps) = false := by
  simp only [Region.wanted, hg, yielded_eq hd hv]
  cases want <;> rfl
theorem skip_fin (hh : HpOk X C s.hp s.nx) (hf : Fr X C) : Fin X C s ⟨.tup [], [], s.nx⟩ undef C :=
  ⟨Evo.refl _ _ _ _, hh, by simp only [RepA]; exact ⟨#[], rfl, by simp [RepL]⟩, hf⟩
/-! ### rows let go -/
/-- The blocks of a row, but its array, become shared. -/
def Cc.rel (C : Cc) (id a : Nat) : Cc where
  w := C.w
  μ := C.μ
  o := fun b => if C.o b = some id ∧ b ≠ a then none else C.o b
theorem rel_sh (hf : Fr X C) {id a b : Nat} {ls : List Lb} (h : lbS X C.o ls b ∨ C.o b = some id) (hne : b ≠ a) : lbS X (C.rel id a).o ls b := by
  have hrel : C.o b = some id → lbS X (C.rel id a).o ls b := fun ho => by
    refine .inl ⟨?_, .inr (hf.own b id ho).2⟩
    show (if C.o b = some id ∧ b ≠ a then none else C.o b) = none
    rw [if_pos ⟨ho, hne⟩]
  rcases h with (⟨h1, h2⟩ | ⟨l, hl, ho⟩) | ho
  · refine .inl ⟨?_, h2⟩
    show (if C.o b = some id ∧ b ≠ a then none else C.o b) = none
    rw [if_neg (fun q => by rw [h1] at q; cases q.1)]
    exact h1
  · by_cases hi : l.1 = id
    · exact hrel (by rw [← hi]; exact ho)
    · refine .inr ⟨l, hl, ?_⟩
      show (if C.o b = some id ∧ b ≠ a then none else C.o b) = some l.1
      rw [if_neg (fun q => by rw [ho] at q; exact hi (Option.some.inj q.1))]
      exact ho
  · exact hrel ho
theorem loadRel_sound {t : TypeId} {ti : TI} (hti : TiOk X.P t ti) (hh : HpOk X C s.hp s.nx) (hf : Fr X C) {a : AV} {v : Value} (ha : RepA X C s.hp s.nx a v) {out : Out} (hr : loadRel ti s a = some out) :
    ∃ u C', (Instr.loadAt t v).run X.P C.w = .ok u C.w ∧ C'.w = C.w ∧ Fin X C s out u C' := by
  unfold loadRel at hr
  split at hr
  · rename_i id i off
    simp only [RepA] at ha
    split at hr
    · rename_i ver T XS ls hg
      split at hr
      · rename_i hc
        simp only [Bool.and_eq_true] at hc
        obtain ⟨hflat, hl, hall, hb⟩ := hc
        have hb := Nat.le_of_ble_eq_true hb
        split at hr
        · rename_i av hp
          cases hr
          obtain ⟨h0, hi, b, ao, len, cap, hm, rfl⟩ := ha.2.2 _ _ _ _ hg
          have hk := hh id
          rw [hg] at hk
          obtain ⟨hid, hown, hshape, hin⟩ := hk
          have hown := hown hl
          have hown0 := hown
          obtain ⟨A, cp, hv1, hle, hrr⟩ := hown
          obtain ⟨b', off', arr, e, fr, hA, hS, hb', hfr, hcp, hel⟩ := hrr (by omega)
          rw [hm, hA] at hv1
          simp only [Value.slice.injEq, Option.some.injEq, Addr.mk.injEq] at hv1
          obtain ⟨⟨rfl, rfl, _⟩, rfl, rfl⟩ := hv1
          have hself : ∀ l ∈ ls, l.1 ≠ id := fun l hl' e => by
            have := List.all_eq_true.1 hall l hl'
            rw [e] at this
            simp at this
          have hEff : ∀ j B, get? [(id, Blk.row (ver + 1) T XS (some ls))] j = some B → j = id ∧ B = .row (ver + 1) T XS (some ls) := fun j B e => by
            rw [get?_cons] at e
            split at e
            · rename_i q
              exact ⟨q.symm, (Option.some.inj e).symm⟩
            · simp [get?] at e
          have hne : ∀ j, j ≠ id → get? [(id, Blk.row (ver + 1) T XS (some ls))] j = none := fun j hj => by
            rw [get?_cons, if_neg (fun q => hj q.symm)]
            rfl
          have hpre : Pre X C (C.rel id b) s.hp [(id, .row (ver + 1) T XS (some ls))] s.nx s.nx := {
            le := Nat.le_refl _
            mu := fun _ _ _ => rfl
            own := fun k j hk he => by
              have hj : j ≠ id := by
                rintro rfl
                rw [get?_cons, if_pos rfl] at he
                cases he
              refine ⟨?_, rfl⟩
              show (if C.o k = some id ∧ k ≠ b then none else C.o k) = some j
              rw [if_neg (fun q => by rw [hk] at q; exact hj (Option.some.inj q.1))]
              exact hk
            free := fun k _ hk => by
              refine ⟨?_, rfl⟩
              show (if C.o k = some id ∧ k ≠ b then none else C.o k) = none
              rw [if_neg (fun q => by rw [hk] at q; cases q.1)]
              exact hk
            old := fun j hj => ⟨fun v' t' xs' inner' e => by
                obtain ⟨rfl, e2⟩ := hEff _ _ e
                cases e2
                exact ⟨rfl, ver, XS, some ls, hg, rfl, Nat.lt_succ_self _⟩, fun l' e => by
                obtain ⟨_, e2⟩ := hEff _ _ e
                cases e2⟩ }
          have hrow : innerOwn (t := T) X (C.rel id b) id (some ls) XS (C.μ id) := by
            refine ⟨some ⟨b, ao, none⟩, cap, hm, hle, fun _ => ⟨b, ao, arr, e, fr, rfl, ?_, hb', hfr, hcp, fun j x hx => (hel j x hx).mono fun k hk o ho => ⟨ho, .inl (rel_sh hf hk.1 hk.2), hk.2⟩⟩⟩
            show (if C.o b = some id ∧ b ≠ b then none else C.o b) = some id
            rw [if_neg (fun q => q.2 rfl)]
            exact hS
          have hlv : lvs ([(id, Blk.row (ver + 1) T XS (some ls))] ++ s.hp) ls = true := lvs_of_mem fun l hl' => by
            have h1 := lvs_mem hl l hl'
            obtain ⟨t1, xs1, in1, h2⟩ := lv_row h1
            refine lv_of_row (t := t1) (xs := xs1) (inner := in1) (id := l.1) (v := l.2) ?_
            rw [hget_append, hne _ (hself l hl')]
            exact h2
          have hstep : Step X C (C.rel id b) s.hp [(id, .row (ver + 1) T XS (some ls))] s.nx s.nx := ⟨hpre, fun j B e => by
            obtain ⟨rfl, rfl⟩ := hEff _ _ e
            exact ⟨hid, fun _ => hrow, hshape, fun l hl' => hpre.evo.okL (hin l hl')⟩⟩
          have hx := hel _ _ (rd_get hi)
          have hsz : ao + i.toNat * T.sz + T.sz ≤ arr.size := by
            have := Nat.mul_le_mul_right T.sz (show i.toNat + 1 ≤ cap by omega)
            rw [Nat.add_mul, Nat.one_mul] at this
            omega
          have hcc : ∀ j u, (sl arr (ao + i.toNat * T.sz) T.sz)[j]? = some u → arr[ao + i.toNat * T.sz + j]? = some u := fun j u hj => by
            have : j < T.sz := by have := (List.getElem?_eq_some_iff.1 hj).1; rw [sl_length hsz] at this; exact this
            rwa [sl_get this] at hj
          have hL := avs_rep (X := X) (C := C.rel id b) (hp := [(id, Blk.row (ver + 1) T XS (some ls))] ++ s.hp) (nx := s.nx) (ls := ls) (fun l hl' => hpre.evo.okL (hin l hl')) hlv
            (hx.mono fun k hk o ho => ⟨ho, rel_sh hf hk.1 hk.2⟩)
          have hll := hL.length
          rw [sl_length hsz] at hll
          obtain ⟨u, h1, h2⟩ := load_piece (s := ⟨s.tm, [(id, Blk.row (ver + 1) T XS (some ls))] ++ s.hp, s.nx⟩) hti hL (b := b) (o := ao + i.toNat * T.sz) (fun j u hj => by
            show C.w.cell? _ = _
            rw [cell_blk hb']
            exact hcc j u hj) (by omega) hp
          refine ⟨u, C.rel id b, ?_, rfl, Fin.of hh hstep h2 ?_⟩
          · have h1 : (loadVar t ⟨b, ao + i.toNat * T.sz + off, none⟩).run X.P C.w = .ok u C.w := h1
            simpa [Instr.loadAt, Instr.sureAddr] using h1
          · exact ⟨hf.os, hf.tape, hf.output, hf.size, fun k hk ho => hf.block k hk ho, fun k j hk => by
              have hk : (if C.o k = some id ∧ k ≠ b then none else C.o k) = some j := hk
              split at hk
              · cases hk
              · exact hf.own k j hk⟩
        · cases hr
      · cases hr
    · cases hr
  · cases hr
theorem opR_sound (hE : EnvOk E X.P) (hS : SigOk E X.P) (hP : FnOk X.P X.J E orc) {ntm : Nat} {a : Act} (h : Rel X C s ntm a) {o : Oper} {κ : Out → Option R} (hr : (evalR o s : Tr E Out).run orc κ = some r) :
    OpGoes X.P o a C.w (fun v w' => Done X C s κ r v w') := by
  unfold evalR at hr
  split at hr
  · rename_i t x ho
    split at hr
    · rename_i ti hti
      split at hr
      · rename_i out hrel
        obtain ⟨u, C', h1, h2, h3⟩ := loadRel_sound (hE.ti _ _ hti) h.hp h.fr (eval_opnd h x) hrel
        obtain ⟨dst, op, ty, pos, after, guard⟩ := o
        simp only at ho
        subst ho
        exact goes_value rfl h1 ⟨out, C', h2, hr, h3⟩
      · exact op_sound hE hS hP h hr
    · exact op_sound hE hS hP h hr
  · exact op_sound hE hS hP h hr
theorem regS_sound (hE : EnvOk E X.P) (hS : SigOk E X.P) (hP : FnOk X.P X.J E orc) {ntm : Nat} {ops : Array Oper} {κ : St → Option R} {Q : Exit → Act → World → Prop} (hκ : ∀ s C a, κ s = some r → Rel X C s ntm a → Q .normal a C.w) :
    ∀ (l : List Oper) (s : St) (C : Cc) (a : Act), Rel X C s ntm a → regS orc ntm ops κ l s = some r → wpList X.P ops Q l a C.w
  | [], s, C, a, h, hr => hκ s C a hr h
  | o :: rest, s, C, a, h, hr => by
    simp only [regS] at hr
    split at hr
    · cases hr
    rename_i hd
    have go : ∀ s', Rel X C s' ntm a → Region.wanted o (yielded ops a.tmps) = true → (evalR o s' : Tr E Out).run orc (fun r => regS orc ntm ops κ rest (s'.put o.dst r)) = some r → wpList X.P ops Q (o :: rest) a C.w := by
      intro s' h' hw hr
      refine wpList_step fun K hK => ?_
      rw [if_pos hw]
      refine opR_sound hE hS hP h' hr K Q ?_
      rintro v w' ⟨out, C', rfl, hr', hfin⟩
      exact hK _ _ (regS_sound hE hS hP hκ rest _ _ _ (h'.put hd hfin) hr')
    have skip : ∀ s', Rel X C s' ntm a → Region.wanted o (yielded ops a.tmps) = false → regS orc ntm ops κ rest (s'.put o.dst ⟨.tup [], [], s'.nx⟩) = some r → wpList X.P ops Q (o :: rest) a C.w := by
      intro s' h' hw hr
      refine wpList_skip hw ?_
      exact regS_sound hE hS hP hκ rest _ _ _ (h'.put hd (skip_fin h'.hp h'.fr)) hr
    split at hr
    · rename_i hg
      exact go s h (by simp only [Region.wanted, hg]) hr
    · rename_i j want hg
      split at hr
      · cases hr
      · rename_i t ht
        have htm := h.tm t
        have know : ∀ b : Bool, a.tmps.getD t undef = .bool b → Rel X C { s with tm := (t, match b with | true => .tt | false => .ff) :: s.tm } ntm a := by
          intro b hb
          refine h.know ?_
          cases b <;> simp only [RepA] <;> exact hb
        split at hr
        · rename_i e
          rw [e] at htm
          simp only [RepA] at htm
          have hw := wanted_is hg ht htm
          cases want with
          | true => exact go s h hw hr
          | false => exact skip s h hw hr
        · rename_i e
          rw [e] at htm
          simp only [RepA] at htm
          have hw := wanted_is hg ht htm
          cases want with
          | true => exact skip s h hw hr
          | false => exact go s h hw hr
        · rename_i b e
          rw [e] at htm
          simp only [RepA] at htm
          have hw := wanted_is hg ht htm
          have hk := know b htm
          cases b <;> cases want <;> simp at hr <;> first | exact go _ hk hw hr | exact skip _ hk hw hr
        · rename_i p d e
          rw [e] at htm
          simp only [RepA] at htm
          have hw := wanted_is hg ht htm
          have hk := know _ htm
          by_cases hp : p
          · simp only [hp, decide_true] at hw hk
            cases want <;> simp only [if_pos hp] at hr <;> first | exact go _ hk hw hr | exact skip _ hk hw hr
          · simp only [hp, decide_false] at hw hk
            cases want <;> simp only [if_neg hp] at hr <;> first | exact go _ hk hw hr | exact skip _ hk hw hr
        · rename_i l e
          split at hr
          · rw [e] at htm
            simp only [RepA] at htm
            obtain ⟨arr, h1, h2⟩ := htm
            simp only [RepL] at h2
            have : arr = #[] := by cases arr; simp_all
            subst this
            exact skip s h (wanted_undef hg ht h1) hr
          · cases hr
        · cases hr
end Go.Vm
namespace Go.Vm
open Go Go.RowKit
set_option linter.unusedVariables false
set_option linter.unusedSimpArgs false
variable {E : Env} {R : Type} {X : Cx} {C : Cc} {s : St} {r : R} {orc : Orc E}
theorem dv_of : ∀ {a : At} {v : DV} {x : a.D}, a.of v = some x → a.dv x = v := by
  intro a v x h
  cases a <;> cases v <;> simp only [At.of, Option.some.injEq, reduceCtorEq] at h
  · subst h; rfl
  · subst h; rfl
  · subst h; rfl
  · rename_i t u xs
    obtain ⟨h1, h2⟩ := rowCast_eq h
    subst h1
    simp only at h2
    subst h2
    rfl
theorem untyped_typed : ∀ {l : List At} {vs : List DV} {d : Ds l}, typed l vs = some d → untyped l d = vs
  | [], [], d, h => rfl
  | [], _ :: _, d, h => by simp [typed] at h
  | [a], [], d, h => by simp [typed] at h
  | [a], [v], d, h => by
    simp only [typed] at h
    simp only [untyped, dv_of h]
  | [a], _ :: _ :: _, d, h => by simp [typed] at h
  | a :: b :: l, [], d, h => by simp [typed] at h
  | a :: b :: l, v :: vs, d, h => by
    simp only [typed] at h
    split at h
    · rename_i x hx
      split at h
      · rename_i y hy
        cases h
        simp only [untyped, dv_of hx, untyped_typed hy]
      · cases h
    · cases h
theorem addM_keep {i j : Nat} {m m' : Mp} (h : addM i j m = some m') {k l : Nat} (hk : get? m k = some l) : get? m' k = some l := by
  unfold addM at h
  split at h
  · rename_i hn
    cases h
    rw [get?_cons, if_neg]
    · exact hk
    · rintro rfl; rw [hk] at hn; cases hn
  · split at h
    · cases h; exact hk
    · cases h
mutual
theorem bind_keep : ∀ (sk : Sk) {v : AV} {m m' : Mp}, sk.bind v m = some m' → ∀ {k l : Nat}, get? m k = some l → get? m' k = some l := by
  intro sk v m m' h k l hk
  cases sk <;> cases v <;> simp only [Sk.bind, Option.some.injEq] at h <;> first
    | (subst h; exact hk)
    | exact addM_keep h hk
    | exact bindL_keep _ h hk
theorem bindL_keep : ∀ (l : List Sk) {vs : List AV} {m m' : Mp}, Sk.bindL l vs m = some m' → ∀ {k j : Nat}, get? m k = some j → get? m' k = some j := by
  intro l vs m m' h k j hk
  cases l with
  | nil => simp only [Sk.bindL, Option.some.injEq] at h; subst h; exact hk
  | cons s l =>
    cases vs with
    | nil => simp only [Sk.bindL, Option.some.injEq] at h; subst h; exact hk
    | cons v vs =>
      simp only [Sk.bindL] at h
      split at h
      · rename_i m1 h1
        exact bindL_keep l h (bind_keep s h1 hk)
      · cases h
end
theorem hup_keep {h : HSk} {hp : Hp} : ∀ (l : HSk) {dl dl' : Hp} {nx nx' : Nat} {m m' : Mp}, hup h hp l dl nx m = some (dl', nx', m') → ∀ {k j : Nat}, get? m k = some j → get? m' k = some j
  | [], dl, dl', nx, nx', m, m', e, k, j, hk => by simp only [hup, Option.some.injEq, Prod.mk.injEq] at e; rw [← e.2.2]; exact hk
  | (i, .row _ _) :: l, dl, dl', nx, nx', m, m', e, k, j, hk => by simp only [hup] at e; exact hup_keep l e hk
  | (i, .cells sk) :: l, dl, dl', nx, nx', m, m', e, k, j, hk => by
    simp only [hup] at e
    split at e
    · split at e
      · split at e
        · rename_i hb
          exact hup_keep l e (bindL_keep sk hb hk)
        · cases e
      · cases e
    · cases e
theorem take_keep {sks : List Sk} {h : HSk} {m0 : Mp} {as : List AV} {hp : Hp} {nx : Nat} {g : Got} (hg : takeL sks h m0 as hp nx = some g) {k j : Nat} (hk : get? m0 k = some j) : get? g.m k = some j := by
  unfold takeL at hg
  split at hg
  split at hg
  · rename_i hb
    split at hg
    · rename_i hu
      split at hg
      · split at hg
        · split at hg
          · cases hg
            exact hup_keep _ hu (bindL_keep _ hb hk)
          · cases hg
        · cases hg
      · cases hg
    · cases hg
  · cases hg
theorem inMp_get {ho : HSk} : ∀ {hi : HSk} {i : Nat}, memH hi i = true → memH ho i = true → get? (inMp ho hi) i = some i
  | [], i, h, _ => by simp [memH] at h
  | (a, b) :: l, i, h, ho' => by
    simp only [memH] at h
    simp only [inMp]
    split at h
    · rename_i e
      have e' := Nat.eq_of_beq_eq_true e
      subst e'
      rw [ho', get?_cons, if_pos rfl]
    · have ih := inMp_get (ho := ho) h ho'
      split
      · rw [get?_cons]
        split
        · rename_i e; rw [e]
        · exact ih
      · exact ih
theorem tgets_rep {ntm : Nat} {a : Act} (h : Rel X C s ntm a) : ∀ ks : List Nat, RepL X C s.hp s.nx (tgets s.tm ks) (ks.map fun t => a.tmps.getD t undef)
  | [] => by simp [tgets, RepL]
  | t :: l => by
    simp only [tgets, List.map_cons, RepL]
    exact ⟨_, _, rfl, h.tm t, tgets_rep h l⟩
theorem zip_get {hp : Hp} {nx : Nat} (f : Nat → Value) : ∀ {ks : List Nat} {vs : List AV}, RepL X C hp nx vs (ks.map f) → ∀ t, RepA X C hp nx (tget (zipT ks vs) t) (f t)
  | [], vs, h, t => by simp only [zipT, tget, get?, RepA]
  | k :: ks, [], h, t => by simp only [zipT, tget, get?, RepA]
  | k :: ks, v :: vs, h, t => by
    simp only [List.map_cons, RepL] at h
    obtain ⟨u, r, e, h1, h2⟩ := h
    cases e
    simp only [zipT]
    rw [tget_cons]
    split
    · rename_i e; subst e; exact h1
    · exact zip_get f h2 t
def Cc.under (C : Cc) (m : Mp) : Cc := ⟨C.w, fun i => match get? m i with | some j => C.μ j | none => .tuple #[], fun b => match C.o b with | some j => kept m j | none => none⟩
theorem mem_memH : ∀ {l : HSk} {i : Nat}, memH l i = true → ∃ b, (i, b) ∈ l
  | [], i, h => by simp [memH] at h
  | (a, b) :: l, i, h => by
    simp only [memH] at h
    split at h
    · rename_i e
      have := Nat.eq_of_beq_eq_true e
      subst this
      exact ⟨b, by simp⟩
    · obtain ⟨b', hb⟩ := mem_memH h
      exact ⟨b', by simp [hb]⟩
theorem hinst_keys {bs : List Lb} {vr : Nat → Nat} : ∀ {l : HSk} {ds r : List DV} {h : Hp}, hinst bs id0 vr l ds = (h, r) → ∀ i B, get? h i = some B → memH l i = true
  | [], ds, r, h, e, i, B, hg => by simp only [hinst] at e; cases e; simp [get?] at hg
  | (a, b) :: l, ds, r, h, e, i, B, hg => by
    simp only [hinst] at e
    cases e1 : b.inst bs id0 vr (vr a) ds with
    | mk v r1 =>
      rw [e1] at e
      cases e2 : hinst bs id0 vr l r1 with
      | mk h1 r2 =>
        rw [e2] at e
        simp only at e
        cases e
        rw [get?_cons] at hg
        simp only [memH]
        split at hg
        · rename_i e3
          have : a = i := e3
          rw [beq_true.2 this]
        · have := hinst_keys e2 i B hg
          split <;> simp_all
theorem cut_sound {ntm : Nat} {a : Act} {hi : HSk} {T : SkSt} {d : Ds T.ats} (hn : X.n0 = nextOf hi) (hdn : ∀ i, i < nextOf hi → memH hi i = true) (h : Rel X C s ntm a) (ht : T.take hi s = some d) : ∃ C', C'.w = C.w ∧ Rel X C' (T.fill d) ntm a := by
  unfold SkSt.take at ht
  split at ht
  · rename_i hle
    have hle := Nat.le_of_ble_eq_true hle
    split at ht
    · rename_i g hg
      have hut := untyped_typed ht
      obtain ⟨C1, gh, hoo, hls, hrows, hhas, hfin⟩ := take_ok h.hp h.fr (tgets_rep h (keys T.tm)) hg
      have hfr := gh.fr
      obtain ⟨vs, h', r0, e1, e2, e3, e4⟩ := hfin X (C1.under g.m) rfl (fun i j hij => by simp only [Cc.under, hij]) (fun b j i hb hk => by simp only [Cc.under, hb]; exact hk)
        (fun b hb => ⟨by simp only [Cc.under, hb.1], hb.2⟩)
        (fun l hl hk b hb => ⟨by simp only [Cc.under, hb]; exact hk, by rcases (hfr.own b l.1 hb).2 with h | h; exact .inr (.inl h); exact .inr (.inr h)⟩)
      have hfill : T.fill d = ⟨zipT (keys T.tm) vs, h', nextOf T.hp⟩ := by
        unfold SkSt.fill SkSt.inst
        rw [hut, e1]
        simp only [e2]
      refine ⟨C1.under g.m, gh.w, ?_⟩
      rw [hfill]
      refine ⟨h.defers, h.size, zip_get _ e3, e4, ⟨hfr.os, hfr.tape, hfr.output, hfr.size, fun b hb ho => hfr.block b hb ho, fun b id hb => ?_⟩, by rw [hn]; exact hle, fun i hi' hne => ?_⟩
      · simp only [Cc.under] at hb
        split at hb
        · rename_i j hj
          exact hfr.own b j hj
        · cases hb
      · simp only at hne
        have hmem : memH T.hp i = true := by
          cases hg' : get? h' i with
          | none => simp [hget, hg'] at hne
          | some B => exact hinst_keys e2 i B hg'
        rw [hn] at hi'
        have hii := take_keep hg (inMp_get (hdn i hi') hmem)
        simp only [Cc.under, hii]
        obtain ⟨b, hb⟩ := mem_memH hmem
        have h5 := hrows _ hb i hii
        have hlt : i < s.nx := Nat.lt_of_lt_of_le (by rw [hn]; exact hi') h.n0
        cases b with
        | row t inner =>
          obtain ⟨v, xs, inner', h6⟩ := h5.1 t inner rfl
          obtain ⟨h7, v', xs', inner'', h8, _⟩ := gh.evo.row i hlt _ _ _ _ h6
          rw [h7]; exact h.mu0 i (by rw [hn]; exact hi') (by rw [h8]; simp)
        | cells sk =>
          obtain ⟨l, h6⟩ := h5.2 sk rfl
          obtain ⟨h7, l', h8⟩ := gh.evo.cells i hlt _ h6
          rw [h7]; exact h.mu0 i (by rw [hn]; exact hi') (by rw [h8]; simp)
    · cases ht
  · cases ht
end Go.Vm
namespace Go.Vm
open Go Go.RowKit
set_option linter.unusedVariables false
set_option linter.unusedSimpArgs false
variable {E : Env} {X X' : Cx}
/-- A step of the world, told of the names P alone. -/
structure EvoP (X X' : Cx) (C C' : Cc) (hp hp' : Hp) (P : Nat → Prop) (nx' : Nat) : Prop where
  lt : ∀ id, P id → id < nx'
  row : ∀ id, P id → ∀ v' t xs' inner', hget hp' id = .row v' t xs' inner' → C'.μ id = C.μ id ∧ ∃ v xs inner, hget hp id = .row v t xs inner ∧ xs'.length = xs.length ∧ v ≤ v' ∧
    (v = v' → hget hp' id = hget hp id ∧ ∀ b, C.o b = some id → C'.o b = some id ∧ C'.w.heap[b]? = C.w.heap[b]?)
  cells : ∀ id, P id → ∀ l', hget hp' id = .cells l' → C'.μ id = C.μ id ∧ ∃ l, hget hp id = .cells l
  sh : ∀ b o, X.sh C.o b → C.w.heap[b]? = some o → X'.sh C'.o b ∧ C'.w.heap[b]? = some o
  clo : ∀ id, P id → hget hp' id = hget hp id → ∀ v t xs inner, hget hp id = .row v t xs inner → ∀ l ∈ innerL inner, P l.1
section
variable {C C' : Cc} {hp hp' : Hp} {nx nx' : Nat} {P : Nat → Prop}
theorem EvoP.okL (h : EvoP X X' C C' hp hp' P nx') {l : Lb} (hP : P l.1) (hl : okL hp nx l) : okL hp' nx' l := by
  refine ⟨h.lt _ hP, fun v' t xs' inner' e => ?_⟩
  obtain ⟨_, v, xs, inner, e0, _, hv, _⟩ := h.row _ hP _ _ _ _ e
  exact Nat.le_trans (hl.2 _ _ _ _ e0) hv
theorem EvoP.lv (h : EvoP X X' C C' hp hp' P nx') {l : Lb} (hP : P l.1) (hn : Vm.okL hp nx l) (hl : lv hp' l = true) :
    lv hp l = true ∧ hget hp' l.1 = hget hp l.1 ∧ ∀ b, C.o b = some l.1 → C'.o b = some l.1 ∧ C'.w.heap[b]? = C.w.heap[b]? := by
  obtain ⟨t, xs, inner, e⟩ := lv_row hl
  obtain ⟨_, v, xs0, inner0, e0, _, hv, hs⟩ := h.row l.1 hP _ _ _ _ e
  have hv' : v = l.2 := Nat.le_antisymm hv (hn.2 _ _ _ _ e0)
  subst hv'
  obtain ⟨h1, h2⟩ := hs rfl
  exact ⟨lv_of_row e0, h1, h2⟩
theorem EvoP.lvs (h : EvoP X X' C C' hp hp' P nx') {ls : List Lb} (hP : ∀ l ∈ ls, P l.1) (hn : ∀ l ∈ ls, Vm.okL hp nx l) (hl : lvs hp' ls = true) : lvs hp ls = true :=
  lvs_of_mem fun l hm => (h.lv (hP l hm) (hn l hm) (lvs_mem hl l hm)).1
theorem EvoP.stays (h : EvoP X X' C C' hp hp' P nx') {ls : List Lb} (hP : ∀ l ∈ ls, P l.1) (hn : ∀ l ∈ ls, Vm.okL hp nx l) (hl : Vm.lvs hp' ls = true) : Stays C.w C'.w (lbS X C.o ls) (lbS X' C'.o ls) := by
  intro b hb ob ho
  rcases hb with h0 | ⟨l, hm, hb⟩
  · obtain ⟨h2, h3⟩ := h.sh b ob h0 ho
    exact ⟨h3, .inl h2⟩
  · obtain ⟨_, _, h3⟩ := h.lv (hP l hm) (hn l hm) (lvs_mem hl l hm)
    obtain ⟨h4, h5⟩ := h3 b hb
    exact ⟨h5.trans ho, .inr ⟨l, hm, h4⟩⟩
theorem EvoP.own (h : EvoP X X' C C' hp hp' P nx') {l : Lb} (hP : P l.1) (hn : Vm.okL hp nx l) (hl : Vm.lv hp' l = true) : Stays C.w C'.w (ownS C.o l.1) (ownS C'.o l.1) := by
  intro b hb ob ho
  obtain ⟨h4, h5⟩ := (h.lv hP hn hl).2.2 b hb
  exact ⟨h5.trans ho, h4⟩
theorem innerOwn_move (h : EvoP X X' C C' hp hp' P nx') {id ver : Nat} (hP : P id) (hn : Vm.okL hp nx (id, ver)) (hl : Vm.lv hp' (id, ver) = true) {t : Ty} {inner : Option (List Lb)} {xs : List t.D} {v : Value}
    (hPi : ∀ l ∈ innerL inner, P l.1) (hi : ∀ l ∈ innerL inner, Vm.okL hp nx l) (hv : Vm.lvs hp' (innerL inner) = true) (ho : innerOwn X C id inner xs v) : innerOwn X' C' id inner xs v := by
  cases inner with
  | none => exact OwnD.mono (t := .row t) (h.own (l := (id, ver)) hP hn hl) ho
  | some ls =>
    refine RowR.mono (h.own (l := (id, ver)) hP hn hl) (fun _ _ _ _ he => he.mono ?_) ho
    intro k hk o hob
    rcases hk.1 with h1 | h1
    · obtain ⟨h2, h3⟩ := h.stays hPi hi hv k h1 o hob
      exact ⟨h2, .inl h3, hk.2⟩
    · obtain ⟨h2, h3⟩ := h.own (l := (id, ver)) hP hn hl k h1 o hob
      exact ⟨h2, .inr h3, hk.2⟩
theorem lbIds_mem : ∀ {ls : List Lb} {l : Lb}, l ∈ ls → l.1 ∈ lbIds ls
  | (i, v) :: r, l, h => by
    simp only [lbIds, List.mem_cons]
    cases h with
    | head => exact .inl rfl
    | tail _ h => exact .inr (lbIds_mem h)
theorem lbIds_of : ∀ {ls : List Lb} {i : Nat}, i ∈ lbIds ls → ∃ l ∈ ls, l.1 = i
  | (j, v) :: r, i, h => by
    simp only [lbIds, List.mem_cons] at h
    rcases h with h | h
    · exact ⟨(j, v), by simp, h.symm⟩
    · obtain ⟨l, h1, h2⟩ := lbIds_of h
      exact ⟨l, by simp [h1], h2⟩
mutual
theorem RepA.move (h : EvoP X X' C C' hp hp' P nx') (hh : HpOk X C hp nx) : ∀ {a : AV} {v : Value}, (∀ i ∈ a.ids, P i) → RepA X C hp nx a v → RepA X' C' hp' nx' a v
  | .int _ _, _, _, r => by simpa only [RepA] using r
  | .bool _, _, _, r => by simpa only [RepA] using r
  | .tt, _, _, r => by simpa only [RepA] using r
  | .ff, _, _, r => by simpa only [RepA] using r
  | .prop _ _, _, _, r => by simpa only [RepA] using r
  | .str _, _, _, r => by simpa only [RepA] using r
  | .lst t xs ls, v, hi, r => by
    simp only [AV.ids] at hi
    have hP : ∀ l ∈ ls, P l.1 := fun l hl => hi _ (lbIds_mem hl)
    simp only [RepA] at r ⊢
    exact ⟨fun l hl => h.okL (hP l hl) (r.1 l hl), r.2.1, fun hl => (r.2.2 (h.lvs hP r.1 hl)).mono (h.stays hP r.1 hl)⟩
  | .sub id ver t xs, v, hi, r => by
    simp only [AV.ids, List.mem_singleton, forall_eq] at hi
    simp only [RepA] at r ⊢
    refine ⟨h.okL (l := (id, ver)) hi r.1, r.2.1, fun u us inner e hil => ?_⟩
    have hlv := lv_of_row e
    obtain ⟨h1, h2, h3⟩ := h.lv (l := (id, ver)) hi r.1 hlv
    have e0 : hget hp id = .row ver u us inner := by rw [← h2]; exact e
    have hk := hh id
    rw [e0] at hk
    have hin : ∀ l ∈ innerL inner, Vm.okL hp nx l := hk.2.2.2
    have hPi := h.clo id hi h2 _ _ _ _ e0
    obtain ⟨hu, ho⟩ := r.2.2 u us inner e0 (h.lvs hPi hin hil)
    exact ⟨hu, innerOwn_move h hi r.1 hlv hPi hin hil ho⟩
  | .own id, v, hi, r => by
    simp only [AV.ids, List.mem_singleton, forall_eq] at hi
    simp only [RepA] at r ⊢
    refine ⟨h.lt _ hi, r.2.1, fun ver t xs inner e => ?_⟩
    obtain ⟨hm, v0, xs0, inner0, e0, _⟩ := h.row id hi _ _ _ _ e
    rw [hm]; exact r.2.2 _ _ _ _ e0
  | .inn id ver i off, v, hi, r => by
    simp only [AV.ids, List.mem_singleton, forall_eq] at hi
    simp only [RepA] at r ⊢
    refine ⟨h.okL (l := (id, ver)) hi r.1, r.2.1, fun t xs e => ?_⟩
    have hlv := lv_of_row e
    obtain ⟨h1, h2, h3⟩ := h.lv (l := (id, ver)) hi r.1 hlv
    have e0 : hget hp id = .row ver t xs none := by rw [← h2]; exact e
    obtain ⟨g1, g2, b, ao, len, cap, arr, ee, fr, hm, hb, ho, ha⟩ := r.2.2 t xs e0
    have hk := hh id
    rw [e0] at hk
    have hown : OwnD C.w (.row t) (ownS C.o id) xs [C.μ id] := hk.2.1 rfl
    obtain ⟨w1, f, hw, A, cp, hw1, hle, hr⟩ := hown
    have hmu := (h.row id hi _ _ _ _ e).1
    have hcap : 0 < cp := by omega
    obtain ⟨b', off', arr', e', fr', hA, hS, hb', _⟩ := hr hcap
    have : b' = b := by
      have h5 : C.μ id = w1 := by simpa using hw
      rw [hm, hw1, hA] at h5
      simp at h5
      omega
    subst this
    obtain ⟨h6, h7⟩ := h3 b' hS
    exact ⟨g1, g2, b', ao, len, cap, arr, ee, fr, hmu.trans hm, h7.trans hb, ho, ha⟩
  | .ptr id off, v, hi, r => by
    simp only [AV.ids, List.mem_singleton, forall_eq] at hi
    simp only [RepA] at r ⊢
    refine ⟨h.lt _ hi, r.2.1, fun l e => ?_⟩
    obtain ⟨hm, l0, e0⟩ := h.cells id hi _ e
    obtain ⟨b, h1, h2⟩ := r.2.2 l0 e0
    exact ⟨b, hm.trans h1, h2⟩
  | .spn id n, v, hi, r => by
    simp only [AV.ids, List.mem_singleton, forall_eq] at hi
    simp only [RepA] at r ⊢
    refine ⟨h.lt _ hi, r.2.1, fun l e => ?_⟩
    obtain ⟨hm, l0, e0⟩ := h.cells id hi _ e
    obtain ⟨b, h1, h2⟩ := r.2.2 l0 e0
    exact ⟨b, hm.trans h1, h2⟩
  | .elp id i off, v, hi, r => by
    simp only [AV.ids, List.mem_singleton, forall_eq] at hi
    simp only [RepA] at r ⊢
    refine ⟨h.lt _ hi, r.2.1, fun ver t xs inner e => ?_⟩
    obtain ⟨hm, v0, xs0, inner0, e0, hlen, _⟩ := h.row id hi _ _ _ _ e
    obtain ⟨g1, g2, b, ao, len, cap, h1, h2⟩ := r.2.2 v0 t xs0 inner0 e0
    exact ⟨g1, by omega, b, ao, len, cap, hm.trans h1, h2⟩
  | .rop t x off ls, v, hi, r => by
    simp only [AV.ids] at hi
    have hP : ∀ l ∈ ls, P l.1 := fun l hl => hi _ (lbIds_mem hl)
    simp only [RepA] at r ⊢
    refine ⟨fun l hl => h.okL (hP l hl) (r.1 l hl), r.2.1, fun hl => ?_⟩
    obtain ⟨b, ao, arr, e, fr, h1, h2, h3, h4, h5⟩ := r.2.2 (h.lvs hP r.1 hl)
    obtain ⟨h6, h7⟩ := h.stays hP r.1 hl b h2 _ h3
    exact ⟨b, ao, arr, e, fr, h1, h7, h6, h4, h5.mono (h.stays hP r.1 hl)⟩
  | .agg l, v, hi, r => by
    simp only [AV.ids] at hi
    simp only [RepA] at r ⊢
    obtain ⟨arr, h1, h2⟩ := r
    exact ⟨arr, h1, RepL.move h hh hi h2⟩
  | .tup l, v, hi, r => by
    simp only [AV.ids] at hi
    simp only [RepA] at r ⊢
    obtain ⟨arr, h1, h2⟩ := r
    exact ⟨arr, h1, RepL.move h hh hi h2⟩
  | .fn f l, v, hi, r => by
    simp only [AV.ids] at hi
    simp only [RepA] at r ⊢
    obtain ⟨arr, h1, h2⟩ := r
    exact ⟨arr, h1, RepL.move h hh hi h2⟩
  | .nil, _, _, r => by simpa only [RepA] using r
  | .nptr, _, _, r => by simpa only [RepA] using r
  | .junk, _, _, _ => by simp only [RepA]
theorem RepL.move (h : EvoP X X' C C' hp hp' P nx') (hh : HpOk X C hp nx) : ∀ {l : List AV} {vs : List Value}, (∀ i ∈ AV.idsL l, P i) → RepL X C hp nx l vs → RepL X' C' hp' nx' l vs
  | [], _, _, r => by simpa only [RepL] using r
  | a :: l, vs, hi, r => by
    simp only [AV.idsL, List.mem_append] at hi
    simp only [RepL] at r ⊢
    obtain ⟨v, r', h1, h2, h3⟩ := r
    exact ⟨v, r', h1, RepA.move h hh (fun i hm => hi i (.inl hm)) h2, RepL.move h hh (fun i hm => hi i (.inr hm)) h3⟩
end
mutual
/-- A value speaks of names below the bound. -/
theorem RepA.ids_lt : ∀ {a : AV} {v : Value}, RepA X C hp nx a v → ∀ i ∈ a.ids, i < nx
  | .int _ _, _, _, i, hi | .bool _, _, _, i, hi | .tt, _, _, i, hi | .ff, _, _, i, hi | .prop _ _, _, _, i, hi | .str _, _, _, i, hi | .nil, _, _, i, hi | .nptr, _, _, i, hi | .junk, _, _, i, hi => by simp [AV.ids] at hi
  | .lst t xs ls, v, r, i, hi => by
    simp only [RepA] at r
    simp only [AV.ids] at hi
    obtain ⟨l, hl, rfl⟩ := lbIds_of hi
    exact (r.1 l hl).1
  | .sub id ver t xs, v, r, i, hi => by
    simp only [RepA] at r
    simp only [AV.ids, List.mem_singleton] at hi
    subst hi; exact r.1.1
  | .own id, v, r, i, hi => by
    simp only [RepA] at r
    simp only [AV.ids, List.mem_singleton] at hi
    subst hi; exact r.1
  | .inn id ver j off, v, r, i, hi => by
    simp only [RepA] at r
    simp only [AV.ids, List.mem_singleton] at hi
    subst hi; exact r.1.1
  | .ptr id off, v, r, i, hi => by
    simp only [RepA] at r
    simp only [AV.ids, List.mem_singleton] at hi
    subst hi; exact r.1
  | .spn id n, v, r, i, hi => by
    simp only [RepA] at r
    simp only [AV.ids, List.mem_singleton] at hi
    subst hi; exact r.1
  | .elp id j off, v, r, i, hi => by
    simp only [RepA] at r
    simp only [AV.ids, List.mem_singleton] at hi
    subst hi; exact r.1
  | .rop t x off ls, v, r, i, hi => by
    simp only [RepA] at r
    simp only [AV.ids] at hi
    obtain ⟨l, hl, rfl⟩ := lbIds_of hi
    exact (r.1 l hl).1
  | .agg l, v, r, i, hi => by
    simp only [RepA] at r
    obtain ⟨arr, _, h2⟩ := r
    exact RepL.ids_lt h2 i (by simpa only [AV.ids] using hi)
  | .tup l, v, r, i, hi => by
    simp only [RepA] at r
    obtain ⟨arr, _, h2⟩ := r
    exact RepL.ids_lt h2 i (by simpa only [AV.ids] using hi)
  | .fn f l, v, r, i, hi => by
    simp only [RepA] at r
    obtain ⟨arr, _, h2⟩ := r
    exact RepL.ids_lt h2 i (by simpa only [AV.ids] using hi)
theorem RepL.ids_lt : ∀ {l : List AV} {vs : List Value}, RepL X C hp nx l vs → ∀ i ∈ AV.idsL l, i < nx
  | [], vs, r, i, hi => by simp [AV.idsL] at hi
  | a :: l, vs, r, i, hi => by
    simp only [AV.idsL, List.mem_append] at hi
    simp only [RepL] at r
    obtain ⟨v, r', h1, h2, h3⟩ := r
    rcases hi with hi | hi
    · exact RepA.ids_lt h2 i hi
    · exact RepL.ids_lt h3 i hi
end
theorem blk_ids_lt (hh : HpOk X C hp nx) (id : Nat) : ∀ i ∈ (hget hp id).ids, i < nx := by
  intro i hi
  have hk := hh id
  cases hg : hget hp id with
  | dead => rw [hg] at hi; simp [Blk.ids] at hi
  | cells l =>
    rw [hg] at hk hi
    obtain ⟨_, b, arr, e, _, _, _, hr⟩ := hk
    exact hr.ids_lt i (by simpa only [Blk.ids] using hi)
  | row v t xs inner =>
    rw [hg] at hk hi
    simp only [Blk.ids] at hi
    obtain ⟨l, hl, rfl⟩ := lbIds_of hi
    exact (hk.2.2.2 l hl).1
/-- A block that is as it was. -/
theorem blkOk.move (h : EvoP X X' C C' hp hp' P nx') (hh : HpOk X C hp nx) {id : Nat} (hP : P id) (hids : ∀ i ∈ (hget hp id).ids, P i) (he : hget hp' id = hget hp id) (hb : ∀ b, C.o b = some id → C'.o b = some id ∧ C'.w.heap[b]? = C.w.heap[b]?) : blkOk X' C' hp' nx' id (hget hp' id) := by
  rw [he]
  have hk := hh id
  cases hg : hget hp id with
  | dead => trivial
  | cells l =>
    rw [hg] at hk hids
    obtain ⟨h1, b, arr, e, hm, ho, hw, hr⟩ := hk
    obtain ⟨h2, h3⟩ := hb b ho
    have hmu := (h.cells id hP l (he.trans hg)).1
    exact ⟨h.lt id hP, b, arr, e, hmu.trans hm, h2, h3.trans hw, hr.move h hh (by simpa only [Blk.ids] using hids)⟩
  | row v t xs inner =>
    rw [hg] at hk hids
    obtain ⟨h1, ho, ⟨A, cap, hs⟩, hl⟩ := hk
    have hmu := (h.row id hP _ _ _ _ (he.trans hg)).1
    have hPi : ∀ l ∈ innerL inner, P l.1 := fun l hl => hids _ (by simp only [Blk.ids]; exact lbIds_mem hl)
    refine ⟨h.lt id hP, fun hin => ?_, ⟨A, cap, hmu.trans hs⟩, fun l hl' => h.okL (hPi l hl') (hl l hl')⟩
    rw [hmu]
    have hok : okL hp nx (id, v) := ⟨h1, fun v' t' xs' inner' e => by rw [hg] at e; cases e; exact Nat.le_refl _⟩
    exact innerOwn_move h hP hok (lv_of_row (he.trans hg)) hPi hl hin (ho (h.lvs hPi hl hin))
end
end Go.Vm
namespace Go.Vm
open Go Go.RowKit
set_option linter.unusedVariables false
set_option linter.unusedSimpArgs false
variable {E : Env} {X : Cx} {C C' : Cc} {hpF view : Hp} {N nx : Nat} {P : Nat → Prop}
theorem run_some {R : Type} {orc : Orc E} {κ : Out → Option R} {r : R} : ∀ {t : Tr E Out}, t.run orc κ = some r → ∃ a, t.run orc some = some a ∧ κ a = some r
  | .ok a, h => ⟨a, rfl, h⟩
  | .test p d t, h => by
    simp only [Tr.run] at h ⊢
    by_cases hp : p
    · rw [if_pos hp] at h
      obtain ⟨a, h1, h2⟩ := run_some h
      exact ⟨a, by rw [if_pos hp]; exact h1, h2⟩
    · rw [if_neg hp] at h; cases h
  | .ite p d x y, h => by
    simp only [Tr.run] at h ⊢
    by_cases hp : p
    · rw [if_pos hp] at h
      obtain ⟨a, h1, h2⟩ := run_some h
      exact ⟨a, by rw [if_pos hp]; exact h1, h2⟩
    · rw [if_neg hp] at h
      obtain ⟨a, h1, h2⟩ := run_some h
      exact ⟨a, by rw [if_neg hp]; exact h1, h2⟩
  | .call g ds k, h => by
    simp only [Tr.run] at h ⊢
    cases e : orc g ds with
    | none => rw [e] at h; cases h
    | some x =>
      rw [e] at h
      obtain ⟨a, h1, h2⟩ := run_some (t := k x) h
      exact ⟨a, h1, h2⟩
  | .fail, h => by cases h
theorem isDead_iff {h : Hp} {i : Nat} : isDead h i = true ↔ hget h i = .dead := by
  unfold isDead
  split
  · rename_i e; simp [e]
  · rename_i e; simp; exact e
theorem isDead_false {h : Hp} {i : Nat} : isDead h i = false ↔ hget h i ≠ .dead := by
  rw [← Bool.not_eq_true, isDead_iff]
/-- What the view does not show is neither one's own nor shared. -/
def Cc.hide (C : Cc) (view : Hp) : Cc := ⟨C.w, C.μ, fun b => match C.o b with | some id => (match isDead view id with | true => none | false => some id) | none => none⟩
theorem hide_some {b id : Nat} : (C.hide view).o b = some id ↔ C.o b = some id ∧ hget view id ≠ .dead := by
  simp only [Cc.hide]
  cases e : C.o b with
  | none => simp
  | some j =>
    simp only
    cases hd : isDead view j with
    | true =>
      have := isDead_iff.1 hd
      simp only [reduceCtorEq, Option.some.injEq, false_iff]
      rintro ⟨rfl, h⟩
      exact h this
    | false =>
      have := isDead_false.1 hd
      simp only [Option.some.injEq]
      exact ⟨fun h => by subst h; exact ⟨rfl, this⟩, fun h => h.1⟩
theorem hide_none {b : Nat} (h : C.o b = none) : (C.hide view).o b = none := by simp only [Cc.hide, h]
def Cx.inner (X : Cx) (C : Cc) (view : Hp) (hj : X.J.I C.w C.o) : Cx := ⟨X.P, C.w, (C.hide view).o, X.sh C.o, 0, C.μ, X.J, X.J.st hj fun b _ ho => ⟨hide_none ho, rfl⟩⟩
structure View (X : Cx) (C : Cc) (hpF view : Hp) (nx : Nat) (P : Nat → Prop) : Prop where
  eq : ∀ id, P id → hget view id = hget hpF id
  plt : ∀ id, P id → id < nx
  own : ∀ id, ∀ i ∈ (hget view id).ids, P i
  sub : ∀ id, hget view id = .dead ∨ hget view id = hget hpF id
  lt : ∀ id, hget view id ≠ .dead → id < nx
theorem View.evo {hj : X.J.I C.w C.o} (h : View X C hpF view nx P) : EvoP X (X.inner C view hj) C (C.hide view) hpF view (fun id => id < nx) nx where
  lt := fun id h => h
  row := by
    intro id hid v' t xs' inner' e
    have ha : hget view id ≠ .dead := by rw [e]; simp
    have h1 := (h.sub id).resolve_left ha
    refine ⟨rfl, v', xs', inner', by rw [← h1]; exact e, rfl, Nat.le_refl _, fun _ => ⟨h1, fun b hb => ⟨hide_some.2 ⟨hb, ha⟩, rfl⟩⟩⟩
  cells := by
    intro id hid l' e
    have ha : hget view id ≠ .dead := by rw [e]; simp
    exact ⟨rfl, l', by rw [← (h.sub id).resolve_left ha]; exact e⟩
  sh := fun b o hb ho => ⟨⟨hide_none hb.1, .inl hb⟩, ho⟩
  clo := by
    intro id hid he v t xs inner e l hl
    have ha : hget view id ≠ .dead := by rw [he, e]; simp
    exact h.plt _ (h.own id l.1 (by rw [he, e]; simp only [Blk.ids]; exact lbIds_mem hl))
theorem View.hp {hj : X.J.I C.w C.o} (h : View X C hpF view nx P) (hh : HpOk X C hpF N) : HpOk (X.inner C view hj) (C.hide view) view nx := by
  intro id
  cases hd : isDead view id with
  | true => rw [isDead_iff.1 hd]; trivial
  | false =>
    have ha := isDead_false.1 hd
    have h1 := (h.sub id).resolve_left ha
    exact blkOk.move h.evo hh (h.lt id ha) (fun i hi => h.plt _ (h.own id i (by rw [h1]; exact hi))) h1 (fun b hb => ⟨hide_some.2 ⟨hb, ha⟩, rfl⟩)
theorem View.fr {hj : X.J.I C.w C.o} (hf : Fr X C) : Fr (X.inner C view hj) (C.hide view) :=
  ⟨rfl, rfl, rfl, Nat.le_refl _, fun _ _ _ => rfl, fun b id hb => ⟨(hf.own b id (hide_some.1 hb).1).1, .inr (by show (C.hide view).o b ≠ none; rw [hb]; simp)⟩⟩
/-- Back to the whole. -/
def Cc.show (C' C : Cc) (view hp' : Hp) : Cc :=
  ⟨C'.w, fun id => match isDead hp' id with | true => C.μ id | false => C'.μ id, fun b => match C.o b with | some id => (match isDead view id with | true => some id | false => C'.o b) | none => C'.o b⟩
theorem mem_keysOf : ∀ {l : Hp} {i : Nat} {B : Blk}, get? l i = some B → i ∈ keysOf l
  | [], i, B, h => by simp [get?] at h
  | (a, b) :: l, i, B, h => by
    rw [get?_cons] at h
    simp only [keysOf, List.mem_cons]
    split at h
    · rename_i e; exact .inl e.symm
    · exact .inr (mem_keysOf h)
theorem hpIds_mem : ∀ {l : Hp} {i : Nat} {B : Blk}, get? l i = some B → ∀ j ∈ B.ids, j ∈ hpIds l
  | [], i, B, h, j, hj => by simp [get?] at h
  | (a, b) :: l, i, B, h, j, hj => by
    rw [get?_cons] at h
    simp only [hpIds, List.mem_append]
    split at h
    · cases h; exact .inl hj
    · exact .inr (hpIds_mem h j hj)
structure Lift (X : Cx) (C C2 : Cc) (hpF hp2 : Hp) (nx nx' N : Nat) (v : AV) (u : Value) : Prop where
  evo : EvoP X X C C2 hpF hp2 (fun id => id < N ∧ ¬ (nx ≤ id ∧ id < nx')) N
  hp : HpOk X C2 hp2 N
  val : RepA X C2 hp2 N v u
  fr : Fr X C2
theorem lift {hj : X.J.I C.w C.o} {tm : Tm} {out : Out} {u : Value} (hV : View X C hpF view nx P) (hh : HpOk X C hpF N) (hf : Fr X C) (hN : out.nx ≤ N)
    (hclean : ∀ id, ∀ i ∈ (hget hpF id).ids, ¬ (nx ≤ i ∧ i < out.nx)) (fin : Fin (X.inner C view hj) (C.hide view) ⟨tm, view, nx⟩ out u C')
    (heff : ∀ i ∈ keysOf out.eff, (nx ≤ i ∧ i < out.nx) ∨ hget view i ≠ .dead) (hal : ∀ i ∈ out.v.ids ++ hpIds out.eff, P i ∨ (nx ≤ i ∧ i < out.nx)) (hfresh : ∀ id, nx ≤ id → id < out.nx → hget hpF id = .dead) :
    Lift X C (C'.show C view (out.eff ++ view)) hpF (out.eff ++ hpF) nx out.nx N out.v u := by
  have hevo := fin.evo
  have hf' := fin.fr
  have hw : C.w.heap.size ≤ C'.w.heap.size := hf'.size
  have hkeep : ∀ b, b < C.w.heap.size → (C.hide view).o b = none → C'.o b = none ∧ C'.w.heap[b]? = C.w.heap[b]? := fun b hb ho => hevo.free b hb ho
  -- names that the view and the effects show
  have hsame : ∀ id, hget (out.eff ++ view) id ≠ .dead → hget (out.eff ++ hpF) id = hget (out.eff ++ view) id := by
    intro id ha
    rw [hget_append] at ha ⊢
    rw [hget_append]
    cases hg : get? out.eff id with
    | some B => rfl
    | none =>
      rw [hg] at ha
      exact ((hV.sub id).resolve_left ha).symm
  have hmu : ∀ id, hget (out.eff ++ view) id ≠ .dead → (C'.show C view (out.eff ++ view)).μ id = C'.μ id := by
    intro id ha
    simp only [Cc.show, isDead_false.2 ha]
  have hmu' : ∀ id, hget (out.eff ++ view) id = .dead → (C'.show C view (out.eff ++ view)).μ id = C.μ id := by
    intro id ha
    simp only [Cc.show, isDead_iff.2 ha]
  have ho_hid : ∀ b id, C.o b = some id → hget view id = .dead → (C'.show C view (out.eff ++ view)).o b = some id := by
    intro b id hb hd
    simp only [Cc.show, hb, isDead_iff.2 hd]
  have ho_vis : ∀ b id, C.o b = some id → hget view id ≠ .dead → (C'.show C view (out.eff ++ view)).o b = C'.o b := by
    intro b id hb hd
    simp only [Cc.show, hb, isDead_false.2 hd]
  have ho_none : ∀ b, C.o b = none → (C'.show C view (out.eff ++ view)).o b = C'.o b := by
    intro b hb
    simp only [Cc.show, hb]
  have hc_o : ∀ b id, C'.o b = some id → (C'.show C view (out.eff ++ view)).o b = some id := by
    intro b id hb
    cases e : C.o b with
    | none => rw [ho_none b e]; exact hb
    | some j =>
      cases hd : isDead view j with
      | true =>
        have h1 : (C.hide view).o b = none := by simp only [Cc.hide, e, hd]
        have h2 := (hkeep b (hf.own b j e).1 h1).1
        rw [hb] at h2; cases h2
      | false => rw [ho_vis b j e (isDead_false.1 hd)]; exact hb
  -- a visible name
  have vis_row : ∀ id, hget view id ≠ .dead → ∀ v' t xs' inner', hget (out.eff ++ hpF) id = .row v' t xs' inner' → (C'.show C view (out.eff ++ view)).μ id = C.μ id ∧ ∃ v xs inner, hget hpF id = .row v t xs inner ∧ xs'.length = xs.length ∧ v ≤ v' ∧
      (v = v' → hget (out.eff ++ hpF) id = hget hpF id ∧ ∀ b, C.o b = some id → (C'.show C view (out.eff ++ view)).o b = some id ∧ C'.w.heap[b]? = C.w.heap[b]?) := by
    intro id ha v' t xs' inner' e
    have h1 := (hV.sub id).resolve_left ha
    have e2 : hget (out.eff ++ view) id = .row v' t xs' inner' := by
      rw [hget_append] at e ⊢
      cases hg : get? out.eff id with
      | some B => rw [hg] at e; exact e
      | none => rw [hg] at e; simp only at e ⊢; rw [h1]; exact e
    obtain ⟨g1, v, xs, inner, g2, g3, g4, g5⟩ := hevo.row id (hV.lt id ha) _ _ _ _ e2
    refine ⟨(hmu id (by rw [e2]; simp)).trans g1, v, xs, inner, by rw [← h1]; exact g2, g3, g4, fun hv => ?_⟩
    obtain ⟨g6, g7⟩ := g5 hv
    refine ⟨by rw [e, ← e2, g6, h1], fun b hb => ?_⟩
    obtain ⟨g8, g9⟩ := g7 b (hide_some.2 ⟨hb, ha⟩)
    exact ⟨hc_o b id g8, g9⟩
  have hev : EvoP X X C (C'.show C view (out.eff ++ view)) hpF (out.eff ++ hpF) (fun id => id < N ∧ ¬ (nx ≤ id ∧ id < out.nx)) N := by
    refine ⟨fun id h => h.1, ?_, ?_, ?_, ?_⟩
    · intro id hP v' t xs' inner' e
      by_cases ha : hget view id = .dead
      · cases hg : get? out.eff id with
        | some B =>
          rcases heff id (mem_keysOf hg) with h | h
          · exact absurd h hP.2
          · exact absurd ha h
        | none =>
          have e1 : hget (out.eff ++ hpF) id = hget hpF id := by rw [hget_append, hg]
          have e2 : hget (out.eff ++ view) id = .dead := by rw [hget_append, hg]; exact ha
          refine ⟨hmu' id e2, v', xs', inner', by rw [← e1]; exact e, rfl, Nat.le_refl _, fun _ => ⟨e1, fun b hb => ⟨ho_hid b id hb ha, ?_⟩⟩⟩
          exact (hkeep b (hf.own b id hb).1 (by simp only [Cc.hide, hb, isDead_iff.2 ha])).2
      · exact vis_row id ha _ _ _ _ e
    · intro id hP l' e
      by_cases ha : hget view id = .dead
      · cases hg : get? out.eff id with
        | some B =>
          rcases heff id (mem_keysOf hg) with h | h
          · exact absurd h hP.2
          · exact absurd ha h
        | none =>
          have e1 : hget (out.eff ++ hpF) id = hget hpF id := by rw [hget_append, hg]
          have e2 : hget (out.eff ++ view) id = .dead := by rw [hget_append, hg]; exact ha
          exact ⟨hmu' id e2, l', by rw [← e1]; exact e⟩
      · have h1 := (hV.sub id).resolve_left ha
        have e2 : hget (out.eff ++ view) id = .cells l' := by
          rw [hget_append] at e ⊢
          cases hg : get? out.eff id with
          | some B => rw [hg] at e; exact e
          | none => rw [hg] at e; simp only at e ⊢; rw [h1]; exact e
        obtain ⟨g1, l, g2⟩ := hevo.cells id (hV.lt id ha) _ e2
        exact ⟨(hmu id (by rw [e2]; simp)).trans g1, l, by rw [← h1]; exact g2⟩
    · intro b o hb ho
      obtain ⟨g1, g2⟩ := hkeep b (heap_lt ho) (hide_none hb.1)
      exact ⟨⟨by rw [ho_none b hb.1]; exact g1, hb.2⟩, by show C'.w.heap[b]? = _; rw [g2]; exact ho⟩
    · intro id hP he v t xs inner e l hl
      have hm : l.1 ∈ (hget hpF id).ids := by rw [e]; simp only [Blk.ids]; exact lbIds_mem hl
      exact ⟨blk_ids_lt hh id _ hm, hclean id _ hm⟩
  have hev2 : EvoP (X.inner C view hj) X C' (C'.show C view (out.eff ++ view)) (out.eff ++ view) (out.eff ++ hpF) (fun id => P id ∨ (nx ≤ id ∧ id < out.nx)) N := by
    have hpo : ∀ id, (P id ∨ (nx ≤ id ∧ id < out.nx)) → hget (out.eff ++ hpF) id ≠ .dead → hget (out.eff ++ hpF) id = hget (out.eff ++ view) id := by
      intro id ha hd
      rw [hget_append] at hd ⊢
      rw [hget_append]
      cases hg : get? out.eff id with
      | some B => rfl
      | none =>
        rw [hg] at hd
        simp only at hd ⊢
        rcases ha with h | h
        · exact (hV.eq id h).symm
        · exact absurd (hfresh id h.1 h.2) hd
    refine ⟨fun id h => ?_, ?_, ?_, ?_, ?_⟩
    · rcases h with h | h
      · exact Nat.lt_of_lt_of_le (hV.plt id h) (Nat.le_trans hevo.le hN)
      · exact Nat.lt_of_lt_of_le h.2 hN
    · intro id ha v' t xs' inner' e
      have e1 := hpo id ha (by rw [e]; simp)
      exact ⟨hmu id (by rw [← e1, e]; simp), v', xs', inner', by rw [← e1]; exact e, rfl, Nat.le_refl _, fun _ => ⟨e1, fun b hb => ⟨hc_o b id hb, rfl⟩⟩⟩
    · intro id ha l' e
      have e1 := hpo id ha (by rw [e]; simp)
      exact ⟨hmu id (by rw [← e1, e]; simp), l', by rw [← e1]; exact e⟩
    · intro b o hb ho
      refine ⟨?_, ho⟩
      rcases hb.2 with h | h | h
      · have h' : X.sh C.o b := h
        exact ⟨by rw [ho_none b h'.1]; exact hb.1, h'.2⟩
      · have h' : C.w.heap.size ≤ b := h
        have hn : C.o b = none := by
          cases e : C.o b with
          | none => rfl
          | some j => have := (hf.own b j e).1; omega
        exact ⟨by rw [ho_none b hn]; exact hb.1, .inr (.inl (Nat.le_trans hf.size h'))⟩
      · have h' : (C.hide view).o b ≠ none := h
        cases e : (C.hide view).o b with
        | none => exact absurd e h'
        | some j =>
          obtain ⟨g1, g2⟩ := hide_some.1 e
          refine ⟨by rw [ho_vis b j g1 g2]; exact hb.1, ?_⟩
          rcases (hf.own b j g1).2 with h | h
          · exact .inr (.inl h)
          · exact .inr (.inr h)
    · intro id ha he v t xs inner e l hl
      rw [hget_append] at e
      cases hg : get? out.eff id with
      | some B =>
        rw [hg] at e
        simp only at e
        subst e
        exact hal _ (List.mem_append.2 (.inr (hpIds_mem hg _ (by simp only [Blk.ids]; exact lbIds_mem hl))))
      | none =>
        rw [hg] at e
        simp only at e
        exact .inl (hV.own id _ (by rw [e]; simp only [Blk.ids]; exact lbIds_mem hl))
  refine ⟨hev, ?_, RepA.move hev2 fin.hp (fun i hi => hal i (List.mem_append.2 (.inl hi))) fin.val, ?_⟩
  · intro id
    by_cases ha : hget (out.eff ++ view) id = .dead
    · cases hg : get? out.eff id with
      | some B =>
        have e1 : hget (out.eff ++ hpF) id = hget (out.eff ++ view) id := by rw [hget_append, hget_append, hg]
        rw [e1, ha]; trivial
      | none =>
        have e1 : hget (out.eff ++ hpF) id = hget hpF id := by rw [hget_append, hg]
        have hv : hget view id = .dead := by rw [hget_append, hg] at ha; exact ha
        by_cases hd : hget hpF id = .dead
        · rw [e1, hd]; trivial
        · refine blkOk.move hev hh ⟨hp_lt hh hd, fun h => hd (hfresh id h.1 h.2)⟩ (fun i hi => ⟨blk_ids_lt hh id i hi, hclean id i hi⟩) e1 (fun b hb => ⟨ho_hid b id hb hv, ?_⟩)
          exact (hkeep b (hf.own b id hb).1 (by simp only [Cc.hide, hb, isDead_iff.2 hv])).2
    · have e1 := hsame id ha
      -- the block is shown: its facts are the operation's
      have hin : P id ∨ (nx ≤ id ∧ id < out.nx) ∨ True := .inr (.inr trivial)
      rw [e1]
      have hk := fin.hp id
      have hids : ∀ i ∈ (hget (out.eff ++ view) id).ids, P i ∨ (nx ≤ i ∧ i < out.nx) := by
        intro i hi
        rw [hget_append] at hi
        cases hg : get? out.eff id with
        | some B => rw [hg] at hi; exact hal i (List.mem_append.2 (.inr (hpIds_mem hg i hi)))
        | none => rw [hg] at hi; exact .inl (hV.own id i hi)
      have hlt : id < N := Nat.lt_of_lt_of_le (hp_lt fin.hp ha) hN
      cases hB : hget (out.eff ++ view) id with
      | dead => trivial
      | cells l =>
        rw [hB] at hk hids
        obtain ⟨h1, b, arr, e, hm, ho, hw', hr⟩ := hk
        exact ⟨hlt, b, arr, e, (hmu id ha).trans hm, hc_o b id ho, hw', hr.move hev2 fin.hp (by simpa only [Blk.ids] using hids)⟩
      | row v t xs inner =>
        rw [hB] at hk hids
        obtain ⟨h1, ho, ⟨A, cap, hs⟩, hl⟩ := hk
        have hPi : ∀ l ∈ innerL inner, P l.1 ∨ (nx ≤ l.1 ∧ l.1 < out.nx) := fun l hl => hids _ (by simp only [Blk.ids]; exact lbIds_mem hl)
        refine ⟨hlt, fun hin' => ?_, ⟨A, cap, (hmu id ha).trans hs⟩, fun l hl' => hev2.okL (hPi l hl') (hl l hl')⟩
        rw [hmu id ha]
        have h0 := ho (hev2.lvs hPi hl hin')
        have hso : Stays C'.w (C'.show C view (out.eff ++ view)).w (ownS C'.o id) (ownS (C'.show C view (out.eff ++ view)).o id) := fun b hb o ho => ⟨ho, hc_o b id hb⟩
        cases inner with
        | none => exact OwnD.mono (t := .row t) hso h0
        | some ls =>
          refine RowR.mono hso (fun _ _ _ _ he => he.mono ?_) h0
          intro k hk o hob
          rcases hk.1 with h1 | h1
          · obtain ⟨h2, h3⟩ := hev2.stays hPi hl hin' k h1 o hob
            exact ⟨h2, .inl h3, hk.2⟩
          · obtain ⟨h2, h3⟩ := hso k h1 o hob
            exact ⟨h2, .inr h3, hk.2⟩
  · refine ⟨hf'.os.trans hf.os, hf'.tape.trans hf.tape, hf'.output.trans hf.output, Nat.le_trans hf.size hw, fun b hb ho => ?_, fun b id hb => ?_⟩
    · have hn : C.o b = none := by
        cases e : C.o b with
        | none => rfl
        | some j =>
          rcases (hf.own b j e).2 with h | h
          · omega
          · exact absurd ho h
      exact (hkeep b (Nat.lt_of_lt_of_le hb hf.size) (hide_none hn)).2.trans (hf.block b hb ho)
    · have old : ∀ j, C.o b = some j → b < C'.w.heap.size ∧ (X.w0.heap.size ≤ b ∨ X.o0 b ≠ none) := fun j hj => ⟨Nat.lt_of_lt_of_le (hf.own b j hj).1 hw, (hf.own b j hj).2⟩
      cases e : C.o b with
      | some j => exact old j e
      | none =>
        rw [ho_none b e] at hb
        have h1 := hf'.own b id hb
        refine ⟨h1.1, ?_⟩
        rcases h1.2 with h | h
        · exact .inl (Nat.le_trans hf.size h)
        · exact absurd (hide_none e) h
end Go.Vm
namespace Go.Vm
open Go Go.RowKit
set_option linter.unusedVariables false
set_option linter.unusedSimpArgs false
variable {E : Env}
/-- The same value, and nothing else. -/
def Un (orc : Orc E) (nx nx' : Nat) (t t' : Tr E Out) : Prop := ∀ out, t.run orc some = some out → out.eff = [] ∧ out.nx = nx ∧ t'.run orc some = some ⟨out.v, [], nx'⟩
section
variable {orc : Orc E} {s s' : St}
theorem Un.ret (v : AV) : Un orc s.nx s'.nx (Vm.ret v s) (Vm.ret v s') := by
  intro out h
  cases h
  exact ⟨rfl, rfl, rfl⟩
theorem Un.fail {nx nx' : Nat} : Un orc nx nx' .fail .fail := fun out h => by cases h
theorem Un.test {nx nx' : Nat} {p : Prop} {d : Decidable p} {t t' : Tr E Out} (h : Un orc nx nx' t t') : Un orc nx nx' (.test p d t) (.test p d t') := by
  intro out hr
  simp only [Tr.run] at hr ⊢
  by_cases hp : p
  · rw [if_pos hp] at hr; rw [if_pos hp]; exact h out hr
  · rw [if_neg hp] at hr; cases hr
theorem Un.ite {nx nx' : Nat} {p : Prop} {d : Decidable p} {t t' u u' : Tr E Out} (h : Un orc nx nx' t t') (k : Un orc nx nx' u u') : Un orc nx nx' (.ite p d t u) (.ite p d t' u') := by
  intro out hr
  simp only [Tr.run] at hr ⊢
  by_cases hp : p
  · rw [if_pos hp] at hr; rw [if_pos hp]; exact h out hr
  · rw [if_neg hp] at hr; rw [if_neg hp]; exact k out hr
theorem un_binInt (op : BinOp) (k : IntKind) (x y : Int) : Un orc s.nx s'.nx (binInt op k x y s) (binInt op k x y s') := by
  cases op <;> simp only [binInt] <;> first | exact Un.ret _ | exact Un.test (Un.ret _) | exact Un.fail
theorem un_shiftInt (op : BinOp) (k : IntKind) (x y : Int) : Un orc s.nx s'.nx (shiftInt op k x y s) (shiftInt op k x y s') := by
  cases op <;> simp only [shiftInt] <;> first | exact Un.test (Un.test (Un.ret _)) | exact Un.fail
theorem un_binOp (op : BinOp) (t : TypeId) (a b : AV) : Un orc s.nx s'.nx (binOpV op t s a b : Tr E Out) (binOpV op t s' a b) := by
  unfold binOpV
  split
  · split
    · exact un_shiftInt _ _ _ _
    · split
      · exact un_binInt _ _ _ _
      · exact Un.fail
  · split <;> first | exact Un.test (Un.ret _) | exact Un.ret _ | exact Un.fail
  · split
    · split
      · split
        · split <;> first | exact Un.ret _ | exact Un.fail
        · exact Un.fail
      · exact Un.fail
    · exact Un.fail
  · split
    · split <;> first | exact Un.ret _ | exact Un.fail
    · exact Un.fail
theorem un_unOp (op : UnOp) (v : AV) : Un orc s.nx s'.nx (unOpV op s v : Tr E Out) (unOpV op s' v) := by
  unfold unOpV
  split
  · exact Un.ret _
  · split
    · exact Un.ret _
    · exact Un.fail
  · exact Un.fail
theorem un_op {o : Oper} (hf : hpFree o.op = true) (ht : s.tm = s'.tm) : Un orc s.nx s'.nx (evalOp o s : Tr E Out) (evalOp o s') := by
  obtain ⟨dst, op, ty, pos, after, guard⟩ := o
  cases op <;> simp only [hpFree, Bool.false_eq_true] at hf <;> unfold evalOp <;> simp only
  case move x => rw [← ht]; exact Un.ret _
  case assign x => rw [← ht]; exact Un.ret _
  case pick c a b =>
    rw [← ht]
    split
    · exact Un.ret _
    · exact Un.ret _
    · exact Un.ite (Un.ret _) (Un.ret _)
    · exact Un.ite (Un.ret _) (Un.ret _)
    · exact Un.fail
  case build t ps =>
    rw [← ht]
    split
    · split
      · exact Un.ret _
      · exact Un.fail
    · split
      · split
        · split
          · exact Un.ret _
          · exact Un.fail
        · exact Un.fail
      · exact Un.fail
    · exact Un.fail
  case binOp op t x y yt => rw [← ht]; exact un_binOp _ _ _ _
  case unOp op t x => rw [← ht]; exact un_unOp _ _
  case makeFunc fn first caps =>
    cases fn <;> simp only <;> first | exact Un.fail | skip
    rw [← ht]
    split
    · exact Un.ret _
    · exact Un.fail
  case extract x i =>
    rw [← ht]
    split
    · split
      · exact Un.ret _
      · exact Un.fail
    · exact Un.fail
end
end Go.Vm
namespace Go.Vm
open Go Go.RowKit
set_option linter.unusedVariables false
set_option linter.unusedSimpArgs false
variable {E : Env} {orc : Orc E}
/-- What the one says of a value, the other says too. -/
def Wk (a b : AV) : Prop := ∀ X C hp nx u, RepA X C hp nx a u → RepA X C hp nx b u
theorem Wk.refl (a : AV) : Wk a a := fun _ _ _ _ _ h => h
theorem Wk.trans {a b c : AV} (h : Wk a b) (k : Wk b c) : Wk a c := fun _ _ _ _ _ r => k _ _ _ _ _ (h _ _ _ _ _ r)
/-- A value is this bool, wherever it stands. -/
def Says (v : AV) (φ : Value → Prop) : Prop := ∀ X C hp nx u, RepA X C hp nx v u → φ u
inductive Did (orc : Orc E) (ops : Array Oper) (base : St) (acc : List Ent) (nx : Nat) (o : Oper) (e : Ent) : Prop where
  | skip (j t : Nat) (want : Bool) (hv : Wk (.tup []) e.v) (hi : e.v.ids = []) (he : e.eff = []) (hw : e.view = []) (hh : e.hi = nx) (hg : o.guard = some (j, want)) (hb : Nat.testBit e.deps j = true) (hd : dstOf ops j = some t)
      (hs : Says (tget (envTm e.deps acc base.tm) t) fun u => u = .bool (!want) ∨ u = .tuple #[])
  | done (tm : Tm) (v0 : AV) (ht : ∀ t, Wk (tget (envTm e.deps acc base.tm) t) (tget tm t)) (hrd : ∀ t, t ∉ e.rd → tget tm t = .junk) (hr : (evalOp o ⟨tm, e.view, nx⟩ : Tr E Out).run orc some = some ⟨v0, e.eff, e.hi⟩) (hv : Wk v0 e.v)
      (hi : ∀ i ∈ e.v.ids, i ∈ v0.ids) (hw : ∀ id, hget e.view id = .dead ∨ hget e.view id = hget (envHp e.deps acc base.hp) id) (hok : entOk e.deps nx base.nx acc (envHp e.deps acc base.hp) e.view (hpFree o.op) ⟨v0, e.eff, e.hi⟩ = true)
      (hg : o.guard = none ∨ ∃ j t want, o.guard = some (j, want) ∧ Nat.testBit e.deps j = true ∧ dstOf ops j = some t ∧ Says (tget (envTm e.deps acc base.tm) t) fun u => u = .bool want)
inductive Trc (orc : Orc E) (ops : Array Oper) (ntm : Nat) (base : St) : List Ent → Nat → Prop where
  | nil : Trc orc ops ntm base [] base.nx
  | cons {acc : List Ent} {nx : Nat} {o : Oper} {e : Ent} (h : Trc orc ops ntm base acc nx) (hi : e.idx = acc.length) (ho : ops[acc.length]? = some o) (hd : e.deps = depsOf acc o.after.toList)
      (hb : backE acc.length o.after.toList = true) (hdst : e.dst = o.dst) (hok : dstOk ntm o.dst = true) (hnew : newDst o.dst acc = true) (hun : unread e.deps o.dst acc = true) (hlo : e.lo = nx) (did : Did orc ops base acc nx o e) : Trc orc ops ntm base (e :: acc) e.hi
/-! ### a bool that is known -/
def setE (t : Tmp) (v : AV) (e : Ent) : Ent := match e.dst with
  | some d => match Nat.beq d t with
    | true => { e with v := v }
    | false => e
  | none => e
theorem setEnt_cons (t : Tmp) (v : AV) (e : Ent) (l : List Ent) : setEnt t v (e :: l) = setE t v e :: setEnt t v l := rfl
section
variable {t : Tmp} {v : AV} {e : Ent}
theorem setE_idx : (setE t v e).idx = e.idx := by unfold setE; split <;> (try split) <;> rfl
theorem setE_deps : (setE t v e).deps = e.deps := by unfold setE; split <;> (try split) <;> rfl
theorem setE_rd : (setE t v e).rd = e.rd := by unfold setE; split <;> (try split) <;> rfl
theorem setE_dst : (setE t v e).dst = e.dst := by unfold setE; split <;> (try split) <;> rfl
theorem setE_eff : (setE t v e).eff = e.eff := by unfold setE; split <;> (try split) <;> rfl
theorem setE_view : (setE t v e).view = e.view := by unfold setE; split <;> (try split) <;> rfl
theorem setE_lo : (setE t v e).lo = e.lo := by unfold setE; split <;> (try split) <;> rfl
theorem setE_hi : (setE t v e).hi = e.hi := by unfold setE; split <;> (try split) <;> rfl
theorem setE_v : (setE t v e).v = e.v ∨ (e.dst = some t ∧ (setE t v e).v = v) := by
  unfold setE
  split
  · rename_i d hd
    split
    · rename_i h
      exact .inr ⟨by rw [hd, Nat.eq_of_beq_eq_true h], rfl⟩
    · exact .inl rfl
  · exact .inl rfl
end
theorem set_length (t : Tmp) (v : AV) : ∀ acc : List Ent, (setEnt t v acc).length = acc.length
  | [] => rfl
  | e :: l => by rw [setEnt_cons]; simp [set_length t v l]
theorem set_entDeps (t : Tmp) (v : AV) (k : Nat) : ∀ acc : List Ent, entDeps (setEnt t v acc) k = entDeps acc k
  | [] => rfl
  | e :: l => by rw [setEnt_cons]; simp only [entDeps, setE_idx, setE_deps, set_entDeps t v k l]
theorem set_depsOf (t : Tmp) (v : AV) (acc : List Ent) : ∀ l : List Edge, depsOf (setEnt t v acc) l = depsOf acc l
  | [] => rfl
  | e :: l => by simp only [depsOf, set_entDeps, set_depsOf t v acc l]
theorem set_envHp (t : Tmp) (v : AV) (D : Nat) (b : Hp) : ∀ acc : List Ent, envHp D (setEnt t v acc) b = envHp D acc b
  | [] => rfl
  | e :: l => by rw [setEnt_cons]; simp only [envHp, setE_idx, setE_eff, set_envHp t v D b l]
theorem set_madeBy (t : Tmp) (v : AV) (D n i : Nat) : ∀ acc : List Ent, madeBy D n (setEnt t v acc) i = madeBy D n acc i
  | [] => rfl
  | e :: l => by rw [setEnt_cons]; simp only [madeBy, setE_idx, setE_lo, setE_hi, set_madeBy t v D n i l]
theorem set_hiddenBy (t : Tmp) (v : AV) (D i : Nat) : ∀ acc : List Ent, hiddenBy D (setEnt t v acc) i = hiddenBy D acc i
  | [] => rfl
  | e :: l => by rw [setEnt_cons]; simp only [hiddenBy, setE_idx, setE_eff, set_hiddenBy t v D i l]
theorem set_unseen (t : Tmp) (v : AV) (D nx : Nat) (ks : List Nat) : ∀ acc : List Ent, unseen D nx ks (setEnt t v acc) = unseen D nx ks acc
  | [] => rfl
  | e :: l => by rw [setEnt_cons]; simp only [unseen, setE_idx, setE_view, set_unseen t v D nx ks l]
theorem set_newDst (t : Tmp) (v : AV) (d : Option Tmp) : ∀ acc : List Ent, newDst d (setEnt t v acc) = newDst d acc
  | [] => rfl
  | e :: l => by rw [setEnt_cons]; simp only [newDst, setE_dst, set_newDst t v d l]
theorem set_unread (t : Tmp) (v : AV) (D : Nat) (d : Option Tmp) : ∀ acc : List Ent, unread D d (setEnt t v acc) = unread D d acc
  | [] => rfl
  | e :: l => by rw [setEnt_cons]; simp only [unread, setE_idx, setE_rd, set_unread t v D d l]
theorem set_entOk (t : Tmp) (v : AV) (D nx nx0 : Nat) (acc : List Ent) (env view : Hp) (free : Bool) (out : Out) : entOk D nx nx0 (setEnt t v acc) env view free out = entOk D nx nx0 acc env view free out := by
  simp only [entOk, set_unseen, qOk, pOk, set_madeBy, set_hiddenBy]
/-- The entries that write t have this meaning. -/
def Meant (t : Tmp) (v : AV) (acc : List Ent) : Prop := ∀ e ∈ acc, e.dst = some t → Wk e.v v ∧ Wk v e.v
theorem set_envTm {t : Tmp} {v : AV} {D : Nat} {b : Tm} : ∀ {acc : List Ent}, Meant t v acc → ∀ u, Wk (tget (envTm D acc b) u) (tget (envTm D (setEnt t v acc) b) u) ∧ Wk (tget (envTm D (setEnt t v acc) b) u) (tget (envTm D acc b) u)
  | [], _, u => ⟨Wk.refl _, Wk.refl _⟩
  | e :: l, hm, u => by
    have ih := set_envTm (D := D) (b := b) (acc := l) (fun e' he => hm e' (by simp [he])) u
    rw [setEnt_cons]
    simp only [envTm, setE_idx, setE_dst]
    cases hd : e.dst with
    | none => exact ih
    | some d =>
      simp only
      cases Nat.testBit D e.idx with
      | true =>
        simp only
        rw [tget_cons, tget_cons]
        split
        · rcases setE_v (t := t) (v := v) (e := e) with h | ⟨h1, h2⟩
          · rw [h]; exact ⟨Wk.refl _, Wk.refl _⟩
          · rw [h2]; exact hm e (by simp) h1
        · exact ih
      | false =>
        simp only
        rw [tget_cons, tget_cons]
        split
        · exact ⟨Wk.refl _, Wk.refl _⟩
        · exact ih
theorem Trc.set {ops : Array Oper} {ntm : Nat} {base : St} {t : Tmp} {v : AV} (hv : v.ids = []) : ∀ {acc : List Ent} {nx : Nat}, Trc orc ops ntm base acc nx → Meant t v acc → Trc orc ops ntm base (setEnt t v acc) nx := by
  intro acc nx h
  induction h with
  | nil => intro _; exact .nil
  | cons h hi ho hd hb hdst hok hnew hun hlo did ih =>
    rename_i acc nx o e
    intro hm
    have hm' : Meant t v acc := fun e' he => hm e' (by simp [he])
    have h' := ih hm'
    rw [setEnt_cons, ← setE_hi (t := t) (v := v) (e := e)]
    have hvk : Wk e.v (setE t v e).v ∧ (∀ i ∈ (setE t v e).v.ids, i ∈ e.v.ids) := by
      rcases setE_v (t := t) (v := v) (e := e) with h | ⟨h1, h2⟩
      · rw [h]; exact ⟨Wk.refl _, fun i hi => hi⟩
      · rw [h2]; exact ⟨(hm e (by simp) h1).1, by rw [hv]; simp⟩
    refine .cons (o := o) h' (by rw [setE_idx, hi, set_length]) (by rw [set_length]; exact ho) (by rw [setE_deps, hd, set_depsOf]) (by rw [set_length]; exact hb) (by rw [setE_dst, hdst]) hok (by rw [set_newDst]; exact hnew) (by rw [setE_deps, set_unread]; exact hun) (by rw [setE_lo, hlo]) ?_
    cases did with
    | skip j t' want hv' hi' he hw hh hg hbt hd' hs =>
      refine .skip j t' want (hv'.trans hvk.1) ?_ (by rw [setE_eff, he]) (by rw [setE_view, hw]) (by rw [setE_hi, hh]) hg (by rw [setE_deps]; exact hbt) hd' ?_
      · rw [List.eq_nil_iff_forall_not_mem]
        intro i hi2
        have := hvk.2 i hi2
        rw [hi'] at this
        simp at this
      · rw [setE_deps]
        intro X C hp nx u hu
        exact hs X C hp nx u ((set_envTm hm' t').2 _ _ _ _ _ hu)
    | done tm v0 ht hrd hr hv0 hi0 hw hok' hg =>
      refine .done tm v0 ?_ (by rw [setE_rd]; exact hrd) (by rw [setE_view, setE_eff, setE_hi]; exact hr) (hv0.trans hvk.1) (fun i hi2 => hi0 i (hvk.2 i hi2)) ?_ ?_ ?_
      · rw [setE_deps]
        exact fun u => ((set_envTm hm' u).2).trans (ht u)
      · rw [setE_view, setE_deps, set_envHp]; exact hw
      · rw [setE_deps, setE_view, setE_eff, setE_hi, set_entOk, set_envHp]; exact hok'
      · rcases hg with hg | ⟨j, t', want, h1, h0, h2, h3⟩
        · exact .inl hg
        · refine .inr ⟨j, t', want, h1, by rw [setE_deps]; exact h0, h2, ?_⟩
          rw [setE_deps]
          intro X C hp nx u hu
          exact h3 X C hp nx u ((set_envTm hm' t').2 _ _ _ _ _ hu)
/-! ### which operations hang on which -/
section
variable {ops : Array Oper} {ntm : Nat} {base : St}
theorem entDeps_mem {k j : Nat} : ∀ {acc : List Ent}, Nat.testBit (entDeps acc k) j = true → ∃ e ∈ acc, e.idx = k ∧ Nat.testBit e.deps j = true
  | [], h => by simp [entDeps] at h
  | e :: l, h => by
    simp only [entDeps] at h
    split at h
    · rename_i hb
      exact ⟨e, by simp, Nat.eq_of_beq_eq_true hb, h⟩
    · obtain ⟨e', h1, h2⟩ := entDeps_mem h
      exact ⟨e', by simp [h1], h2⟩
theorem depsOf_mem {acc : List Ent} {j : Nat} : ∀ {l : List Edge}, Nat.testBit (depsOf acc l) j = true → ∃ x ∈ l, Region.binds .any x = true ∧ (j = x.on ∨ ∃ e ∈ acc, e.idx = x.on ∧ Nat.testBit e.deps j = true)
  | [], h => by simp [depsOf] at h
  | x :: l, h => by
    simp only [depsOf] at h
    split at h
    · rename_i hb
      simp only [Nat.testBit_or, Bool.or_eq_true] at h
      rcases h with (h | h) | h
      · rw [Nat.testBit_two_pow] at h
        have : x.on = j := by simpa using h
        exact ⟨x, by simp, hb, .inl this.symm⟩
      · exact ⟨x, by simp, hb, .inr (entDeps_mem h)⟩
      · obtain ⟨y, h1, h2⟩ := depsOf_mem h
        exact ⟨y, by simp [h1], h2⟩
    · obtain ⟨y, h1, h2⟩ := depsOf_mem h
      exact ⟨y, by simp [h1], h2⟩
theorem backE_mem {k : Nat} : ∀ {l : List Edge}, backE k l = true → ∀ x ∈ l, Region.binds .any x = true → x.on < k
  | [], _, x, hx, _ => by simp at hx
  | y :: l, h, x, hx, hb => by
    simp only [backE, Bool.and_eq_true, Bool.or_eq_true, Bool.not_eq_true'] at h
    cases hx with
    | head =>
      rcases h.1 with h1 | h1
      · rw [hb] at h1; cases h1
      · exact Nat.le_of_ble_eq_true h1
    | tail _ hx => exact backE_mem h.2 x hx hb
theorem Trc.deps_lt : ∀ {acc : List Ent} {nx : Nat}, Trc orc ops ntm base acc nx → ∀ e ∈ acc, e.idx < acc.length ∧ ∀ j, Nat.testBit e.deps j = true → j < e.idx := by
  intro acc nx h
  induction h with
  | nil => exact fun e he => by simp at he
  | cons h hi ho hd hb hdst hok hnew hun hlo did ih =>
    rename_i acc nx o e
    intro e' he'
    cases he' with
    | head =>
      refine ⟨by simp [hi], fun j hj => ?_⟩
      rw [hd] at hj
      rw [hi]
      obtain ⟨x, h1, h2, h3⟩ := depsOf_mem hj
      have hx := backE_mem hb x h1 h2
      rcases h3 with rfl | ⟨e'', h4, h5, h6⟩
      · exact hx
      · have := (ih e'' h4).2 j h6
        omega
    | tail _ he' =>
      obtain ⟨h1, h2⟩ := ih e' he'
      exact ⟨by simp only [List.length_cons]; omega, h2⟩
theorem Trc.entry : ∀ {acc : List Ent} {nx : Nat}, Trc orc ops ntm base acc nx → ∀ i, i < acc.length → ∃ l1 e l2, acc = l1 ++ e :: l2 ∧ e.idx = i := by
  intro acc nx h
  induction h with
  | nil => intro i hi; simp at hi
  | cons h hi ho hd hb hdst hok hnew hun hlo did ih =>
    rename_i acc nx o e
    intro i hlt
    by_cases hie : i = acc.length
    · exact ⟨[], e, acc, rfl, by rw [hi, hie]⟩
    · simp only [List.length_cons] at hlt
      obtain ⟨l1, e', l2, h1, h2⟩ := ih i (by omega)
      exact ⟨e :: l1, e', l2, by rw [h1]; rfl, h2⟩
end
end Go.Vm
namespace Go.Vm
open Go Go.RowKit
set_option linter.unusedVariables false
set_option linter.unusedSimpArgs false
variable {E : Env} {orc : Orc E} {R : Type} {r : R}
theorem newDst_mem {d : Nat} : ∀ {acc : List Ent}, newDst (some d) acc = true → ∀ e ∈ acc, e.dst ≠ some d
  | [], _, e, he => by simp at he
  | a :: l, h, e, he => by
    simp only [newDst, Bool.and_eq_true] at h
    cases he with
    | head =>
      intro hd
      rw [hd] at h
      simp at h
    | tail _ he => exact newDst_mem h.2 e he
theorem Trc.uniq {ops : Array Oper} {ntm : Nat} {base : St} {t : Nat} : ∀ {acc : List Ent} {nx : Nat}, Trc orc ops ntm base acc nx → ∀ m ∈ acc, ∀ e ∈ acc, m.dst = some t → e.dst = some t → m = e := by
  intro acc nx h
  induction h with
  | nil => intro m hm; simp at hm
  | cons h hi ho hd hb hdst hok hnew hun hlo did ih =>
    rename_i acc nx o e
    intro m hm e' he' h1 h2
    have hno : e.dst = some t → ∀ e' ∈ acc, e'.dst ≠ some t := fun hh => newDst_mem (by rw [← hdst, hh] at hnew; exact hnew)
    cases hm with
    | head =>
      cases he' with
      | head => rfl
      | tail _ he' => exact absurd h2 (hno h1 e' he')
    | tail _ hm =>
      cases he' with
      | head => exact absurd h1 (hno h2 m hm)
      | tail _ he' => exact ih m hm e' he' h1 h2
theorem Trc.env_at {ops : Array Oper} {ntm : Nat} {base : St} {t D : Nat} {b : Tm} : ∀ {acc : List Ent} {nx : Nat}, Trc orc ops ntm base acc nx → ∀ m ∈ acc, m.dst = some t → Nat.testBit D m.idx = true → tget (envTm D acc b) t = m.v := by
  intro acc nx h
  induction h with
  | nil => intro m hm; simp at hm
  | cons h hi ho hd hb hdst hok hnew hun hlo did ih =>
    rename_i acc nx o e
    intro m hm h1 h2
    have hno : e.dst = some t → ∀ e' ∈ acc, e'.dst ≠ some t := fun hh => newDst_mem (by rw [← hdst, hh] at hnew; exact hnew)
    simp only [envTm]
    cases hm with
    | head =>
      rw [h1]
      simp only [h2]
      rw [tget_cons, if_pos rfl]
    | tail _ hm =>
      have ih := ih m hm h1 h2
      cases hd' : e.dst with
      | none => exact ih
      | some d =>
        have hne : d ≠ t := by rintro rfl; exact hno hd' m hm h1
        simp only
        cases Nat.testBit D e.idx with
        | true => simp only; rw [tget_cons, if_neg hne]; exact ih
        | false => simp only; rw [tget_cons, if_neg hne]; exact ih
theorem Trc.writer {ops : Array Oper} {ntm : Nat} {base : St} {t j : Nat} (hd : dstOf ops j = some t) : ∀ {acc : List Ent} {nx : Nat}, Trc orc ops ntm base acc nx → j < acc.length → ∃ m ∈ acc, m.idx = j ∧ m.dst = some t := by
  intro acc nx h
  induction h with
  | nil => intro hl; simp at hl
  | cons h hi ho hd' hb hdst hok hnew hun hlo did ih =>
    rename_i acc nx o e
    intro hl
    by_cases hj : j = acc.length
    · refine ⟨e, by simp, by rw [hi, hj], ?_⟩
      unfold dstOf at hd
      rw [hj, ho] at hd
      rw [hdst]; exact hd
    · simp only [List.length_cons] at hl
      obtain ⟨m, h1, h2⟩ := ih (by omega)
      exact ⟨m, by simp [h1], h2⟩
theorem meant_of {ops : Array Oper} {ntm : Nat} {base : St} {t D : Nat} {w v : AV} {acc : List Ent} {nx : Nat} (h : Trc orc ops ntm base acc nx) {m : Ent} (hm : m ∈ acc) (hmt : m.dst = some t) (hmD : Nat.testBit D m.idx = true) (hg : tget (envTm D acc base.tm) t = w) (h1 : Wk w v) (h2 : Wk v w) : Meant t v acc :=
  fun e he hd => by
    have := h.uniq m hm e he hmt hd
    subst this
    rw [h.env_at m hm hmt hmD] at hg
    rw [hg]; exact ⟨h1, h2⟩
theorem deps_below {ops : Array Oper} {ntm : Nat} {base : St} {acc : List Ent} {nx k : Nat} {l : List Edge} (h : Trc orc ops ntm base acc nx) (hb : backE k l = true) {j : Nat} (hj : Nat.testBit (depsOf acc l) j = true) : j < k := by
  obtain ⟨x, h1, h2, h3⟩ := depsOf_mem hj
  have hx := backE_mem hb x h1 h2
  rcases h3 with rfl | ⟨e'', h4, h5, h6⟩
  · exact hx
  · have := (h.deps_lt e'' h4).2 j h6
    omega
theorem tget_pick {tm : Tm} {t : Nat} : ∀ l : List Nat, (t ∈ l → tget (pickTm tm l) t = tget tm t) ∧ (t ∉ l → tget (pickTm tm l) t = .junk)
  | [] => ⟨fun h => by simp at h, fun _ => rfl⟩
  | a :: l => by
    have ih := tget_pick (tm := tm) (t := t) l
    simp only [pickTm]
    rw [tget_cons]
    by_cases h : a = t
    · subst h; simp
    · have h' : ¬ t = a := fun e => h e.symm
      rw [if_neg h]
      simp only [List.mem_cons, h', false_or]
      exact ih
theorem pick_hp {hp : Hp} {id : Nat} : ∀ l : List Nat, hget (pickHp hp l) id = .dead ∨ hget (pickHp hp l) id = hget hp id
  | [] => .inl rfl
  | a :: l => by
    simp only [pickHp]
    unfold hget
    rw [get?_cons]
    split
    · rename_i h
      split at h
      · rename_i e; subst e; cases h; exact .inr rfl
      · have := pick_hp (hp := hp) (id := id) l
        unfold hget at this
        rw [h] at this
        exact this
    · exact .inl rfl
theorem view_hp {free : Bool} {hp : Hp} {tm : Tm} {id : Nat} : hget (viewOf free hp tm) id = .dead ∨ hget (viewOf free hp tm) id = hget hp id := by
  unfold viewOf
  split
  · exact .inl rfl
  · exact pick_hp _
theorem regD_trace {ops : Array Oper} {ntm : Nat} {base : St} {κ : St → Option R} : ∀ (l : List Oper) (k : Nat) (acc : List Ent) (nx : Nat), acc.length = k → (∀ j, l[j]? = ops[k + j]?) → Trc orc ops ntm base acc nx →
    regD orc ntm ops κ base l k acc nx = some r → ∃ acc' nx', Trc orc ops ntm base acc' nx' ∧ acc'.length = ops.size ∧ κ ⟨allTm acc' base.tm, allHp acc' base.hp, nx'⟩ = some r
  | [], k, acc, nx, hk, hl, h, hr => by
    simp only [regD] at hr
    refine ⟨acc, nx, h, ?_, hr⟩
    have h0 := hl 0
    simp only [List.getElem?_nil, Nat.add_zero] at h0
    have h1 : ops.size ≤ k := by
      rcases Nat.lt_or_ge k ops.size with h | h
      · rw [Array.getElem?_eq_getElem h] at h0; cases h0
      · exact h
    have h2 : ∀ {acc : List Ent} {nx : Nat}, Trc orc ops ntm base acc nx → acc.length ≤ ops.size := by
      intro acc nx h
      cases h with
      | nil => simp
      | cons h hi ho _ _ _ _ _ _ _ _ =>
        have := (Array.getElem?_eq_some_iff.1 ho).1
        simp only [List.length_cons]
        omega
    have := h2 h
    omega
  | o :: rest, k, acc, nx, hk, hl, h, hr => by
    have hok0 : ops[k]? = some o := by have := hl 0; simpa using this.symm
    have hrest : ∀ j, rest[j]? = ops[k + 1 + j]? := fun j => by
      have := hl (j + 1)
      rw [show k + 1 + j = k + (j + 1) by omega, ← this]
      simp
    simp only [regD] at hr
    split at hr
    · cases hr
    rename_i hc
    simp only [Bool.and_eq_true] at hc
    obtain ⟨hc1, hc2, hc3, hc4⟩ := hc
    -- the operation is done
    have go : ∀ acc1 : List Ent, acc1.length = k → depsOf acc1 o.after.toList = depsOf acc o.after.toList → newDst o.dst acc1 = true → unread (depsOf acc o.after.toList) o.dst acc1 = true → Trc orc ops ntm base acc1 nx →
        (o.guard = none ∨ ∃ j t want, o.guard = some (j, want) ∧ Nat.testBit (depsOf acc o.after.toList) j = true ∧ dstOf ops j = some t ∧ Says (tget (envTm (depsOf acc o.after.toList) acc1 base.tm) t) fun u => u = .bool want) →
        ((evalOp (E := E) o ⟨pickTm (envTm (depsOf acc o.after.toList) acc1 base.tm) (readsOf o.op), viewOf (hpFree o.op) (envHp (depsOf acc o.after.toList) acc1 base.hp) (pickTm (envTm (depsOf acc o.after.toList) acc1 base.tm) (readsOf o.op)), nx⟩).run orc fun r =>
          match entOk (depsOf acc o.after.toList) nx base.nx acc1 (envHp (depsOf acc o.after.toList) acc1 base.hp) (viewOf (hpFree o.op) (envHp (depsOf acc o.after.toList) acc1 base.hp) (pickTm (envTm (depsOf acc o.after.toList) acc1 base.tm) (readsOf o.op))) (hpFree o.op) r with
          | true => regD orc ntm ops κ base rest (k + 1) (⟨k, depsOf acc o.after.toList, readsOf o.op, o.dst, r.v, r.eff, viewOf (hpFree o.op) (envHp (depsOf acc o.after.toList) acc1 base.hp) (pickTm (envTm (depsOf acc o.after.toList) acc1 base.tm) (readsOf o.op)), nx, r.nx⟩ :: acc1) r.nx
          | false => none) = some r → ∃ acc' nx', Trc orc ops ntm base acc' nx' ∧ acc'.length = ops.size ∧ κ ⟨allTm acc' base.tm, allHp acc' base.hp, nx'⟩ = some r := by
      intro acc1 h1 h2 h3 h3u h4 hg hr
      obtain ⟨out, ho1, ho2⟩ := run_some hr
      split at ho2
      · rename_i hent
        refine regD_trace rest (k + 1) _ _ (by simp [h1]) hrest ?_ ho2
        subst h1
        refine Trc.cons (o := o) h4 rfl hok0 h2.symm (by exact hc2) rfl hc1 h3 h3u rfl (.done _ out.v (fun t => ?_) (fun t ht => (tget_pick _).2 ht) ho1 (Wk.refl _) (fun i hi => hi) (fun id => view_hp) hent hg)
        by_cases ht : t ∈ readsOf o.op
        · rw [(tget_pick _).1 ht]; exact Wk.refl _
        · rw [(tget_pick _).2 ht]; intro X C hp nx u _; simp only [RepA]
      · cases ho2
    have skip : ∀ acc1 : List Ent, acc1.length = k → depsOf acc1 o.after.toList = depsOf acc o.after.toList → newDst o.dst acc1 = true → unread (depsOf acc o.after.toList) o.dst acc1 = true → Trc orc ops ntm base acc1 nx →
        (∃ j t want, o.guard = some (j, want) ∧ Nat.testBit (depsOf acc o.after.toList) j = true ∧ dstOf ops j = some t ∧ Says (tget (envTm (depsOf acc o.after.toList) acc1 base.tm) t) fun u => u = .bool (!want) ∨ u = .tuple #[]) →
        regD orc ntm ops κ base rest (k + 1) (⟨k, depsOf acc o.after.toList, [], o.dst, .tup [], [], [], nx, nx⟩ :: acc1) nx = some r → ∃ acc' nx', Trc orc ops ntm base acc' nx' ∧ acc'.length = ops.size ∧ κ ⟨allTm acc' base.tm, allHp acc' base.hp, nx'⟩ = some r := by
      intro acc1 h1 h2 h3 h3u h4 hg hr
      obtain ⟨j, t, want, hg1, hg0, hg2, hg3⟩ := hg
      refine regD_trace rest (k + 1) _ _ (by simp [h1]) hrest ?_ hr
      subst h1
      exact Trc.cons (o := o) (e := ⟨acc1.length, depsOf acc o.after.toList, [], o.dst, .tup [], [], [], nx, nx⟩) h4 rfl hok0 h2.symm (by exact hc2) rfl hc1 h3 h3u rfl (.skip j t want (Wk.refl _) rfl rfl rfl rfl hg1 hg0 hg2 hg3)
    split at hr
    · rename_i hg
      exact go acc hk rfl hc3 hc4 h (.inl hg) hr
    · rename_i j want hg
      split at hr
      · rename_i t htb hdt
        have hjk := deps_below h hc2 htb
        obtain ⟨m, hm1, hm2, hm3⟩ := h.writer hdt (by omega)
        have known : ∀ (w v : AV) (b : Bool), tget (envTm (depsOf acc o.after.toList) acc base.tm) t = w → v.ids = [] → Wk w v → Wk v w → Says w (fun u => u = .bool b) →
            Trc orc ops ntm base (setEnt t v acc) nx ∧ Says (tget (envTm (depsOf acc o.after.toList) (setEnt t v acc) base.tm) t) fun u => u = .bool b := by
          intro w v b h1 h3 h4 h5 h6
          have hm := meant_of h hm1 hm3 (by rw [hm2]; exact htb) h1 h4 h5
          exact ⟨Trc.set h3 h hm, fun X C hp nx u hu => h6 X C hp nx u (by rw [← h1]; exact (set_envTm hm t).2 _ _ _ _ _ hu)⟩
        have goS : ∀ v, Trc orc ops ntm base (setEnt t v acc) nx → Says (tget (envTm (depsOf acc o.after.toList) (setEnt t v acc) base.tm) t) (fun u => u = .bool want) → _ := fun v h1 h2 =>
          go (setEnt t v acc) (by rw [set_length, hk]) (set_depsOf t v acc _) (by rw [set_newDst]; exact hc3) (by rw [set_unread]; exact hc4) h1 (.inr ⟨j, t, want, hg, htb, hdt, h2⟩)
        have skipS : ∀ v, Trc orc ops ntm base (setEnt t v acc) nx → Says (tget (envTm (depsOf acc o.after.toList) (setEnt t v acc) base.tm) t) (fun u => u = .bool (!want)) → _ := fun v h1 h2 =>
          skip (setEnt t v acc) (by rw [set_length, hk]) (set_depsOf t v acc _) (by rw [set_newDst]; exact hc3) (by rw [set_unread]; exact hc4) h1 ⟨j, t, want, hg, htb, hdt, fun X C hp nx u hu => .inl (h2 X C hp nx u hu)⟩
        have stt : Says .tt (fun u => u = .bool true) := fun X C hp nx u hu => by simpa only [RepA] using hu
        have sff : Says .ff (fun u => u = .bool false) := fun X C hp nx u hu => by simpa only [RepA] using hu
        split at hr
        · rename_i e
          cases want with
          | true => exact go acc hk rfl hc3 hc4 h (.inr ⟨j, t, true, hg, htb, hdt, by rw [e]; exact stt⟩) hr
          | false => exact skip acc hk rfl hc3 hc4 h ⟨j, t, false, hg, htb, hdt, by rw [e]; exact fun X C hp nx u hu => .inl (stt X C hp nx u hu)⟩ hr
        · rename_i e
          cases want with
          | true => exact skip acc hk rfl hc3 hc4 h ⟨j, t, true, hg, htb, hdt, by rw [e]; exact fun X C hp nx u hu => .inl (sff X C hp nx u hu)⟩ hr
          | false => exact go acc hk rfl hc3 hc4 h (.inr ⟨j, t, false, hg, htb, hdt, by rw [e]; exact sff⟩) hr
        · rename_i b e
          cases b with
          | true =>
            obtain ⟨k1, k2⟩ := known (.bool true) .tt true e rfl (fun X C hp nx u hu => by simpa only [RepA] using hu) (fun X C hp nx u hu => by simpa only [RepA] using hu) (fun X C hp nx u hu => by simpa only [RepA] using hu)
            cases want with
            | true => exact goS .tt k1 k2 (by simp only [if_pos] at hr; exact hr)
            | false => exact skipS .tt k1 k2 (by simp only [if_pos] at hr; exact hr)
          | false =>
            obtain ⟨k1, k2⟩ := known (.bool false) .ff false e rfl (fun X C hp nx u hu => by simpa only [RepA] using hu) (fun X C hp nx u hu => by simpa only [RepA] using hu) (fun X C hp nx u hu => by simpa only [RepA] using hu)
            cases want with
            | true => exact skipS .ff k1 k2 (by simp only [Bool.false_eq_true, if_false] at hr; exact hr)
            | false => exact goS .ff k1 k2 (by simp only [Bool.false_eq_true, if_false] at hr; exact hr)
        · rename_i p d e
          by_cases hp : p
          · obtain ⟨k1, k2⟩ := known (.prop p d) .tt true e rfl (fun X C hp' nx u hu => by simp only [RepA] at hu ⊢; simpa [hp] using hu) (fun X C hp' nx u hu => by simp only [RepA] at hu ⊢; simpa [hp] using hu) (fun X C hp' nx u hu => by simp only [RepA] at hu; simpa [hp] using hu)
            cases want with
            | true => exact goS .tt k1 k2 (by simp only [if_pos hp] at hr; exact hr)
            | false => exact skipS .tt k1 k2 (by simp only [if_pos hp] at hr; exact hr)
          · obtain ⟨k1, k2⟩ := known (.prop p d) .ff false e rfl (fun X C hp' nx u hu => by simp only [RepA] at hu ⊢; simpa [hp] using hu) (fun X C hp' nx u hu => by simp only [RepA] at hu ⊢; simpa [hp] using hu) (fun X C hp' nx u hu => by simp only [RepA] at hu; simpa [hp] using hu)
            cases want with
            | true => exact skipS .ff k1 k2 (by simp only [if_neg hp] at hr; exact hr)
            | false => exact goS .ff k1 k2 (by simp only [if_neg hp] at hr; exact hr)
        · rename_i l e
          split at hr
          · refine skip acc hk rfl hc3 hc4 h ⟨j, t, want, hg, htb, hdt, ?_⟩ hr
            rw [e]
            intro X C hp nx u hu
            simp only [RepA] at hu
            obtain ⟨arr, h1, h2⟩ := hu
            simp only [RepL] at h2
            have : arr = #[] := by cases arr; simp_all
            subst this
            exact .inr h1
          · cases hr
        · cases hr
      · cases hr
end Go.Vm
namespace Go.Vm
open Go Go.RowKit
set_option linter.unusedVariables false
set_option linter.unusedSimpArgs false
variable {E : Env} {orc : Orc E}
def exHp (Ex : Nat → Bool) : List Ent → Hp → Hp
  | [], b => b
  | e :: l, b => match Ex e.idx with
    | true => e.eff ++ exHp Ex l b
    | false => exHp Ex l b
def exTm (Ex : Nat → Bool) : List Ent → Tm → Tm
  | [], b => b
  | e :: l, b => match Ex e.idx with
    | true => match e.dst with
      | some d => (d, e.v) :: exTm Ex l b
      | none => exTm Ex l b
    | false => exTm Ex l b
theorem get?_none : ∀ {l : Hp} {i : Nat}, i ∉ keysOf l → get? l i = none
  | [], i, _ => rfl
  | (a, b) :: l, i, h => by
    simp only [keysOf, List.mem_cons, not_or] at h
    rw [get?_cons, if_neg (fun e => h.1 e.symm)]
    exact get?_none h.2
theorem hget_deadAll : ∀ {l b : Hp} {i : Nat}, hget (deadAll l b) i = if i ∈ keysOf l then .dead else hget b i
  | [], b, i => by simp [deadAll, keysOf]
  | (a, B) :: l, b, i => by
    have ih := hget_deadAll (l := l) (b := b) (i := i)
    have h1 : hget (deadAll ((a, B) :: l) b) i = if a = i then .dead else hget (deadAll l b) i := by
      simp only [deadAll, hget, get?_cons]
      by_cases h : a = i
      · rw [if_pos h, if_pos h]
      · rw [if_neg h, if_neg h]
    rw [h1, ih]
    simp only [keysOf, List.mem_cons]
    by_cases h : a = i
    · subst h; simp
    · have : ¬ i = a := fun e => h e.symm
      simp [h, this]
theorem env_sub {D : Nat} {Ex : Nat → Bool} (hD : ∀ j, Nat.testBit D j = true → Ex j = true) {b : Hp} {id : Nat} : ∀ acc : List Ent, hget (envHp D acc b) id = .dead ∨ hget (envHp D acc b) id = hget (exHp Ex acc b) id
  | [] => .inr rfl
  | e :: l => by
    have ih := env_sub hD (b := b) (id := id) l
    simp only [envHp, exHp]
    cases hd : Nat.testBit D e.idx with
    | true =>
      rw [hD _ hd]
      simp only
      rw [hget_append, hget_append]
      cases get? e.eff id with
      | some B => exact .inr rfl
      | none => exact ih
    | false =>
      simp only
      rw [hget_deadAll]
      split
      · exact .inl rfl
      · rename_i hk
        cases Ex e.idx with
        | true => simp only; rw [hget_append, get?_none hk]; exact ih
        | false => exact ih
theorem env_eq {D : Nat} {Ex : Nat → Bool} (hD : ∀ j, Nat.testBit D j = true → Ex j = true) {b : Hp} {id : Nat} : ∀ acc : List Ent, hiddenBy D acc id = false → hget (envHp D acc b) id = hget (exHp Ex acc b) id
  | [], _ => rfl
  | e :: l, h => by
    simp only [hiddenBy, Bool.or_eq_false_iff] at h
    have ih := env_eq hD (b := b) (id := id) l h.2
    simp only [envHp, exHp]
    cases hd : Nat.testBit D e.idx with
    | true =>
      rw [hD _ hd]
      simp only
      rw [hget_append, hget_append]
      cases get? e.eff id with
      | some B => rfl
      | none => exact ih
    | false =>
      have hk : id ∉ keysOf e.eff := by
        intro hm
        have := h.1
        rw [hd, memN_iff.2 hm] at this
        simp at this
      simp only
      rw [hget_deadAll, if_neg hk]
      cases Ex e.idx with
      | true => simp only; rw [hget_append, get?_none hk]; exact ih
      | false => exact ih
theorem allB_mem {f : Nat → Bool} : ∀ {l : List Nat}, allB f l = true → ∀ i ∈ l, f i = true
  | [], _, i, hi => by simp at hi
  | a :: l, h, i, hi => by
    simp only [allB, Bool.and_eq_true] at h
    cases hi with
    | head => exact h.1
    | tail _ hi => exact allB_mem h.2 i hi
/-- The checks of an operation that was done, told as facts. -/
structure Facts (base : St) (acc : List Ent) (nx : Nat) (e : Ent) : Prop where
  le : nx ≤ e.hi
  eff : ∀ i ∈ keysOf e.eff, (nx ≤ i ∧ i < e.hi) ∨ hget e.view i ≠ .dead
  unseen : ∀ e' ∈ acc, Nat.testBit e.deps e'.idx = true ∨ ∀ i ∈ keysOf e.eff, nx ≤ i ∨ hget e'.view i = .dead
  view : ∀ id, hget e.view id = .dead ∨ hget e.view id = hget (envHp e.deps acc base.hp) id
  ids : ∀ i ∈ e.v.ids, (nx ≤ i ∧ i < e.hi) ∨ madeBy e.deps base.nx acc i = true
  effIds : ∀ i ∈ hpIds e.eff, (nx ≤ i ∧ i < e.hi) ∨ madeBy e.deps base.nx acc i = true
theorem unseen_mem {D nx : Nat} {ks : List Nat} : ∀ {acc : List Ent}, unseen D nx ks acc = true → ∀ e ∈ acc, Nat.testBit D e.idx = true ∨ ∀ i ∈ ks, nx ≤ i ∨ hget e.view i = .dead
  | [], _, e, he => by simp at he
  | a :: l, h, e, he => by
    simp only [unseen, Bool.and_eq_true, Bool.or_eq_true] at h
    cases he with
    | head =>
      rcases h.1 with h1 | h1
      · exact .inl h1
      · refine .inr fun i hi => ?_
        have h2 := allB_mem h1 i hi
        simp only [Bool.or_eq_true] at h2
        rcases h2 with h2 | h2
        · exact .inl (Nat.le_of_ble_eq_true h2)
        · exact .inr (isDead_iff.1 h2)
    | tail _ he => exact unseen_mem h.2 e he
theorem Did.facts {ops : Array Oper} {base : St} {acc : List Ent} {nx : Nat} {o : Oper} {e : Ent} (h : Did orc ops base acc nx o e) : Facts base acc nx e := by
  cases h with
  | skip j t want hv hi he hw hh hg hbt hd hs =>
    exact ⟨by rw [hh]; exact Nat.le_refl _, by rw [he]; simp [keysOf], fun e' _ => .inr (by rw [he]; simp [keysOf]), fun id => .inl (by rw [hw]; rfl), by rw [hi]; simp, by rw [he]; simp [hpIds]⟩
  | done tm v0 ht hrd hr hv hi hw hok hg =>
    unfold entOk at hok
    simp only [Bool.and_eq_true] at hok
    obtain ⟨⟨h1, h2⟩, h3, h4⟩ := hok
    have fr : ∀ i, (Nat.ble nx i && Nat.blt i e.hi) = true → nx ≤ i ∧ i < e.hi := by
      intro i hi
      simp only [Bool.and_eq_true] at hi
      exact ⟨Nat.le_of_ble_eq_true hi.1, Nat.le_of_ble_eq_true hi.2⟩
    refine ⟨Nat.le_of_ble_eq_true h1, fun i hi => ?_, unseen_mem h3, hw, fun i hi' => ?_, fun i hi' => ?_⟩
    · have := allB_mem h2 i hi
      simp only [Bool.or_eq_true] at this
      rcases this with h | h
      · exact .inl (fr i (by simpa using h))
      · exact .inr (isDead_false.1 (by simpa using h))
    · cases hf : hpFree o.op with
      | true =>
        rw [hf] at h4
        exact .inr (allB_mem h4 i (hi i hi'))
      | false =>
        rw [hf] at h4
        simp only [Bool.and_eq_true] at h4
        have := allB_mem h4.1 i (List.mem_append.2 (.inl (hi i hi')))
        simp only [Bool.or_eq_true, qOk, pOk, Bool.and_eq_true] at this
        rcases this with h | h
        · exact .inl (fr i (by simpa using h))
        · exact .inr h.1.1
    · cases hf : hpFree o.op with
      | true =>
        have := (un_op (s := ⟨tm, e.view, nx⟩) (s' := ⟨tm, e.view, nx⟩) hf rfl _ hr).1
        simp only at this
        rw [this] at hi'
        simp [hpIds] at hi'
      | false =>
        rw [hf] at h4
        simp only [Bool.and_eq_true] at h4
        have := allB_mem h4.1 i (List.mem_append.2 (.inr hi'))
        simp only [Bool.or_eq_true, qOk, pOk, Bool.and_eq_true] at this
        rcases this with h | h
        · exact .inl (fr i (by simpa using h))
        · exact .inr h.1.1
end Go.Vm
