/- The tables of the program are as the reading takes them; no conditions. -/
import Derived.Test.YtiljmehapdeanaaDoorA
import Derived.Test.YtiljmehapdeanaaDoorVmD
import Derived.KernelRfl
namespace Go.Vm
open Go Go.Proofs
set_option linter.unusedVariables false
theorem ti3 : TiOk Tryd.prog 3 ⟨false, (.int .i64), 8⟩ := ⟨⟨Tryd.t3, by kernel_rfl, by kernel_rfl, by kernel_rfl, _, rfl, by kernel_rfl⟩, ⟨_, Tryd.underlying3, ⟨rfl, rfl⟩⟩⟩
theorem ti4 : TiOk Tryd.prog 4 ⟨false, .bool, 1⟩ := ⟨⟨Tryd.t4, by kernel_rfl, by kernel_rfl, by kernel_rfl, _, rfl, by kernel_rfl⟩, ⟨_, Tryd.underlying4, ⟨rfl, rfl⟩⟩⟩
theorem ti5 : TiOk Tryd.prog 5 ⟨false, (.int .u8), 1⟩ := ⟨⟨Tryd.t5, by kernel_rfl, by kernel_rfl, by kernel_rfl, _, rfl, by kernel_rfl⟩, ⟨_, Tryd.underlying5, ⟨rfl, rfl⟩⟩⟩
theorem ti9 : TiOk Tryd.prog 9 ⟨false, .str, 16⟩ := ⟨⟨Tryd.t9, by kernel_rfl, by kernel_rfl, by kernel_rfl, _, rfl, by kernel_rfl⟩, ⟨_, Tryd.underlying9, ⟨rfl, rfl⟩⟩⟩
theorem ti22 : TiOk Tryd.prog 22 ⟨false, (.row (.int .i64)), 24⟩ := ⟨⟨Tryd.t22, by kernel_rfl, by kernel_rfl, by kernel_rfl, _, rfl, by kernel_rfl⟩, ⟨_, Tryd.underlying22, ⟨rfl, _, rfl⟩⟩⟩
theorem ti29 : TiOk Tryd.prog 29 ⟨true, (.pair (.int .i64) (.pair (.row (.int .i64)) (.row (.int .i64)))), 56⟩ := ⟨⟨Tryd.t29, by kernel_rfl, by kernel_rfl, by kernel_rfl, _, rfl, by kernel_rfl⟩, ⟨_, Tryd.underlying29, rfl⟩⟩
theorem ti31 : TiOk Tryd.prog 31 ⟨true, (.pair (.int .i64) (.pair (.int .i64) (.pair (.int .i64) (.pair (.row (.int .i64)) (.row (.int .i64)))))), 72⟩ := ⟨⟨Tryd.t31, by kernel_rfl, by kernel_rfl, by kernel_rfl, _, rfl, by kernel_rfl⟩, ⟨_, Tryd.underlying31, rfl⟩⟩
theorem ti34 : TiOk Tryd.prog 34 ⟨true, (.pair (.int .i64) (.pair (.row (.int .i64)) (.row (.int .i64)))), 56⟩ := ⟨⟨Tryd.t34, by kernel_rfl, by kernel_rfl, by kernel_rfl, _, rfl, by kernel_rfl⟩, ⟨_, Tryd.underlying34, rfl⟩⟩
theorem ti36 : TiOk Tryd.prog 36 ⟨true, (.pair (.int .i64) (.pair (.int .i64) (.pair (.int .i64) (.pair (.row (.int .i64)) (.row (.int .i64)))))), 72⟩ := ⟨⟨Tryd.t36, by kernel_rfl, by kernel_rfl, by kernel_rfl, _, rfl, by kernel_rfl⟩, ⟨_, Tryd.underlying36, rfl⟩⟩
theorem ti72 : TiOk Tryd.prog 72 ⟨false, (.row .str), 24⟩ := ⟨⟨Tryd.t72, by kernel_rfl, by kernel_rfl, by kernel_rfl, _, rfl, by kernel_rfl⟩, ⟨_, Tryd.underlying72, ⟨rfl, _, rfl⟩⟩⟩
theorem ti80 : TiOk Tryd.prog 80 ⟨false, (.row (.int .u8)), 24⟩ := ⟨⟨Tryd.t80, by kernel_rfl, by kernel_rfl, by kernel_rfl, _, rfl, by kernel_rfl⟩, ⟨_, Tryd.underlying80, ⟨rfl, _, rfl⟩⟩⟩
theorem fl29 : ∃ fs, Tryd.prog.underlying 29 = some (.struct fs) ∧ fldsOk Tryd.prog fs [(0, 3), (1, 22), (2, 22)] := ⟨_, Tryd.underlying29, by kernel_rfl, fun i o t h => by
    match i, h with
    | 0, h => cases h; exact ⟨_, Tryd.t3, rfl, rfl, rfl, by kernel_rfl, by decide, by decide⟩
    | 1, h => cases h; exact ⟨_, Tryd.t22, rfl, rfl, rfl, by kernel_rfl, by decide, by decide⟩
    | 2, h => cases h; exact ⟨_, Tryd.t22, rfl, rfl, rfl, by kernel_rfl, by decide, by decide⟩
    | n + 3, h => exact absurd h (by simp)⟩
theorem fl31 : ∃ fs, Tryd.prog.underlying 31 = some (.struct fs) ∧ fldsOk Tryd.prog fs [(0, 3), (1, 3), (2, 29)] := ⟨_, Tryd.underlying31, by kernel_rfl, fun i o t h => by
    match i, h with
    | 0, h => cases h; exact ⟨_, Tryd.t3, rfl, rfl, rfl, by kernel_rfl, by decide, by decide⟩
    | 1, h => cases h; exact ⟨_, Tryd.t3, rfl, rfl, rfl, by kernel_rfl, by decide, by decide⟩
    | 2, h => cases h; exact ⟨_, Tryd.t29, rfl, rfl, rfl, by kernel_rfl, by decide, by decide⟩
    | n + 3, h => exact absurd h (by simp)⟩
theorem fl34 : ∃ fs, Tryd.prog.underlying 34 = some (.struct fs) ∧ fldsOk Tryd.prog fs [(0, 3), (1, 22), (2, 22)] := ⟨_, Tryd.underlying34, by kernel_rfl, fun i o t h => by
    match i, h with
    | 0, h => cases h; exact ⟨_, Tryd.t3, rfl, rfl, rfl, by kernel_rfl, by decide, by decide⟩
    | 1, h => cases h; exact ⟨_, Tryd.t22, rfl, rfl, rfl, by kernel_rfl, by decide, by decide⟩
    | 2, h => cases h; exact ⟨_, Tryd.t22, rfl, rfl, rfl, by kernel_rfl, by decide, by decide⟩
    | n + 3, h => exact absurd h (by simp)⟩
theorem fl36 : ∃ fs, Tryd.prog.underlying 36 = some (.struct fs) ∧ fldsOk Tryd.prog fs [(0, 3), (1, 3), (2, 34)] := ⟨_, Tryd.underlying36, by kernel_rfl, fun i o t h => by
    match i, h with
    | 0, h => cases h; exact ⟨_, Tryd.t3, rfl, rfl, rfl, by kernel_rfl, by decide, by decide⟩
    | 1, h => cases h; exact ⟨_, Tryd.t3, rfl, rfl, rfl, by kernel_rfl, by decide, by decide⟩
    | 2, h => cases h; exact ⟨_, Tryd.t34, rfl, rfl, rfl, by kernel_rfl, by decide, by decide⟩
    | n + 3, h => exact absurd h (by simp)⟩
theorem envOk : EnvOk E Tryd.prog where
  ti := AllP.get (Q := fun t ti => TiOk Tryd.prog t ti) (l := E.ti) ⟨ti3, ti4, ti5, ti9, ti22, ti29, ti31, ti34, ti36, ti72, ti80, trivial⟩
  el := AllP.get (Q := fun t e => Tryd.prog.underlying t = some (.slice e)) (l := E.el) ⟨Tryd.underlying22, Tryd.underlying72, Tryd.underlying80, trivial⟩
  fl := AllP.get (Q := fun t l => ∃ fs, Tryd.prog.underlying t = some (.struct fs) ∧ fldsOk Tryd.prog fs l) (l := E.fl) ⟨fl29, fl31, fl34, fl36, trivial⟩
  fn := AllP.get (Q := fun g fn => Tryd.prog.funcs[g]? = some fn ∧ fn.name ≠ "runtime.NumGoroutine") (l := E.fn) ⟨⟨Tryd.func10, by decide +kernel⟩, ⟨Tryd.func40, by decide +kernel⟩, ⟨Tryd.func36, by decide +kernel⟩, ⟨Tryd.func44, by decide +kernel⟩, ⟨Tryd.func59, by decide +kernel⟩, ⟨Tryd.func45, by decide +kernel⟩, ⟨Tryd.func18, by decide +kernel⟩, ⟨Tryd.func9, by decide +kernel⟩, ⟨Tryd.func37, by decide +kernel⟩, ⟨Tryd.func38, by decide +kernel⟩, ⟨Tryd.func11, by decide +kernel⟩, ⟨Tryd.func12, by decide +kernel⟩, ⟨Tryd.func3, by decide +kernel⟩, ⟨Tryd.func57, by decide +kernel⟩, ⟨Tryd.func39, by decide +kernel⟩, ⟨Tryd.func13, by decide +kernel⟩, ⟨Tryd.func41, by decide +kernel⟩, ⟨Tryd.func15, by decide +kernel⟩, ⟨Tryd.func14, by decide +kernel⟩, ⟨Tryd.func16, by decide +kernel⟩, ⟨Tryd.func43, by decide +kernel⟩, ⟨Tryd.func17, by decide +kernel⟩, ⟨Tryd.func4, by decide +kernel⟩, trivial⟩
  mixed := by kernel_rfl
  ps := AllP.get (Q := fun t e => Tryd.prog.underlying t = some (.slice e) ∧ PtrOk Tryd.prog e) (l := E.ps) trivial
  pe := AllP.get (Q := fun e _ => PtrOk Tryd.prog e) (l := E.pe) trivial
  ar := AllP.get (Q := fun t p => Tryd.prog.underlying t = some (.array p.2 p.1)) (l := E.ar) trivial
  guard := AllP.get (Q := fun t ti => ti.agg = true → Tryd.prog.eqGuardType Tryd.prog.depth t = false ∧ Tryd.prog.stoodInHeld t = false) (l := E.ti) ⟨fun h => absurd h (by decide), fun h => absurd h (by decide), fun h => absurd h (by decide), fun h => absurd h (by decide), fun h => absurd h (by decide), fun _ => ⟨by kernel_rfl, by kernel_rfl⟩, fun _ => ⟨by kernel_rfl, by kernel_rfl⟩, fun _ => ⟨by kernel_rfl, by kernel_rfl⟩, fun _ => ⟨by kernel_rfl, by kernel_rfl⟩, fun h => absurd h (by decide), fun h => absurd h (by decide), trivial⟩
theorem sigOk : SigOk E Tryd.prog := AllP.get (Q := fun g _ => ∃ fn, Tryd.prog.funcs[g]? = some fn ∧ fn.name ≠ "runtime.NumGoroutine" ∧ fn.body.isSome = true) (l := E.sg) ⟨⟨_, Tryd.func10, by decide +kernel, rfl⟩, ⟨_, Tryd.func40, by decide +kernel, rfl⟩, ⟨_, Tryd.func36, by decide +kernel, rfl⟩, ⟨_, Tryd.func44, by decide +kernel, rfl⟩, ⟨_, Tryd.func59, by decide +kernel, rfl⟩, ⟨_, Tryd.func45, by decide +kernel, rfl⟩, ⟨_, Tryd.func18, by decide +kernel, rfl⟩, ⟨_, Tryd.func9, by decide +kernel, rfl⟩, ⟨_, Tryd.func37, by decide +kernel, rfl⟩, ⟨_, Tryd.func42, by decide +kernel, rfl⟩, ⟨_, Tryd.func56, by decide +kernel, rfl⟩, ⟨_, Tryd.func38, by decide +kernel, rfl⟩, ⟨_, Tryd.func11, by decide +kernel, rfl⟩, ⟨_, Tryd.func12, by decide +kernel, rfl⟩, ⟨_, Tryd.func3, by decide +kernel, rfl⟩, ⟨_, Tryd.func57, by decide +kernel, rfl⟩, ⟨_, Tryd.func39, by decide +kernel, rfl⟩, ⟨_, Tryd.func13, by decide +kernel, rfl⟩, ⟨_, Tryd.func41, by decide +kernel, rfl⟩, ⟨_, Tryd.func15, by decide +kernel, rfl⟩, ⟨_, Tryd.func14, by decide +kernel, rfl⟩, ⟨_, Tryd.func16, by decide +kernel, rfl⟩, ⟨_, Tryd.func43, by decide +kernel, rfl⟩, ⟨_, Tryd.func17, by decide +kernel, rfl⟩, ⟨_, Tryd.func4, by decide +kernel, rfl⟩, trivial⟩
theorem fnsOk_ : FnsOk E := fnsOk (by kernel_rfl) (by kernel_rfl)
end Go.Vm
