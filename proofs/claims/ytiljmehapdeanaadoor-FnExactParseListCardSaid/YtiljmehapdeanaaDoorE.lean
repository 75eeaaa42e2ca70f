/- The tables of the program are as the reading takes them; no conditions. -/
import Derived.Test.YtiljmehapdeanaaDoorA
import Derived.Test.YtiljmehapdeanaaDoorVmD
import Derived.KernelRfl
namespace Go.Vm
open Go Go.Proofs
set_option linter.unusedVariables false
theorem ti3 : TiOk Tryd.prog 3 ⟨false, (.int .i64), 8⟩ := ⟨⟨Tryd.t3, by kernel_rfl, by kernel_rfl, by kernel_rfl, _, rfl, by kernel_rfl⟩, ⟨_, Tryd.underlying3, ⟨rfl, rfl⟩⟩⟩
theorem ti4 : TiOk Tryd.prog 4 ⟨false, .bool, 1⟩ := ⟨⟨Tryd.t4, by kernel_rfl, by kernel_rfl, by kernel_rfl, _, rfl, by kernel_rfl⟩, ⟨_, Tryd.underlying4, ⟨rfl, rfl⟩⟩⟩
theorem ti5 : TiOk Tryd.prog 5 ⟨false, (.int .u8), 1⟩ := ⟨⟨Tryd.t5, by kernel_rfl, by kernel_rfl, by kernel_rfl, _, rfl, by kernel_rfl⟩, ⟨_, Tryd.underlying5, ⟨rfl, rfl⟩⟩⟩
theorem ti9 : TiOk Tryd.prog 9 ⟨false, .str, 16⟩ := ⟨⟨Tryd.t9, by kernel_rfl, by kernel_rfl, by kernel_rfl, _, rfl, by kernel_rfl⟩, ⟨_, Tryd.underlying9, ⟨rfl, rfl⟩⟩⟩
theorem ti22 : TiOk Tryd.prog 22 ⟨false, (.row (.int .i64)), 24⟩ := ⟨⟨Tryd.t22, by kernel_rfl, by kernel_rfl, by kernel_rfl, _, rfl, by kernel_rfl⟩, ⟨_, Tryd.underlying22, ⟨rfl, _, rfl⟩⟩⟩
theorem ti29 : TiOk Tryd.prog 29 ⟨true, (.pair (.int .i64) (.pair (.row (.int .i64)) (.row (.int .i64)))), 56⟩ := ⟨⟨Tryd.t29, by kernel_rfl, by kernel_rfl, by kernel_rfl, _, rfl, by kernel_rfl⟩, ⟨_, Tryd.underlying29, rfl⟩⟩
theorem ti31 : TiOk Tryd.prog 31 ⟨true, (.pair (.int .i64) (.pair (.int .i64) (.pair (.int .i64) (.pair (.row (.int .i64)) (.row (.int .i64)))))), 72⟩ := ⟨⟨Tryd.t31, by kernel_rfl, by kernel_rfl, by kernel_rfl, _, rfl, by kernel_rfl⟩, ⟨_, Tryd.underlying31, rfl⟩⟩
theorem ti34 : TiOk Tryd.prog 34 ⟨true, (.pair (.int .i64) (.pair (.row (.int .i64)) (.row (.int .i64)))), 56⟩ := ⟨⟨Tryd.t34, by kernel_rfl, by kernel_rfl, by kernel_rfl, _, rfl, by kernel_rfl⟩, ⟨_, Tryd.underlying34, rfl⟩⟩
theorem ti36 : TiOk Tryd.prog 36 ⟨true, (.pair (.int .i64) (.pair (.int .i64) (.pair (.int .i64) (.pair (.row (.int .i64)) (.row (.int .i64)))))), 72⟩ := ⟨⟨Tryd.t36, by kernel_rfl, by kernel_rfl, by kernel_rfl, _, rfl, by kernel_rfl⟩, ⟨_, Tryd.underlying36, rfl⟩⟩
theorem ti45 : TiOk Tryd.prog 45 ⟨true, (.pair (.int .i64) (.pair (.int .i64) (.pair (.row (.int .i64)) (.pair (.row (.int .i64)) (.int .i64))))), 72⟩ := ⟨⟨Tryd.t45, by kernel_rfl, by kernel_rfl, by kernel_rfl, _, rfl, by kernel_rfl⟩, ⟨_, Tryd.underlying45, rfl⟩⟩
theorem ti47 : TiOk Tryd.prog 47 ⟨true, (.pair (.int .i64) (.pair (.int .i64) (.pair (.int .i64) (.pair (.int .i64) (.pair (.int .i64) (.pair (.row (.int .i64)) (.pair (.row (.int .i64)) (.int .i64)))))))), 96⟩ := ⟨⟨Tryd.t47, by kernel_rfl, by kernel_rfl, by kernel_rfl, _, rfl, by kernel_rfl⟩, ⟨_, Tryd.underlying47, rfl⟩⟩
theorem ti52 : TiOk Tryd.prog 52 ⟨true, (.pair (.int .i64) (.pair (.int .i64) (.pair (.row (.int .i64)) (.pair (.row (.int .i64)) (.int .i64))))), 72⟩ := ⟨⟨Tryd.t52, by kernel_rfl, by kernel_rfl, by kernel_rfl, _, rfl, by kernel_rfl⟩, ⟨_, Tryd.underlying52, rfl⟩⟩
theorem ti54 : TiOk Tryd.prog 54 ⟨true, (.pair (.int .i64) (.pair (.int .i64) (.pair (.int .i64) (.pair (.int .i64) (.pair (.int .i64) (.pair (.row (.int .i64)) (.pair (.row (.int .i64)) (.int .i64)))))))), 96⟩ := ⟨⟨Tryd.t54, by kernel_rfl, by kernel_rfl, by kernel_rfl, _, rfl, by kernel_rfl⟩, ⟨_, Tryd.underlying54, rfl⟩⟩
theorem ti59 : TiOk Tryd.prog 59 ⟨false, (.row (.pair (.int .i64) (.pair (.int .i64) (.pair (.int .i64) (.pair (.int .i64) (.pair (.int .i64) (.pair (.row (.int .i64)) (.pair (.row (.int .i64)) (.int .i64))))))))), 24⟩ := ⟨⟨Tryd.t59, by kernel_rfl, by kernel_rfl, by kernel_rfl, _, rfl, by kernel_rfl⟩, ⟨_, Tryd.underlying59, ⟨rfl, _, rfl⟩⟩⟩
theorem ti62 : TiOk Tryd.prog 62 ⟨false, (.row (.pair (.int .i64) (.pair (.int .i64) (.pair (.int .i64) (.pair (.int .i64) (.pair (.int .i64) (.pair (.row (.int .i64)) (.pair (.row (.int .i64)) (.int .i64))))))))), 24⟩ := ⟨⟨Tryd.t62, by kernel_rfl, by kernel_rfl, by kernel_rfl, _, rfl, by kernel_rfl⟩, ⟨_, Tryd.underlying62, ⟨rfl, _, rfl⟩⟩⟩
theorem ti72 : TiOk Tryd.prog 72 ⟨false, (.row .str), 24⟩ := ⟨⟨Tryd.t72, by kernel_rfl, by kernel_rfl, by kernel_rfl, _, rfl, by kernel_rfl⟩, ⟨_, Tryd.underlying72, ⟨rfl, _, rfl⟩⟩⟩
theorem ti80 : TiOk Tryd.prog 80 ⟨false, (.row (.int .u8)), 24⟩ := ⟨⟨Tryd.t80, by kernel_rfl, by kernel_rfl, by kernel_rfl, _, rfl, by kernel_rfl⟩, ⟨_, Tryd.underlying80, ⟨rfl, _, rfl⟩⟩⟩
theorem ti87 : TiOk Tryd.prog 87 ⟨true, (.pair (.int .i64) (.pair (.int .i64) (.pair (.int .i64) (.int .i64)))), 32⟩ := ⟨⟨Tryd.t87, by kernel_rfl, by kernel_rfl, by kernel_rfl, _, rfl, by kernel_rfl⟩, ⟨_, Tryd.underlying87, rfl⟩⟩
theorem fl29 : ∃ fs, Tryd.prog.underlying 29 = some (.struct fs) ∧ fldsOk Tryd.prog fs [(0, 3), (1, 22), (2, 22)] := ⟨_, Tryd.underlying29, by kernel_rfl, fun i o t h => by
    match i, h with
    | 0, h => cases h; exact ⟨_, Tryd.t3, rfl, rfl, rfl, by kernel_rfl, by decide, by decide⟩
    | 1, h => cases h; exact ⟨_, Tryd.t22, rfl, rfl, rfl, by kernel_rfl, by decide, by decide⟩
    | 2, h => cases h; exact ⟨_, Tryd.t22, rfl, rfl, rfl, by kernel_rfl, by decide, by decide⟩
    | n + 3, h => exact absurd h (by simp)⟩
theorem fl31 : ∃ fs, Tryd.prog.underlying 31 = some (.struct fs) ∧ fldsOk Tryd.prog fs [(0, 3), (1, 3), (2, 29)] := ⟨_, Tryd.underlying31, by kernel_rfl, fun i o t h => by
    match i, h with
    | 0, h => cases h; exact ⟨_, Tryd.t3, rfl, rfl, rfl, by kernel_rfl, by decide, by decide⟩
    | 1, h => cases h; exact ⟨_, Tryd.t3, rfl, rfl, rfl, by kernel_rfl, by decide, by decide⟩
    | 2, h => cases h; exact ⟨_, Tryd.t29, rfl, rfl, rfl, by kernel_rfl, by decide, by decide⟩
    | n + 3, h => exact absurd h (by simp)⟩
theorem fl34 : ∃ fs, Tryd.prog.underlying 34 = some (.struct fs) ∧ fldsOk Tryd.prog fs [(0, 3), (1, 22), (2, 22)] := ⟨_, Tryd.underlying34, by kernel_rfl, fun i o t h => by
    match i, h with
    | 0, h => cases h; exact ⟨_, Tryd.t3, rfl, rfl, rfl, by kernel_rfl, by decide, by decide⟩
    | 1, h => cases h; exact ⟨_, Tryd.t22, rfl, rfl, rfl, by kernel_rfl, by decide, by decide⟩
    | 2, h => cases h; exact ⟨_, Tryd.t22, rfl, rfl, rfl, by kernel_rfl, by decide, by decide⟩
    | n + 3, h => exact absurd h (by simp)⟩
theorem fl36 : ∃ fs, Tryd.prog.underlying 36 = some (.struct fs) ∧ fldsOk Tryd.prog fs [(0, 3), (1, 3), (2, 34)] := ⟨_, Tryd.underlying36, by kernel_rfl, fun i o t h => by
    match i, h with
    | 0, h => cases h; exact ⟨_, Tryd.t3, rfl, rfl, rfl, by kernel_rfl, by decide, by decide⟩
    | 1, h => cases h; exact ⟨_, Tryd.t3, rfl, rfl, rfl, by kernel_rfl, by decide, by decide⟩
    | 2, h => cases h; exact ⟨_, Tryd.t34, rfl, rfl, rfl, by kernel_rfl, by decide, by decide⟩
    | n + 3, h => exact absurd h (by simp)⟩
theorem fl45 : ∃ fs, Tryd.prog.underlying 45 = some (.struct fs) ∧ fldsOk Tryd.prog fs [(0, 3), (1, 3), (2, 22), (3, 22), (4, 3)] := ⟨_, Tryd.underlying45, by kernel_rfl, fun i o t h => by
    match i, h with
    | 0, h => cases h; exact ⟨_, Tryd.t3, rfl, rfl, rfl, by kernel_rfl, by decide, by decide⟩
    | 1, h => cases h; exact ⟨_, Tryd.t3, rfl, rfl, rfl, by kernel_rfl, by decide, by decide⟩
    | 2, h => cases h; exact ⟨_, Tryd.t22, rfl, rfl, rfl, by kernel_rfl, by decide, by decide⟩
    | 3, h => cases h; exact ⟨_, Tryd.t22, rfl, rfl, rfl, by kernel_rfl, by decide, by decide⟩
    | 4, h => cases h; exact ⟨_, Tryd.t3, rfl, rfl, rfl, by kernel_rfl, by decide, by decide⟩
    | n + 5, h => exact absurd h (by simp)⟩
theorem fl47 : ∃ fs, Tryd.prog.underlying 47 = some (.struct fs) ∧ fldsOk Tryd.prog fs [(0, 3), (1, 3), (2, 3), (3, 45)] := ⟨_, Tryd.underlying47, by kernel_rfl, fun i o t h => by
    match i, h with
    | 0, h => cases h; exact ⟨_, Tryd.t3, rfl, rfl, rfl, by kernel_rfl, by decide, by decide⟩
    | 1, h => cases h; exact ⟨_, Tryd.t3, rfl, rfl, rfl, by kernel_rfl, by decide, by decide⟩
    | 2, h => cases h; exact ⟨_, Tryd.t3, rfl, rfl, rfl, by kernel_rfl, by decide, by decide⟩
    | 3, h => cases h; exact ⟨_, Tryd.t45, rfl, rfl, rfl, by kernel_rfl, by decide, by decide⟩
    | n + 4, h => exact absurd h (by simp)⟩
theorem fl52 : ∃ fs, Tryd.prog.underlying 52 = some (.struct fs) ∧ fldsOk Tryd.prog fs [(0, 3), (1, 3), (2, 22), (3, 22), (4, 3)] := ⟨_, Tryd.underlying52, by kernel_rfl, fun i o t h => by
    match i, h with
    | 0, h => cases h; exact ⟨_, Tryd.t3, rfl, rfl, rfl, by kernel_rfl, by decide, by decide⟩
    | 1, h => cases h; exact ⟨_, Tryd.t3, rfl, rfl, rfl, by kernel_rfl, by decide, by decide⟩
    | 2, h => cases h; exact ⟨_, Tryd.t22, rfl, rfl, rfl, by kernel_rfl, by decide, by decide⟩
    | 3, h => cases h; exact ⟨_, Tryd.t22, rfl, rfl, rfl, by kernel_rfl, by decide, by decide⟩
    | 4, h => cases h; exact ⟨_, Tryd.t3, rfl, rfl, rfl, by kernel_rfl, by decide, by decide⟩
    | n + 5, h => exact absurd h (by simp)⟩
theorem fl54 : ∃ fs, Tryd.prog.underlying 54 = some (.struct fs) ∧ fldsOk Tryd.prog fs [(0, 3), (1, 3), (2, 3), (3, 52)] := ⟨_, Tryd.underlying54, by kernel_rfl, fun i o t h => by
    match i, h with
    | 0, h => cases h; exact ⟨_, Tryd.t3, rfl, rfl, rfl, by kernel_rfl, by decide, by decide⟩
    | 1, h => cases h; exact ⟨_, Tryd.t3, rfl, rfl, rfl, by kernel_rfl, by decide, by decide⟩
    | 2, h => cases h; exact ⟨_, Tryd.t3, rfl, rfl, rfl, by kernel_rfl, by decide, by decide⟩
    | 3, h => cases h; exact ⟨_, Tryd.t52, rfl, rfl, rfl, by kernel_rfl, by decide, by decide⟩
    | n + 4, h => exact absurd h (by simp)⟩
theorem envOk : EnvOk E Tryd.prog where
  ti := AllP.get (Q := fun t ti => TiOk Tryd.prog t ti) (l := E.ti) ⟨ti3, ti4, ti5, ti9, ti22, ti29, ti31, ti34, ti36, ti45, ti47, ti52, ti54, ti59, ti62, ti72, ti80, ti87, trivial⟩
  el := AllP.get (Q := fun t e => Tryd.prog.underlying t = some (.slice e)) (l := E.el) ⟨Tryd.underlying22, Tryd.underlying59, Tryd.underlying62, Tryd.underlying72, Tryd.underlying80, trivial⟩
  fl := AllP.get (Q := fun t l => ∃ fs, Tryd.prog.underlying t = some (.struct fs) ∧ fldsOk Tryd.prog fs l) (l := E.fl) ⟨fl29, fl31, fl34, fl36, fl45, fl47, fl52, fl54, trivial⟩
  fn := AllP.get (Q := fun g fn => Tryd.prog.funcs[g]? = some fn ∧ fn.name ≠ "runtime.NumGoroutine") (l := E.fn) ⟨⟨Tryd.func44, by decide +kernel⟩, ⟨Tryd.func59, by decide +kernel⟩, ⟨Tryd.func40, by decide +kernel⟩, ⟨Tryd.func45, by decide +kernel⟩, ⟨Tryd.func18, by decide +kernel⟩, ⟨Tryd.func46, by decide +kernel⟩, ⟨Tryd.func19, by decide +kernel⟩, ⟨Tryd.func12, by decide +kernel⟩, ⟨Tryd.func20, by decide +kernel⟩, ⟨Tryd.func21, by decide +kernel⟩, ⟨Tryd.func5, by decide +kernel⟩, ⟨Tryd.func47, by decide +kernel⟩, ⟨Tryd.func22, by decide +kernel⟩, ⟨Tryd.func62, by decide +kernel⟩, ⟨Tryd.func63, by decide +kernel⟩, ⟨Tryd.func48, by decide +kernel⟩, ⟨Tryd.func23, by decide +kernel⟩, ⟨Tryd.func49, by decide +kernel⟩, ⟨Tryd.func24, by decide +kernel⟩, ⟨Tryd.func50, by decide +kernel⟩, ⟨Tryd.func25, by decide +kernel⟩, ⟨Tryd.func51, by decide +kernel⟩, ⟨Tryd.func26, by decide +kernel⟩, ⟨Tryd.func6, by decide +kernel⟩, ⟨Tryd.func57, by decide +kernel⟩, ⟨Tryd.func52, by decide +kernel⟩, ⟨Tryd.func27, by decide +kernel⟩, ⟨Tryd.func10, by decide +kernel⟩, ⟨Tryd.func54, by decide +kernel⟩, ⟨Tryd.func29, by decide +kernel⟩, ⟨Tryd.func36, by decide +kernel⟩, ⟨Tryd.func64, by decide +kernel⟩, ⟨Tryd.func53, by decide +kernel⟩, ⟨Tryd.func28, by decide +kernel⟩, ⟨Tryd.func38, by decide +kernel⟩, ⟨Tryd.func72, by decide +kernel⟩, ⟨Tryd.func65, by decide +kernel⟩, ⟨Tryd.func55, by decide +kernel⟩, ⟨Tryd.func30, by decide +kernel⟩, ⟨Tryd.func7, by decide +kernel⟩, ⟨Tryd.func31, by decide +kernel⟩, ⟨Tryd.func33, by decide +kernel⟩, ⟨Tryd.func32, by decide +kernel⟩, ⟨Tryd.func34, by decide +kernel⟩, ⟨Tryd.func35, by decide +kernel⟩, ⟨Tryd.func8, by decide +kernel⟩, ⟨Tryd.func9, by decide +kernel⟩, ⟨Tryd.func37, by decide +kernel⟩, ⟨Tryd.func11, by decide +kernel⟩, ⟨Tryd.func3, by decide +kernel⟩, ⟨Tryd.func39, by decide +kernel⟩, ⟨Tryd.func13, by decide +kernel⟩, ⟨Tryd.func41, by decide +kernel⟩, ⟨Tryd.func15, by decide +kernel⟩, ⟨Tryd.func14, by decide +kernel⟩, ⟨Tryd.func16, by decide +kernel⟩, ⟨Tryd.func43, by decide +kernel⟩, ⟨Tryd.func17, by decide +kernel⟩, ⟨Tryd.func4, by decide +kernel⟩, trivial⟩
  mixed := by kernel_rfl
  ps := AllP.get (Q := fun t e => Tryd.prog.underlying t = some (.slice e) ∧ PtrOk Tryd.prog e) (l := E.ps) trivial
  pe := AllP.get (Q := fun e _ => PtrOk Tryd.prog e) (l := E.pe) trivial
  ar := AllP.get (Q := fun t p => Tryd.prog.underlying t = some (.array p.2 p.1)) (l := E.ar) ⟨Tryd.underlying87, trivial⟩
  guard := AllP.get (Q := fun t ti => ti.agg = true → Tryd.prog.eqGuardType Tryd.prog.depth t = false ∧ Tryd.prog.stoodInHeld t = false) (l := E.ti) ⟨fun h => absurd h (by decide), fun h => absurd h (by decide), fun h => absurd h (by decide), fun h => absurd h (by decide), fun h => absurd h (by decide), fun _ => ⟨by kernel_rfl, by kernel_rfl⟩, fun _ => ⟨by kernel_rfl, by kernel_rfl⟩, fun _ => ⟨by kernel_rfl, by kernel_rfl⟩, fun _ => ⟨by kernel_rfl, by kernel_rfl⟩, fun _ => ⟨by kernel_rfl, by kernel_rfl⟩, fun _ => ⟨by kernel_rfl, by kernel_rfl⟩, fun _ => ⟨by kernel_rfl, by kernel_rfl⟩, fun _ => ⟨by kernel_rfl, by kernel_rfl⟩, fun h => absurd h (by decide), fun h => absurd h (by decide), fun h => absurd h (by decide), fun h => absurd h (by decide), fun _ => ⟨by kernel_rfl, by kernel_rfl⟩, trivial⟩
theorem sigOk : SigOk E Tryd.prog := AllP.get (Q := fun g _ => ∃ fn, Tryd.prog.funcs[g]? = some fn ∧ fn.name ≠ "runtime.NumGoroutine" ∧ fn.body.isSome = true) (l := E.sg) ⟨⟨_, Tryd.func44, by decide +kernel, rfl⟩, ⟨_, Tryd.func59, by decide +kernel, rfl⟩, ⟨_, Tryd.func40, by decide +kernel, rfl⟩, ⟨_, Tryd.func45, by decide +kernel, rfl⟩, ⟨_, Tryd.func18, by decide +kernel, rfl⟩, ⟨_, Tryd.func60, by decide +kernel, rfl⟩, ⟨_, Tryd.func61, by decide +kernel, rfl⟩, ⟨_, Tryd.func46, by decide +kernel, rfl⟩, ⟨_, Tryd.func19, by decide +kernel, rfl⟩, ⟨_, Tryd.func12, by decide +kernel, rfl⟩, ⟨_, Tryd.func20, by decide +kernel, rfl⟩, ⟨_, Tryd.func21, by decide +kernel, rfl⟩, ⟨_, Tryd.func5, by decide +kernel, rfl⟩, ⟨_, Tryd.func47, by decide +kernel, rfl⟩, ⟨_, Tryd.func22, by decide +kernel, rfl⟩, ⟨_, Tryd.func62, by decide +kernel, rfl⟩, ⟨_, Tryd.func63, by decide +kernel, rfl⟩, ⟨_, Tryd.func48, by decide +kernel, rfl⟩, ⟨_, Tryd.func23, by decide +kernel, rfl⟩, ⟨_, Tryd.func49, by decide +kernel, rfl⟩, ⟨_, Tryd.func24, by decide +kernel, rfl⟩, ⟨_, Tryd.func50, by decide +kernel, rfl⟩, ⟨_, Tryd.func25, by decide +kernel, rfl⟩, ⟨_, Tryd.func51, by decide +kernel, rfl⟩, ⟨_, Tryd.func26, by decide +kernel, rfl⟩, ⟨_, Tryd.func6, by decide +kernel, rfl⟩, ⟨_, Tryd.func57, by decide +kernel, rfl⟩, ⟨_, Tryd.func52, by decide +kernel, rfl⟩, ⟨_, Tryd.func27, by decide +kernel, rfl⟩, ⟨_, Tryd.func10, by decide +kernel, rfl⟩, ⟨_, Tryd.func54, by decide +kernel, rfl⟩, ⟨_, Tryd.func29, by decide +kernel, rfl⟩, ⟨_, Tryd.func36, by decide +kernel, rfl⟩, ⟨_, Tryd.func64, by decide +kernel, rfl⟩, ⟨_, Tryd.func53, by decide +kernel, rfl⟩, ⟨_, Tryd.func28, by decide +kernel, rfl⟩, ⟨_, Tryd.func42, by decide +kernel, rfl⟩, ⟨_, Tryd.func56, by decide +kernel, rfl⟩, ⟨_, Tryd.func38, by decide +kernel, rfl⟩, ⟨_, Tryd.func72, by decide +kernel, rfl⟩, ⟨_, Tryd.func65, by decide +kernel, rfl⟩, ⟨_, Tryd.func55, by decide +kernel, rfl⟩, ⟨_, Tryd.func30, by decide +kernel, rfl⟩, ⟨_, Tryd.func7, by decide +kernel, rfl⟩, ⟨_, Tryd.func31, by decide +kernel, rfl⟩, ⟨_, Tryd.func33, by decide +kernel, rfl⟩, ⟨_, Tryd.func32, by decide +kernel, rfl⟩, ⟨_, Tryd.func34, by decide +kernel, rfl⟩, ⟨_, Tryd.func35, by decide +kernel, rfl⟩, ⟨_, Tryd.func8, by decide +kernel, rfl⟩, ⟨_, Tryd.func9, by decide +kernel, rfl⟩, ⟨_, Tryd.func37, by decide +kernel, rfl⟩, ⟨_, Tryd.func11, by decide +kernel, rfl⟩, ⟨_, Tryd.func3, by decide +kernel, rfl⟩, ⟨_, Tryd.func39, by decide +kernel, rfl⟩, ⟨_, Tryd.func13, by decide +kernel, rfl⟩, ⟨_, Tryd.func41, by decide +kernel, rfl⟩, ⟨_, Tryd.func15, by decide +kernel, rfl⟩, ⟨_, Tryd.func14, by decide +kernel, rfl⟩, ⟨_, Tryd.func16, by decide +kernel, rfl⟩, ⟨_, Tryd.func43, by decide +kernel, rfl⟩, ⟨_, Tryd.func17, by decide +kernel, rfl⟩, ⟨_, Tryd.func4, by decide +kernel, rfl⟩, trivial⟩
theorem fnsOk_ : FnsOk E := fnsOk (by kernel_rfl) (by kernel_rfl)
end Go.Vm
