/- The tables of the program are as the reading takes them; no conditions. -/
import Derived.Test.YtjnckjfohpbdeaaA
import Derived.Test.YtjnckjfohpbdeaaVmD
import Derived.KernelRfl
namespace Go.Vm
open Go Go.Proofs
set_option linter.unusedVariables false
theorem ti3 : TiOk Try.prog 3 ⟨false, (.int .i64), 8⟩ := ⟨⟨Try.t3, by kernel_rfl, by kernel_rfl, by kernel_rfl, _, rfl, by kernel_rfl⟩, ⟨_, Try.underlying3, ⟨rfl, rfl⟩⟩⟩
theorem ti4 : TiOk Try.prog 4 ⟨false, .bool, 1⟩ := ⟨⟨Try.t4, by kernel_rfl, by kernel_rfl, by kernel_rfl, _, rfl, by kernel_rfl⟩, ⟨_, Try.underlying4, ⟨rfl, rfl⟩⟩⟩
theorem ti5 : TiOk Try.prog 5 ⟨false, (.int .u8), 1⟩ := ⟨⟨Try.t5, by kernel_rfl, by kernel_rfl, by kernel_rfl, _, rfl, by kernel_rfl⟩, ⟨_, Try.underlying5, ⟨rfl, rfl⟩⟩⟩
theorem ti9 : TiOk Try.prog 9 ⟨false, .str, 16⟩ := ⟨⟨Try.t9, by kernel_rfl, by kernel_rfl, by kernel_rfl, _, rfl, by kernel_rfl⟩, ⟨_, Try.underlying9, ⟨rfl, rfl⟩⟩⟩
theorem ti22 : TiOk Try.prog 22 ⟨false, (.row (.int .i64)), 24⟩ := ⟨⟨Try.t22, by kernel_rfl, by kernel_rfl, by kernel_rfl, _, rfl, by kernel_rfl⟩, ⟨_, Try.underlying22, ⟨rfl, _, rfl⟩⟩⟩
theorem ti29 : TiOk Try.prog 29 ⟨false, (.row (.int .u8)), 24⟩ := ⟨⟨Try.t29, by kernel_rfl, by kernel_rfl, by kernel_rfl, _, rfl, by kernel_rfl⟩, ⟨_, Try.underlying29, ⟨rfl, _, rfl⟩⟩⟩
theorem ti44 : TiOk Try.prog 44 ⟨true, (.pair (.row (.int .u8)) (.row (.int .u8))), 48⟩ := ⟨⟨Try.t44, by kernel_rfl, by kernel_rfl, by kernel_rfl, _, rfl, by kernel_rfl⟩, ⟨_, Try.underlying44, rfl⟩⟩
theorem ti46 : TiOk Try.prog 46 ⟨true, (.pair (.int .i64) (.pair (.int .i64) (.pair (.int .i64) (.pair (.int .i64) (.row (.int .u8)))))), 56⟩ := ⟨⟨Try.t46, by kernel_rfl, by kernel_rfl, by kernel_rfl, _, rfl, by kernel_rfl⟩, ⟨_, Try.underlying46, rfl⟩⟩
theorem ti49 : TiOk Try.prog 49 ⟨true, (.pair (.row (.int .u8)) (.row (.int .u8))), 48⟩ := ⟨⟨Try.t49, by kernel_rfl, by kernel_rfl, by kernel_rfl, _, rfl, by kernel_rfl⟩, ⟨_, Try.underlying49, rfl⟩⟩
theorem ti53 : TiOk Try.prog 53 ⟨true, (.pair (.int .i64) (.pair (.int .i64) (.pair (.int .i64) (.pair (.int .i64) (.row (.int .u8)))))), 56⟩ := ⟨⟨Try.t53, by kernel_rfl, by kernel_rfl, by kernel_rfl, _, rfl, by kernel_rfl⟩, ⟨_, Try.underlying53, rfl⟩⟩
theorem ti62 : TiOk Try.prog 62 ⟨false, (.row (.pair (.int .i64) (.pair (.int .i64) (.pair (.int .i64) (.pair (.int .i64) (.row (.int .u8))))))), 24⟩ := ⟨⟨Try.t62, by kernel_rfl, by kernel_rfl, by kernel_rfl, _, rfl, by kernel_rfl⟩, ⟨_, Try.underlying62, ⟨rfl, _, rfl⟩⟩⟩
theorem ti71 : TiOk Try.prog 71 ⟨true, (.pair (.int .i64) (.pair (.int .i64) (.row (.int .u8)))), 40⟩ := ⟨⟨Try.t71, by kernel_rfl, by kernel_rfl, by kernel_rfl, _, rfl, by kernel_rfl⟩, ⟨_, Try.underlying71, rfl⟩⟩
theorem ti101 : TiOk Try.prog 101 ⟨true, (.pair (.int .i64) (.pair (.int .i64) (.int .i64))), 24⟩ := ⟨⟨Try.t101, by kernel_rfl, by kernel_rfl, by kernel_rfl, _, rfl, by kernel_rfl⟩, ⟨_, Try.underlying101, rfl⟩⟩
theorem ti119 : TiOk Try.prog 119 ⟨true, (.pair (.int .i64) (.pair (.int .i64) (.pair (.row (.int .i64)) (.pair (.row (.int .i64)) (.int .i64))))), 72⟩ := ⟨⟨Try.t119, by kernel_rfl, by kernel_rfl, by kernel_rfl, _, rfl, by kernel_rfl⟩, ⟨_, Try.underlying119, rfl⟩⟩
theorem ti169 : TiOk Try.prog 169 ⟨false, (.int .u64), 8⟩ := ⟨⟨Try.t169, by kernel_rfl, by kernel_rfl, by kernel_rfl, _, rfl, by kernel_rfl⟩, ⟨_, Try.underlying169, ⟨rfl, rfl⟩⟩⟩
theorem ti171 : TiOk Try.prog 171 ⟨true, (.pair (.pair (.int .i64) (.pair (.int .i64) (.int .i64))) (.pair (.pair (.int .i64) (.pair (.int .i64) (.int .i64))) (.pair (.pair (.int .i64) (.pair (.int .i64) (.int .i64))) (.pair (.pair (.int .i64) (.pair (.int .i64) (.int .i64))) (.pair (.pair (.int .i64) (.pair (.int .i64) (.int .i64))) (.pair (.pair (.int .i64) (.pair (.int .i64) (.int .i64))) (.pair (.pair (.int .i64) (.pair (.int .i64) (.int .i64))) (.pair (.pair (.int .i64) (.pair (.int .i64) (.int .i64))) (.pair (.int .i64) (.pair (.int .i64) (.int .i64))))))))))), 216⟩ := ⟨⟨Try.t171, by kernel_rfl, by kernel_rfl, by kernel_rfl, _, rfl, by kernel_rfl⟩, ⟨_, Try.underlying171, rfl⟩⟩
theorem ti191 : TiOk Try.prog 191 ⟨false, (.int .u32), 4⟩ := ⟨⟨Try.t191, by kernel_rfl, by kernel_rfl, by kernel_rfl, _, rfl, by kernel_rfl⟩, ⟨_, Try.underlying191, ⟨rfl, rfl⟩⟩⟩
theorem ti193 : TiOk Try.prog 193 ⟨false, (.int .u64), 8⟩ := ⟨⟨Try.t193, by kernel_rfl, by kernel_rfl, by kernel_rfl, _, rfl, by kernel_rfl⟩, ⟨_, Try.underlying193, ⟨rfl, rfl⟩⟩⟩
theorem ptr172 : PtrOk Try.prog 172 := ⟨⟨Try.t172, _, by kernel_rfl, by kernel_rfl, rfl⟩, ⟨_, Try.underlying172⟩⟩
theorem fl44 : ∃ fs, Try.prog.underlying 44 = some (.struct fs) ∧ fldsOk Try.prog fs [(0, 29), (1, 29)] := ⟨_, Try.underlying44, by kernel_rfl, fun i o t h => by
    match i, h with
    | 0, h => cases h; exact ⟨_, Try.t29, rfl, rfl, rfl, by kernel_rfl, by decide, by decide⟩
    | 1, h => cases h; exact ⟨_, Try.t29, rfl, rfl, rfl, by kernel_rfl, by decide, by decide⟩
    | n + 2, h => exact absurd h (by simp)⟩
theorem fl46 : ∃ fs, Try.prog.underlying 46 = some (.struct fs) ∧ fldsOk Try.prog fs [(0, 3), (1, 3), (2, 3), (3, 3), (4, 29)] := ⟨_, Try.underlying46, by kernel_rfl, fun i o t h => by
    match i, h with
    | 0, h => cases h; exact ⟨_, Try.t3, rfl, rfl, rfl, by kernel_rfl, by decide, by decide⟩
    | 1, h => cases h; exact ⟨_, Try.t3, rfl, rfl, rfl, by kernel_rfl, by decide, by decide⟩
    | 2, h => cases h; exact ⟨_, Try.t3, rfl, rfl, rfl, by kernel_rfl, by decide, by decide⟩
    | 3, h => cases h; exact ⟨_, Try.t3, rfl, rfl, rfl, by kernel_rfl, by decide, by decide⟩
    | 4, h => cases h; exact ⟨_, Try.t29, rfl, rfl, rfl, by kernel_rfl, by decide, by decide⟩
    | n + 5, h => exact absurd h (by simp)⟩
theorem fl49 : ∃ fs, Try.prog.underlying 49 = some (.struct fs) ∧ fldsOk Try.prog fs [(0, 29), (1, 29)] := ⟨_, Try.underlying49, by kernel_rfl, fun i o t h => by
    match i, h with
    | 0, h => cases h; exact ⟨_, Try.t29, rfl, rfl, rfl, by kernel_rfl, by decide, by decide⟩
    | 1, h => cases h; exact ⟨_, Try.t29, rfl, rfl, rfl, by kernel_rfl, by decide, by decide⟩
    | n + 2, h => exact absurd h (by simp)⟩
theorem fl53 : ∃ fs, Try.prog.underlying 53 = some (.struct fs) ∧ fldsOk Try.prog fs [(0, 3), (1, 3), (2, 3), (3, 3), (4, 29)] := ⟨_, Try.underlying53, by kernel_rfl, fun i o t h => by
    match i, h with
    | 0, h => cases h; exact ⟨_, Try.t3, rfl, rfl, rfl, by kernel_rfl, by decide, by decide⟩
    | 1, h => cases h; exact ⟨_, Try.t3, rfl, rfl, rfl, by kernel_rfl, by decide, by decide⟩
    | 2, h => cases h; exact ⟨_, Try.t3, rfl, rfl, rfl, by kernel_rfl, by decide, by decide⟩
    | 3, h => cases h; exact ⟨_, Try.t3, rfl, rfl, rfl, by kernel_rfl, by decide, by decide⟩
    | 4, h => cases h; exact ⟨_, Try.t29, rfl, rfl, rfl, by kernel_rfl, by decide, by decide⟩
    | n + 5, h => exact absurd h (by simp)⟩
theorem fl71 : ∃ fs, Try.prog.underlying 71 = some (.struct fs) ∧ fldsOk Try.prog fs [(0, 3), (1, 3), (2, 29)] := ⟨_, Try.underlying71, by kernel_rfl, fun i o t h => by
    match i, h with
    | 0, h => cases h; exact ⟨_, Try.t3, rfl, rfl, rfl, by kernel_rfl, by decide, by decide⟩
    | 1, h => cases h; exact ⟨_, Try.t3, rfl, rfl, rfl, by kernel_rfl, by decide, by decide⟩
    | 2, h => cases h; exact ⟨_, Try.t29, rfl, rfl, rfl, by kernel_rfl, by decide, by decide⟩
    | n + 3, h => exact absurd h (by simp)⟩
theorem fl101 : ∃ fs, Try.prog.underlying 101 = some (.struct fs) ∧ fldsOk Try.prog fs [(0, 3), (1, 3), (2, 3)] := ⟨_, Try.underlying101, by kernel_rfl, fun i o t h => by
    match i, h with
    | 0, h => cases h; exact ⟨_, Try.t3, rfl, rfl, rfl, by kernel_rfl, by decide, by decide⟩
    | 1, h => cases h; exact ⟨_, Try.t3, rfl, rfl, rfl, by kernel_rfl, by decide, by decide⟩
    | 2, h => cases h; exact ⟨_, Try.t3, rfl, rfl, rfl, by kernel_rfl, by decide, by decide⟩
    | n + 3, h => exact absurd h (by simp)⟩
theorem fl119 : ∃ fs, Try.prog.underlying 119 = some (.struct fs) ∧ fldsOk Try.prog fs [(0, 3), (1, 3), (2, 22), (3, 22), (4, 3)] := ⟨_, Try.underlying119, by kernel_rfl, fun i o t h => by
    match i, h with
    | 0, h => cases h; exact ⟨_, Try.t3, rfl, rfl, rfl, by kernel_rfl, by decide, by decide⟩
    | 1, h => cases h; exact ⟨_, Try.t3, rfl, rfl, rfl, by kernel_rfl, by decide, by decide⟩
    | 2, h => cases h; exact ⟨_, Try.t22, rfl, rfl, rfl, by kernel_rfl, by decide, by decide⟩
    | 3, h => cases h; exact ⟨_, Try.t22, rfl, rfl, rfl, by kernel_rfl, by decide, by decide⟩
    | 4, h => cases h; exact ⟨_, Try.t3, rfl, rfl, rfl, by kernel_rfl, by decide, by decide⟩
    | n + 5, h => exact absurd h (by simp)⟩
theorem envOk : EnvOk E Try.prog where
  ti := AllP.get (Q := fun t ti => TiOk Try.prog t ti) (l := E.ti) ⟨ti3, ti4, ti5, ti9, ti22, ti29, ti44, ti46, ti49, ti53, ti62, ti71, ti101, ti119, ti169, ti171, ti191, ti193, trivial⟩
  el := AllP.get (Q := fun t e => Try.prog.underlying t = some (.slice e)) (l := E.el) ⟨Try.underlying22, Try.underlying29, Try.underlying62, trivial⟩
  fl := AllP.get (Q := fun t l => ∃ fs, Try.prog.underlying t = some (.struct fs) ∧ fldsOk Try.prog fs l) (l := E.fl) ⟨fl44, fl46, fl49, fl53, fl71, fl101, fl119, trivial⟩
  fn := AllP.get (Q := fun g fn => Try.prog.funcs[g]? = some fn ∧ fn.name ≠ "runtime.NumGoroutine") (l := E.fn) ⟨⟨Try.func85, by decide +kernel⟩, ⟨Try.func30, by decide +kernel⟩, ⟨Try.func31, by decide +kernel⟩, ⟨Try.func91, by decide +kernel⟩, ⟨Try.func33, by decide +kernel⟩, ⟨Try.func34, by decide +kernel⟩, ⟨Try.func86, by decide +kernel⟩, ⟨Try.func63, by decide +kernel⟩, ⟨Try.func137, by decide +kernel⟩, ⟨Try.func188, by decide +kernel⟩, ⟨Try.func146, by decide +kernel⟩, ⟨Try.func147, by decide +kernel⟩, ⟨Try.func118, by decide +kernel⟩, ⟨Try.func189, by decide +kernel⟩, ⟨Try.func128, by decide +kernel⟩, ⟨Try.func190, by decide +kernel⟩, ⟨Try.func148, by decide +kernel⟩, ⟨Try.func102, by decide +kernel⟩, ⟨Try.func149, by decide +kernel⟩, ⟨Try.func103, by decide +kernel⟩, ⟨Try.func49, by decide +kernel⟩, ⟨Try.func88, by decide +kernel⟩, ⟨Try.func87, by decide +kernel⟩, ⟨Try.func89, by decide +kernel⟩, ⟨Try.func178, by decide +kernel⟩, ⟨Try.func179, by decide +kernel⟩, ⟨Try.func180, by decide +kernel⟩, ⟨Try.func138, by decide +kernel⟩, ⟨Try.func90, by decide +kernel⟩, ⟨Try.func32, by decide +kernel⟩, ⟨Try.func92, by decide +kernel⟩, ⟨Try.func93, by decide +kernel⟩, ⟨Try.func153, by decide +kernel⟩, ⟨Try.func119, by decide +kernel⟩, ⟨Try.func206, by decide +kernel⟩, ⟨Try.func207, by decide +kernel⟩, ⟨Try.func181, by decide +kernel⟩, ⟨Try.func139, by decide +kernel⟩, ⟨Try.func208, by decide +kernel⟩, ⟨Try.func209, by decide +kernel⟩, ⟨Try.func182, by decide +kernel⟩, ⟨Try.func140, by decide +kernel⟩, ⟨Try.func94, by decide +kernel⟩, ⟨Try.func141, by decide +kernel⟩, ⟨Try.func154, by decide +kernel⟩, ⟨Try.func151, by decide +kernel⟩, ⟨Try.func152, by decide +kernel⟩, ⟨Try.func183, by decide +kernel⟩, ⟨Try.func142, by decide +kernel⟩, ⟨Try.func95, by decide +kernel⟩, ⟨Try.func35, by decide +kernel⟩, ⟨Try.func96, by decide +kernel⟩, ⟨Try.func36, by decide +kernel⟩, ⟨Try.func37, by decide +kernel⟩, ⟨Try.func97, by decide +kernel⟩, ⟨Try.func38, by decide +kernel⟩, ⟨Try.func39, by decide +kernel⟩, ⟨Try.func98, by decide +kernel⟩, ⟨Try.func40, by decide +kernel⟩, ⟨Try.func6, by decide +kernel⟩, ⟨Try.func185, by decide +kernel⟩, ⟨Try.func184, by decide +kernel⟩, ⟨Try.func143, by decide +kernel⟩, ⟨Try.func144, by decide +kernel⟩, ⟨Try.func99, by decide +kernel⟩, ⟨Try.func41, by decide +kernel⟩, ⟨Try.func150, by decide +kernel⟩, ⟨Try.func104, by decide +kernel⟩, ⟨Try.func105, by decide +kernel⟩, ⟨Try.func100, by decide +kernel⟩, ⟨Try.func42, by decide +kernel⟩, ⟨Try.func7, by decide +kernel⟩, trivial⟩
  mixed := by kernel_rfl
  ps := AllP.get (Q := fun t e => Try.prog.underlying t = some (.slice e) ∧ PtrOk Try.prog e) (l := E.ps) ⟨⟨Try.underlying173, ptr172⟩, trivial⟩
  pe := AllP.get (Q := fun e _ => PtrOk Try.prog e) (l := E.pe) ⟨ptr172, trivial⟩
  ar := AllP.get (Q := fun t p => Try.prog.underlying t = some (.array p.2 p.1)) (l := E.ar) ⟨Try.underlying171, trivial⟩
  guard := AllP.get (Q := fun t ti => ti.agg = true → Try.prog.eqGuardType Try.prog.depth t = false ∧ Try.prog.stoodInHeld t = false) (l := E.ti) ⟨fun h => absurd h (by decide), fun h => absurd h (by decide), fun h => absurd h (by decide), fun h => absurd h (by decide), fun h => absurd h (by decide), fun h => absurd h (by decide), fun _ => ⟨by kernel_rfl, by kernel_rfl⟩, fun _ => ⟨by kernel_rfl, by kernel_rfl⟩, fun _ => ⟨by kernel_rfl, by kernel_rfl⟩, fun _ => ⟨by kernel_rfl, by kernel_rfl⟩, fun h => absurd h (by decide), fun _ => ⟨by kernel_rfl, by kernel_rfl⟩, fun _ => ⟨by kernel_rfl, by kernel_rfl⟩, fun _ => ⟨by kernel_rfl, by kernel_rfl⟩, fun h => absurd h (by decide), fun _ => ⟨by kernel_rfl, by kernel_rfl⟩, fun h => absurd h (by decide), fun h => absurd h (by decide), trivial⟩
theorem sigOk : SigOk E Try.prog := AllP.get (Q := fun g _ => ∃ fn, Try.prog.funcs[g]? = some fn ∧ fn.name ≠ "runtime.NumGoroutine" ∧ fn.body.isSome = true) (l := E.sg) ⟨⟨_, Try.func85, by decide +kernel, rfl⟩, ⟨_, Try.func30, by decide +kernel, rfl⟩, ⟨_, Try.func31, by decide +kernel, rfl⟩, ⟨_, Try.func91, by decide +kernel, rfl⟩, ⟨_, Try.func33, by decide +kernel, rfl⟩, ⟨_, Try.func34, by decide +kernel, rfl⟩, ⟨_, Try.func86, by decide +kernel, rfl⟩, ⟨_, Try.func63, by decide +kernel, rfl⟩, ⟨_, Try.func137, by decide +kernel, rfl⟩, ⟨_, Try.func188, by decide +kernel, rfl⟩, ⟨_, Try.func146, by decide +kernel, rfl⟩, ⟨_, Try.func147, by decide +kernel, rfl⟩, ⟨_, Try.func118, by decide +kernel, rfl⟩, ⟨_, Try.func189, by decide +kernel, rfl⟩, ⟨_, Try.func128, by decide +kernel, rfl⟩, ⟨_, Try.func190, by decide +kernel, rfl⟩, ⟨_, Try.func148, by decide +kernel, rfl⟩, ⟨_, Try.func102, by decide +kernel, rfl⟩, ⟨_, Try.func149, by decide +kernel, rfl⟩, ⟨_, Try.func103, by decide +kernel, rfl⟩, ⟨_, Try.func49, by decide +kernel, rfl⟩, ⟨_, Try.func88, by decide +kernel, rfl⟩, ⟨_, Try.func87, by decide +kernel, rfl⟩, ⟨_, Try.func89, by decide +kernel, rfl⟩, ⟨_, Try.func178, by decide +kernel, rfl⟩, ⟨_, Try.func179, by decide +kernel, rfl⟩, ⟨_, Try.func180, by decide +kernel, rfl⟩, ⟨_, Try.func138, by decide +kernel, rfl⟩, ⟨_, Try.func90, by decide +kernel, rfl⟩, ⟨_, Try.func32, by decide +kernel, rfl⟩, ⟨_, Try.func92, by decide +kernel, rfl⟩, ⟨_, Try.func93, by decide +kernel, rfl⟩, ⟨_, Try.func153, by decide +kernel, rfl⟩, ⟨_, Try.func119, by decide +kernel, rfl⟩, ⟨_, Try.func206, by decide +kernel, rfl⟩, ⟨_, Try.func207, by decide +kernel, rfl⟩, ⟨_, Try.func181, by decide +kernel, rfl⟩, ⟨_, Try.func139, by decide +kernel, rfl⟩, ⟨_, Try.func208, by decide +kernel, rfl⟩, ⟨_, Try.func209, by decide +kernel, rfl⟩, ⟨_, Try.func182, by decide +kernel, rfl⟩, ⟨_, Try.func140, by decide +kernel, rfl⟩, ⟨_, Try.func94, by decide +kernel, rfl⟩, ⟨_, Try.func141, by decide +kernel, rfl⟩, ⟨_, Try.func154, by decide +kernel, rfl⟩, ⟨_, Try.func151, by decide +kernel, rfl⟩, ⟨_, Try.func152, by decide +kernel, rfl⟩, ⟨_, Try.func183, by decide +kernel, rfl⟩, ⟨_, Try.func142, by decide +kernel, rfl⟩, ⟨_, Try.func95, by decide +kernel, rfl⟩, ⟨_, Try.func35, by decide +kernel, rfl⟩, ⟨_, Try.func96, by decide +kernel, rfl⟩, ⟨_, Try.func36, by decide +kernel, rfl⟩, ⟨_, Try.func37, by decide +kernel, rfl⟩, ⟨_, Try.func97, by decide +kernel, rfl⟩, ⟨_, Try.func38, by decide +kernel, rfl⟩, ⟨_, Try.func39, by decide +kernel, rfl⟩, ⟨_, Try.func98, by decide +kernel, rfl⟩, ⟨_, Try.func40, by decide +kernel, rfl⟩, ⟨_, Try.func6, by decide +kernel, rfl⟩, ⟨_, Try.func185, by decide +kernel, rfl⟩, ⟨_, Try.func184, by decide +kernel, rfl⟩, ⟨_, Try.func143, by decide +kernel, rfl⟩, ⟨_, Try.func144, by decide +kernel, rfl⟩, ⟨_, Try.func99, by decide +kernel, rfl⟩, ⟨_, Try.func41, by decide +kernel, rfl⟩, ⟨_, Try.func150, by decide +kernel, rfl⟩, ⟨_, Try.func104, by decide +kernel, rfl⟩, ⟨_, Try.func105, by decide +kernel, rfl⟩, ⟨_, Try.func100, by decide +kernel, rfl⟩, ⟨_, Try.func42, by decide +kernel, rfl⟩, ⟨_, Try.func7, by decide +kernel, rfl⟩, trivial⟩
theorem fnsOk_ : FnsOk E := fnsOk (by kernel_rfl) (by kernel_rfl)
end Go.Vm
