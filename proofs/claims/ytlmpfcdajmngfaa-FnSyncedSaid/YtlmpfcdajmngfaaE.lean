import Derived.Test.YtlmpfcdajmngfaaA
import Derived.Test.YtlmpfcdajmngfaaVmD
import Derived.KernelRfl
namespace Go.Vm
open Go Go.Proofs
set_option linter.unusedVariables false
theorem ti3 : TiOk Try.prog 3 ⟨false, (.int .i64), 8⟩ := ⟨⟨Try.t3, by kernel_rfl, by kernel_rfl, by kernel_rfl, _, rfl, by kernel_rfl⟩, ⟨_, Try.underlying3, ⟨rfl, rfl⟩⟩⟩
theorem ti4 : TiOk Try.prog 4 ⟨false, .bool, 1⟩ := ⟨⟨Try.t4, by kernel_rfl, by kernel_rfl, by kernel_rfl, _, rfl, by kernel_rfl⟩, ⟨_, Try.underlying4, ⟨rfl, rfl⟩⟩⟩
theorem ti5 : TiOk Try.prog 5 ⟨false, (.int .u8), 1⟩ := ⟨⟨Try.t5, by kernel_rfl, by kernel_rfl, by kernel_rfl, _, rfl, by kernel_rfl⟩, ⟨_, Try.underlying5, ⟨rfl, rfl⟩⟩⟩
theorem ti9 : TiOk Try.prog 9 ⟨false, .str, 16⟩ := ⟨⟨Try.t9, by kernel_rfl, by kernel_rfl, by kernel_rfl, _, rfl, by kernel_rfl⟩, ⟨_, Try.underlying9, ⟨rfl, rfl⟩⟩⟩
theorem ti25 : TiOk Try.prog 25 ⟨false, (.row (.pair (.int .i64) (.pair (.int .i64) (.pair (.int .i64) (.pair (.int .i64) (.row (.int .u8))))))), 24⟩ := ⟨⟨Try.t25, by kernel_rfl, by kernel_rfl, by kernel_rfl, _, rfl, by kernel_rfl⟩, ⟨_, Try.underlying25, ⟨rfl, _, rfl⟩⟩⟩
theorem ti29 : TiOk Try.prog 29 ⟨false, (.row (.pair (.int .i64) (.pair (.int .i64) (.pair (.int .i64) (.row (.pair (.int .i64) (.int .i64))))))), 24⟩ := ⟨⟨Try.t29, by kernel_rfl, by kernel_rfl, by kernel_rfl, _, rfl, by kernel_rfl⟩, ⟨_, Try.underlying29, ⟨rfl, _, rfl⟩⟩⟩
theorem ti31 : TiOk Try.prog 31 ⟨true, (.pair (.row (.pair (.int .i64) (.pair (.int .i64) (.pair (.int .i64) (.row (.pair (.int .i64) (.int .i64))))))) (.pair (.int .i64) .bool)), 40⟩ := ⟨⟨Try.t31, by kernel_rfl, by kernel_rfl, by kernel_rfl, _, rfl, by kernel_rfl⟩, ⟨_, Try.underlying31, rfl⟩⟩
theorem ti44 : TiOk Try.prog 44 ⟨false, (.row (.int .u8)), 24⟩ := ⟨⟨Try.t44, by kernel_rfl, by kernel_rfl, by kernel_rfl, _, rfl, by kernel_rfl⟩, ⟨_, Try.underlying44, ⟨rfl, _, rfl⟩⟩⟩
theorem ti49 : TiOk Try.prog 49 ⟨true, (.pair (.int .i64) (.pair (.int .i64) (.pair (.int .i64) (.pair (.int .i64) (.row (.int .u8)))))), 56⟩ := ⟨⟨Try.t49, by kernel_rfl, by kernel_rfl, by kernel_rfl, _, rfl, by kernel_rfl⟩, ⟨_, Try.underlying49, rfl⟩⟩
theorem ti52 : TiOk Try.prog 52 ⟨true, (.pair (.row (.int .u8)) (.row (.int .u8))), 48⟩ := ⟨⟨Try.t52, by kernel_rfl, by kernel_rfl, by kernel_rfl, _, rfl, by kernel_rfl⟩, ⟨_, Try.underlying52, rfl⟩⟩
theorem ti61 : TiOk Try.prog 61 ⟨false, (.row (.int .i64)), 24⟩ := ⟨⟨Try.t61, by kernel_rfl, by kernel_rfl, by kernel_rfl, _, rfl, by kernel_rfl⟩, ⟨_, Try.underlying61, ⟨rfl, _, rfl⟩⟩⟩
theorem ti82 : TiOk Try.prog 82 ⟨false, (.row (.pair (.int .i64) (.int .i64))), 24⟩ := ⟨⟨Try.t82, by kernel_rfl, by kernel_rfl, by kernel_rfl, _, rfl, by kernel_rfl⟩, ⟨_, Try.underlying82, ⟨rfl, _, rfl⟩⟩⟩
theorem ti84 : TiOk Try.prog 84 ⟨true, (.row (.pair (.int .i64) (.int .i64))), 24⟩ := ⟨⟨Try.t84, by kernel_rfl, by kernel_rfl, by kernel_rfl, _, rfl, by kernel_rfl⟩, ⟨_, Try.underlying84, rfl⟩⟩
theorem ti86 : TiOk Try.prog 86 ⟨true, (.pair (.int .i64) (.pair (.int .i64) (.pair (.int .i64) (.row (.pair (.int .i64) (.int .i64)))))), 48⟩ := ⟨⟨Try.t86, by kernel_rfl, by kernel_rfl, by kernel_rfl, _, rfl, by kernel_rfl⟩, ⟨_, Try.underlying86, rfl⟩⟩
theorem ti88 : TiOk Try.prog 88 ⟨true, (.pair (.int .i64) (.int .i64)), 16⟩ := ⟨⟨Try.t88, by kernel_rfl, by kernel_rfl, by kernel_rfl, _, rfl, by kernel_rfl⟩, ⟨_, Try.underlying88, rfl⟩⟩
theorem ti91 : TiOk Try.prog 91 ⟨true, (.pair (.int .i64) (.pair (.int .i64) (.pair (.row (.int .i64)) (.pair (.row (.int .i64)) (.int .i64))))), 72⟩ := ⟨⟨Try.t91, by kernel_rfl, by kernel_rfl, by kernel_rfl, _, rfl, by kernel_rfl⟩, ⟨_, Try.underlying91, rfl⟩⟩
theorem ti112 : TiOk Try.prog 112 ⟨true, (.pair (.int .i64) (.pair (.int .i64) (.int .i64))), 24⟩ := ⟨⟨Try.t112, by kernel_rfl, by kernel_rfl, by kernel_rfl, _, rfl, by kernel_rfl⟩, ⟨_, Try.underlying112, rfl⟩⟩
theorem ti141 : TiOk Try.prog 141 ⟨true, (.pair (.int .i64) (.pair (.int .i64) (.row (.int .u8)))), 40⟩ := ⟨⟨Try.t141, by kernel_rfl, by kernel_rfl, by kernel_rfl, _, rfl, by kernel_rfl⟩, ⟨_, Try.underlying141, rfl⟩⟩
theorem ti148 : TiOk Try.prog 148 ⟨true, (.pair (.row (.int .u8)) (.pair (.int .i64) (.int .i64))), 40⟩ := ⟨⟨Try.t148, by kernel_rfl, by kernel_rfl, by kernel_rfl, _, rfl, by kernel_rfl⟩, ⟨_, Try.underlying148, rfl⟩⟩
theorem ti173 : TiOk Try.prog 173 ⟨false, (.int .u64), 8⟩ := ⟨⟨Try.t173, by kernel_rfl, by kernel_rfl, by kernel_rfl, _, rfl, by kernel_rfl⟩, ⟨_, Try.underlying173, ⟨rfl, rfl⟩⟩⟩
theorem ti184 : TiOk Try.prog 184 ⟨true, (.pair (.pair (.int .i64) (.pair (.int .i64) (.int .i64))) (.pair (.pair (.int .i64) (.pair (.int .i64) (.int .i64))) (.pair (.pair (.int .i64) (.pair (.int .i64) (.int .i64))) (.pair (.pair (.int .i64) (.pair (.int .i64) (.int .i64))) (.pair (.pair (.int .i64) (.pair (.int .i64) (.int .i64))) (.pair (.pair (.int .i64) (.pair (.int .i64) (.int .i64))) (.pair (.pair (.int .i64) (.pair (.int .i64) (.int .i64))) (.pair (.pair (.int .i64) (.pair (.int .i64) (.int .i64))) (.pair (.int .i64) (.pair (.int .i64) (.int .i64))))))))))), 216⟩ := ⟨⟨Try.t184, by kernel_rfl, by kernel_rfl, by kernel_rfl, _, rfl, by kernel_rfl⟩, ⟨_, Try.underlying184, rfl⟩⟩
theorem ti200 : TiOk Try.prog 200 ⟨false, (.int .u32), 4⟩ := ⟨⟨Try.t200, by kernel_rfl, by kernel_rfl, by kernel_rfl, _, rfl, by kernel_rfl⟩, ⟨_, Try.underlying200, ⟨rfl, rfl⟩⟩⟩
theorem ti202 : TiOk Try.prog 202 ⟨false, (.int .u64), 8⟩ := ⟨⟨Try.t202, by kernel_rfl, by kernel_rfl, by kernel_rfl, _, rfl, by kernel_rfl⟩, ⟨_, Try.underlying202, ⟨rfl, rfl⟩⟩⟩
theorem ptr133 : PtrOk Try.prog 133 := ⟨⟨Try.t133, _, by kernel_rfl, by kernel_rfl, rfl⟩, ⟨_, Try.underlying133⟩⟩
theorem fl31 : ∃ fs, Try.prog.underlying 31 = some (.struct fs) ∧ fldsOk Try.prog fs [(0, 29), (1, 3), (2, 4)] := ⟨_, Try.underlying31, by kernel_rfl, fun i o t h => by
    match i, h with
    | 0, h => cases h; exact ⟨_, Try.t29, rfl, rfl, rfl, by kernel_rfl, by decide, by decide⟩
    | 1, h => cases h; exact ⟨_, Try.t3, rfl, rfl, rfl, by kernel_rfl, by decide, by decide⟩
    | 2, h => cases h; exact ⟨_, Try.t4, rfl, rfl, rfl, by kernel_rfl, by decide, by decide⟩
    | n + 3, h => exact absurd h (by simp)⟩
theorem fl49 : ∃ fs, Try.prog.underlying 49 = some (.struct fs) ∧ fldsOk Try.prog fs [(0, 3), (1, 3), (2, 3), (3, 3), (4, 44)] := ⟨_, Try.underlying49, by kernel_rfl, fun i o t h => by
    match i, h with
    | 0, h => cases h; exact ⟨_, Try.t3, rfl, rfl, rfl, by kernel_rfl, by decide, by decide⟩
    | 1, h => cases h; exact ⟨_, Try.t3, rfl, rfl, rfl, by kernel_rfl, by decide, by decide⟩
    | 2, h => cases h; exact ⟨_, Try.t3, rfl, rfl, rfl, by kernel_rfl, by decide, by decide⟩
    | 3, h => cases h; exact ⟨_, Try.t3, rfl, rfl, rfl, by kernel_rfl, by decide, by decide⟩
    | 4, h => cases h; exact ⟨_, Try.t44, rfl, rfl, rfl, by kernel_rfl, by decide, by decide⟩
    | n + 5, h => exact absurd h (by simp)⟩
theorem fl52 : ∃ fs, Try.prog.underlying 52 = some (.struct fs) ∧ fldsOk Try.prog fs [(0, 44), (1, 44)] := ⟨_, Try.underlying52, by kernel_rfl, fun i o t h => by
    match i, h with
    | 0, h => cases h; exact ⟨_, Try.t44, rfl, rfl, rfl, by kernel_rfl, by decide, by decide⟩
    | 1, h => cases h; exact ⟨_, Try.t44, rfl, rfl, rfl, by kernel_rfl, by decide, by decide⟩
    | n + 2, h => exact absurd h (by simp)⟩
theorem fl84 : ∃ fs, Try.prog.underlying 84 = some (.struct fs) ∧ fldsOk Try.prog fs [(0, 82)] := ⟨_, Try.underlying84, by kernel_rfl, fun i o t h => by
    match i, h with
    | 0, h => cases h; exact ⟨_, Try.t82, rfl, rfl, rfl, by kernel_rfl, by decide, by decide⟩
    | n + 1, h => exact absurd h (by simp)⟩
theorem fl86 : ∃ fs, Try.prog.underlying 86 = some (.struct fs) ∧ fldsOk Try.prog fs [(0, 3), (1, 3), (2, 3), (3, 84)] := ⟨_, Try.underlying86, by kernel_rfl, fun i o t h => by
    match i, h with
    | 0, h => cases h; exact ⟨_, Try.t3, rfl, rfl, rfl, by kernel_rfl, by decide, by decide⟩
    | 1, h => cases h; exact ⟨_, Try.t3, rfl, rfl, rfl, by kernel_rfl, by decide, by decide⟩
    | 2, h => cases h; exact ⟨_, Try.t3, rfl, rfl, rfl, by kernel_rfl, by decide, by decide⟩
    | 3, h => cases h; exact ⟨_, Try.t84, rfl, rfl, rfl, by kernel_rfl, by decide, by decide⟩
    | n + 4, h => exact absurd h (by simp)⟩
theorem fl88 : ∃ fs, Try.prog.underlying 88 = some (.struct fs) ∧ fldsOk Try.prog fs [(0, 3), (1, 3)] := ⟨_, Try.underlying88, by kernel_rfl, fun i o t h => by
    match i, h with
    | 0, h => cases h; exact ⟨_, Try.t3, rfl, rfl, rfl, by kernel_rfl, by decide, by decide⟩
    | 1, h => cases h; exact ⟨_, Try.t3, rfl, rfl, rfl, by kernel_rfl, by decide, by decide⟩
    | n + 2, h => exact absurd h (by simp)⟩
theorem fl91 : ∃ fs, Try.prog.underlying 91 = some (.struct fs) ∧ fldsOk Try.prog fs [(0, 3), (1, 3), (2, 61), (3, 61), (4, 3)] := ⟨_, Try.underlying91, by kernel_rfl, fun i o t h => by
    match i, h with
    | 0, h => cases h; exact ⟨_, Try.t3, rfl, rfl, rfl, by kernel_rfl, by decide, by decide⟩
    | 1, h => cases h; exact ⟨_, Try.t3, rfl, rfl, rfl, by kernel_rfl, by decide, by decide⟩
    | 2, h => cases h; exact ⟨_, Try.t61, rfl, rfl, rfl, by kernel_rfl, by decide, by decide⟩
    | 3, h => cases h; exact ⟨_, Try.t61, rfl, rfl, rfl, by kernel_rfl, by decide, by decide⟩
    | 4, h => cases h; exact ⟨_, Try.t3, rfl, rfl, rfl, by kernel_rfl, by decide, by decide⟩
    | n + 5, h => exact absurd h (by simp)⟩
theorem fl112 : ∃ fs, Try.prog.underlying 112 = some (.struct fs) ∧ fldsOk Try.prog fs [(0, 3), (1, 3), (2, 3)] := ⟨_, Try.underlying112, by kernel_rfl, fun i o t h => by
    match i, h with
    | 0, h => cases h; exact ⟨_, Try.t3, rfl, rfl, rfl, by kernel_rfl, by decide, by decide⟩
    | 1, h => cases h; exact ⟨_, Try.t3, rfl, rfl, rfl, by kernel_rfl, by decide, by decide⟩
    | 2, h => cases h; exact ⟨_, Try.t3, rfl, rfl, rfl, by kernel_rfl, by decide, by decide⟩
    | n + 3, h => exact absurd h (by simp)⟩
theorem fl141 : ∃ fs, Try.prog.underlying 141 = some (.struct fs) ∧ fldsOk Try.prog fs [(0, 3), (1, 3), (2, 44)] := ⟨_, Try.underlying141, by kernel_rfl, fun i o t h => by
    match i, h with
    | 0, h => cases h; exact ⟨_, Try.t3, rfl, rfl, rfl, by kernel_rfl, by decide, by decide⟩
    | 1, h => cases h; exact ⟨_, Try.t3, rfl, rfl, rfl, by kernel_rfl, by decide, by decide⟩
    | 2, h => cases h; exact ⟨_, Try.t44, rfl, rfl, rfl, by kernel_rfl, by decide, by decide⟩
    | n + 3, h => exact absurd h (by simp)⟩
theorem fl148 : ∃ fs, Try.prog.underlying 148 = some (.struct fs) ∧ fldsOk Try.prog fs [(0, 44), (1, 3), (2, 3)] := ⟨_, Try.underlying148, by kernel_rfl, fun i o t h => by
    match i, h with
    | 0, h => cases h; exact ⟨_, Try.t44, rfl, rfl, rfl, by kernel_rfl, by decide, by decide⟩
    | 1, h => cases h; exact ⟨_, Try.t3, rfl, rfl, rfl, by kernel_rfl, by decide, by decide⟩
    | 2, h => cases h; exact ⟨_, Try.t3, rfl, rfl, rfl, by kernel_rfl, by decide, by decide⟩
    | n + 3, h => exact absurd h (by simp)⟩
theorem envOk : EnvOk E Try.prog where
  ti := AllP.get (Q := fun t ti => TiOk Try.prog t ti) (l := E.ti) ⟨ti3, ti4, ti5, ti9, ti25, ti29, ti31, ti44, ti49, ti52, ti61, ti82, ti84, ti86, ti88, ti91, ti112, ti141, ti148, ti173, ti184, ti200, ti202, trivial⟩
  el := AllP.get (Q := fun t e => Try.prog.underlying t = some (.slice e)) (l := E.el) ⟨Try.underlying25, Try.underlying29, Try.underlying44, Try.underlying61, Try.underlying82, trivial⟩
  fl := AllP.get (Q := fun t l => ∃ fs, Try.prog.underlying t = some (.struct fs) ∧ fldsOk Try.prog fs l) (l := E.fl) ⟨fl31, fl49, fl52, fl84, fl86, fl88, fl91, fl112, fl141, fl148, trivial⟩
  fn := AllP.get (Q := fun g fn => Try.prog.funcs[g]? = some fn ∧ fn.name ≠ "runtime.NumGoroutine") (l := E.fn) ⟨⟨Try.func28, by decide +kernel⟩, ⟨Try.func75, by decide +kernel⟩, ⟨Try.func113, by decide +kernel⟩, ⟨Try.func166, by decide +kernel⟩, ⟨Try.func112, by decide +kernel⟩, ⟨Try.func121, by decide +kernel⟩, ⟨Try.func123, by decide +kernel⟩, ⟨Try.func122, by decide +kernel⟩, ⟨Try.func178, by decide +kernel⟩, ⟨Try.func120, by decide +kernel⟩, ⟨Try.func140, by decide +kernel⟩, ⟨Try.func199, by decide +kernel⟩, ⟨Try.func207, by decide +kernel⟩, ⟨Try.func208, by decide +kernel⟩, ⟨Try.func133, by decide +kernel⟩, ⟨Try.func177, by decide +kernel⟩, ⟨Try.func173, by decide +kernel⟩, ⟨Try.func67, by decide +kernel⟩, ⟨Try.func78, by decide +kernel⟩, ⟨Try.func85, by decide +kernel⟩, ⟨Try.func215, by decide +kernel⟩, ⟨Try.func39, by decide +kernel⟩, ⟨Try.func179, by decide +kernel⟩, ⟨Try.func182, by decide +kernel⟩, ⟨Try.func134, by decide +kernel⟩, ⟨Try.func180, by decide +kernel⟩, ⟨Try.func216, by decide +kernel⟩, ⟨Try.func214, by decide +kernel⟩, ⟨Try.func209, by decide +kernel⟩, ⟨Try.func210, by decide +kernel⟩, ⟨Try.func197, by decide +kernel⟩, ⟨Try.func159, by decide +kernel⟩, ⟨Try.func160, by decide +kernel⟩, ⟨Try.func106, by decide +kernel⟩, ⟨Try.func114, by decide +kernel⟩, ⟨Try.func68, by decide +kernel⟩, ⟨Try.func158, by decide +kernel⟩, ⟨Try.func57, by decide +kernel⟩, ⟨Try.func211, by decide +kernel⟩, ⟨Try.func212, by decide +kernel⟩, ⟨Try.func198, by decide +kernel⟩, ⟨Try.func164, by decide +kernel⟩, ⟨Try.func165, by decide +kernel⟩, ⟨Try.func157, by decide +kernel⟩, ⟨Try.func104, by decide +kernel⟩, ⟨Try.func105, by decide +kernel⟩, ⟨Try.func59, by decide +kernel⟩, ⟨Try.func30, by decide +kernel⟩, ⟨Try.func205, by decide +kernel⟩, ⟨Try.func195, by decide +kernel⟩, ⟨Try.func193, by decide +kernel⟩, ⟨Try.func151, by decide +kernel⟩, ⟨Try.func152, by decide +kernel⟩, ⟨Try.func194, by decide +kernel⟩, ⟨Try.func153, by decide +kernel⟩, ⟨Try.func97, by decide +kernel⟩, ⟨Try.func154, by decide +kernel⟩, ⟨Try.func98, by decide +kernel⟩, ⟨Try.func155, by decide +kernel⟩, ⟨Try.func99, by decide +kernel⟩, ⟨Try.func100, by decide +kernel⟩, ⟨Try.func52, by decide +kernel⟩, ⟨Try.func111, by decide +kernel⟩, ⟨Try.func66, by decide +kernel⟩, ⟨Try.func29, by decide +kernel⟩, ⟨Try.func31, by decide +kernel⟩, ⟨Try.func70, by decide +kernel⟩, ⟨Try.func71, by decide +kernel⟩, ⟨Try.func33, by decide +kernel⟩, ⟨Try.func108, by decide +kernel⟩, ⟨Try.func124, by decide +kernel⟩, ⟨Try.func161, by decide +kernel⟩, ⟨Try.func162, by decide +kernel⟩, ⟨Try.func109, by decide +kernel⟩, ⟨Try.func62, by decide +kernel⟩, ⟨Try.func201, by decide +kernel⟩, ⟨Try.func202, by decide +kernel⟩, ⟨Try.func183, by decide +kernel⟩, ⟨Try.func142, by decide +kernel⟩, ⟨Try.func91, by decide +kernel⟩, ⟨Try.func167, by decide +kernel⟩, ⟨Try.func172, by decide +kernel⟩, ⟨Try.func170, by decide +kernel⟩, ⟨Try.func171, by decide +kernel⟩, ⟨Try.func200, by decide +kernel⟩, ⟨Try.func168, by decide +kernel⟩, ⟨Try.func115, by decide +kernel⟩, ⟨Try.func69, by decide +kernel⟩, ⟨Try.func32, by decide +kernel⟩, ⟨Try.func34, by decide +kernel⟩, ⟨Try.func169, by decide +kernel⟩, ⟨Try.func116, by decide +kernel⟩, ⟨Try.func117, by decide +kernel⟩, ⟨Try.func72, by decide +kernel⟩, ⟨Try.func35, by decide +kernel⟩, ⟨Try.func73, by decide +kernel⟩, ⟨Try.func36, by decide +kernel⟩, ⟨Try.func37, by decide +kernel⟩, ⟨Try.func7, by decide +kernel⟩, trivial⟩
  mixed := by kernel_rfl
  ps := AllP.get (Q := fun t e => Try.prog.underlying t = some (.slice e) ∧ PtrOk Try.prog e) (l := E.ps) ⟨⟨Try.underlying134, ptr133⟩, trivial⟩
  pe := AllP.get (Q := fun e _ => PtrOk Try.prog e) (l := E.pe) ⟨ptr133, trivial⟩
  ar := AllP.get (Q := fun t p => Try.prog.underlying t = some (.array p.2 p.1)) (l := E.ar) ⟨Try.underlying184, trivial⟩
  guard := AllP.get (Q := fun t ti => ti.agg = true → Try.prog.eqGuardType Try.prog.depth t = false ∧ Try.prog.stoodInHeld t = false) (l := E.ti) ⟨fun h => absurd h (by decide), fun h => absurd h (by decide), fun h => absurd h (by decide), fun h => absurd h (by decide), fun h => absurd h (by decide), fun h => absurd h (by decide), fun _ => ⟨by kernel_rfl, by kernel_rfl⟩, fun h => absurd h (by decide), fun _ => ⟨by kernel_rfl, by kernel_rfl⟩, fun _ => ⟨by kernel_rfl, by kernel_rfl⟩, fun h => absurd h (by decide), fun h => absurd h (by decide), fun _ => ⟨by kernel_rfl, by kernel_rfl⟩, fun _ => ⟨by kernel_rfl, by kernel_rfl⟩, fun _ => ⟨by kernel_rfl, by kernel_rfl⟩, fun _ => ⟨by kernel_rfl, by kernel_rfl⟩, fun _ => ⟨by kernel_rfl, by kernel_rfl⟩, fun _ => ⟨by kernel_rfl, by kernel_rfl⟩, fun _ => ⟨by kernel_rfl, by kernel_rfl⟩, fun h => absurd h (by decide), fun _ => ⟨by kernel_rfl, by kernel_rfl⟩, fun h => absurd h (by decide), fun h => absurd h (by decide), trivial⟩
theorem sigOk : SigOk E Try.prog := AllP.get (Q := fun g _ => ∃ fn, Try.prog.funcs[g]? = some fn ∧ fn.name ≠ "runtime.NumGoroutine" ∧ fn.body.isSome = true) (l := E.sg) ⟨⟨_, Try.func28, by decide +kernel, rfl⟩, ⟨_, Try.func75, by decide +kernel, rfl⟩, ⟨_, Try.func113, by decide +kernel, rfl⟩, ⟨_, Try.func166, by decide +kernel, rfl⟩, ⟨_, Try.func112, by decide +kernel, rfl⟩, ⟨_, Try.func121, by decide +kernel, rfl⟩, ⟨_, Try.func123, by decide +kernel, rfl⟩, ⟨_, Try.func122, by decide +kernel, rfl⟩, ⟨_, Try.func178, by decide +kernel, rfl⟩, ⟨_, Try.func120, by decide +kernel, rfl⟩, ⟨_, Try.func140, by decide +kernel, rfl⟩, ⟨_, Try.func199, by decide +kernel, rfl⟩, ⟨_, Try.func207, by decide +kernel, rfl⟩, ⟨_, Try.func208, by decide +kernel, rfl⟩, ⟨_, Try.func133, by decide +kernel, rfl⟩, ⟨_, Try.func177, by decide +kernel, rfl⟩, ⟨_, Try.func173, by decide +kernel, rfl⟩, ⟨_, Try.func67, by decide +kernel, rfl⟩, ⟨_, Try.func78, by decide +kernel, rfl⟩, ⟨_, Try.func85, by decide +kernel, rfl⟩, ⟨_, Try.func215, by decide +kernel, rfl⟩, ⟨_, Try.func39, by decide +kernel, rfl⟩, ⟨_, Try.func179, by decide +kernel, rfl⟩, ⟨_, Try.func182, by decide +kernel, rfl⟩, ⟨_, Try.func134, by decide +kernel, rfl⟩, ⟨_, Try.func180, by decide +kernel, rfl⟩, ⟨_, Try.func216, by decide +kernel, rfl⟩, ⟨_, Try.func214, by decide +kernel, rfl⟩, ⟨_, Try.func209, by decide +kernel, rfl⟩, ⟨_, Try.func210, by decide +kernel, rfl⟩, ⟨_, Try.func197, by decide +kernel, rfl⟩, ⟨_, Try.func159, by decide +kernel, rfl⟩, ⟨_, Try.func160, by decide +kernel, rfl⟩, ⟨_, Try.func106, by decide +kernel, rfl⟩, ⟨_, Try.func114, by decide +kernel, rfl⟩, ⟨_, Try.func68, by decide +kernel, rfl⟩, ⟨_, Try.func158, by decide +kernel, rfl⟩, ⟨_, Try.func57, by decide +kernel, rfl⟩, ⟨_, Try.func211, by decide +kernel, rfl⟩, ⟨_, Try.func212, by decide +kernel, rfl⟩, ⟨_, Try.func198, by decide +kernel, rfl⟩, ⟨_, Try.func164, by decide +kernel, rfl⟩, ⟨_, Try.func165, by decide +kernel, rfl⟩, ⟨_, Try.func157, by decide +kernel, rfl⟩, ⟨_, Try.func104, by decide +kernel, rfl⟩, ⟨_, Try.func105, by decide +kernel, rfl⟩, ⟨_, Try.func59, by decide +kernel, rfl⟩, ⟨_, Try.func30, by decide +kernel, rfl⟩, ⟨_, Try.func205, by decide +kernel, rfl⟩, ⟨_, Try.func195, by decide +kernel, rfl⟩, ⟨_, Try.func193, by decide +kernel, rfl⟩, ⟨_, Try.func151, by decide +kernel, rfl⟩, ⟨_, Try.func152, by decide +kernel, rfl⟩, ⟨_, Try.func194, by decide +kernel, rfl⟩, ⟨_, Try.func153, by decide +kernel, rfl⟩, ⟨_, Try.func97, by decide +kernel, rfl⟩, ⟨_, Try.func154, by decide +kernel, rfl⟩, ⟨_, Try.func98, by decide +kernel, rfl⟩, ⟨_, Try.func155, by decide +kernel, rfl⟩, ⟨_, Try.func99, by decide +kernel, rfl⟩, ⟨_, Try.func100, by decide +kernel, rfl⟩, ⟨_, Try.func52, by decide +kernel, rfl⟩, ⟨_, Try.func111, by decide +kernel, rfl⟩, ⟨_, Try.func66, by decide +kernel, rfl⟩, ⟨_, Try.func29, by decide +kernel, rfl⟩, ⟨_, Try.func31, by decide +kernel, rfl⟩, ⟨_, Try.func70, by decide +kernel, rfl⟩, ⟨_, Try.func71, by decide +kernel, rfl⟩, ⟨_, Try.func33, by decide +kernel, rfl⟩, ⟨_, Try.func108, by decide +kernel, rfl⟩, ⟨_, Try.func124, by decide +kernel, rfl⟩, ⟨_, Try.func161, by decide +kernel, rfl⟩, ⟨_, Try.func162, by decide +kernel, rfl⟩, ⟨_, Try.func109, by decide +kernel, rfl⟩, ⟨_, Try.func62, by decide +kernel, rfl⟩, ⟨_, Try.func201, by decide +kernel, rfl⟩, ⟨_, Try.func202, by decide +kernel, rfl⟩, ⟨_, Try.func183, by decide +kernel, rfl⟩, ⟨_, Try.func142, by decide +kernel, rfl⟩, ⟨_, Try.func91, by decide +kernel, rfl⟩, ⟨_, Try.func167, by decide +kernel, rfl⟩, ⟨_, Try.func172, by decide +kernel, rfl⟩, ⟨_, Try.func170, by decide +kernel, rfl⟩, ⟨_, Try.func171, by decide +kernel, rfl⟩, ⟨_, Try.func200, by decide +kernel, rfl⟩, ⟨_, Try.func168, by decide +kernel, rfl⟩, ⟨_, Try.func115, by decide +kernel, rfl⟩, ⟨_, Try.func69, by decide +kernel, rfl⟩, ⟨_, Try.func32, by decide +kernel, rfl⟩, ⟨_, Try.func34, by decide +kernel, rfl⟩, ⟨_, Try.func169, by decide +kernel, rfl⟩, ⟨_, Try.func116, by decide +kernel, rfl⟩, ⟨_, Try.func117, by decide +kernel, rfl⟩, ⟨_, Try.func72, by decide +kernel, rfl⟩, ⟨_, Try.func35, by decide +kernel, rfl⟩, ⟨_, Try.func73, by decide +kernel, rfl⟩, ⟨_, Try.func36, by decide +kernel, rfl⟩, ⟨_, Try.func37, by decide +kernel, rfl⟩, ⟨_, Try.func7, by decide +kernel, rfl⟩, trivial⟩
theorem fnsOk_ : FnsOk E := fnsOk (by kernel_rfl) (by kernel_rfl)
end Go.Vm
