/- The reading of the program's code without its memory: shapes, operations, code, functions; no statement is proved here. -/
import Derived.Calls
import Derived.Tactics
import Derived.Orders
import Derived.Below
import Derived.Deep.LoopGhost
namespace Go.Vm
set_option linter.unusedVariables false
set_option linter.unusedSimpArgs false
open Go
/-- Types of data: numbers, bools, strings, rows, pairs (structs, field by field). -/
inductive Ty where
  | int (k : IntKind) | bool | str | row (el : Ty) | pair (a b : Ty)
  deriving Inhabited
@[reducible] def Ty.D : Ty → Type
  | .int _ => Int
  | .bool => Bool
  | .str => ByteArray
  | .row el => List el.D
  | .pair a b => a.D × b.D
def Ty.sz : Ty → Nat
  | .pair a b => a.sz + b.sz
  | _ => 1
/-- No rows inside. -/
def Ty.flat : Ty → Bool
  | .row _ => false
  | .pair a b => a.flat && b.flat
  | _ => true
def Ty.dflt : (t : Ty) → t.D
  | .int _ => (0 : Int)
  | .bool => false
  | .str => ByteArray.empty
  | .row _ => []
  | .pair a b => (a.dflt, b.dflt)
def kindNo : IntKind → Nat
  | .i8 => 0 | .i16 => 1 | .i32 => 2 | .i64 => 3 | .u8 => 4 | .u16 => 5 | .u32 => 6 | .u64 => 7
theorem kindNo_inj {a b : IntKind} (h : kindNo a = kindNo b) : a = b := by cases a <;> cases b <;> first | rfl | exact absurd h (by decide)
def kindEq (a b : IntKind) : Bool := Nat.beq (kindNo a) (kindNo b)
theorem kindEq_eq {a b : IntKind} (h : kindEq a b = true) : a = b := kindNo_inj (Nat.eq_of_beq_eq_true h)
theorem kindEq_self (a : IntKind) : kindEq a a = true := by cases a <;> rfl
def Ty.beq : Ty → Ty → Bool
  | .int a, .int b => kindEq a b
  | .bool, .bool => true
  | .str, .str => true
  | .row a, .row b => a.beq b
  | .pair a b, .pair c d => a.beq c && b.beq d
  | _, _ => false
theorem Ty.beq_eq : ∀ {a b : Ty}, a.beq b = true → a = b
  | .int a, .int b, h => by rw [kindEq_eq h]
  | .bool, .bool, _ => rfl
  | .str, .str, _ => rfl
  | .row a, .row b, h => by rw [Ty.beq_eq (a := a) (b := b) h]
  | .pair a b, .pair c d, h => by
    simp only [Ty.beq, Bool.and_eq_true] at h
    rw [Ty.beq_eq h.1, Ty.beq_eq h.2]
  | .int _, .bool, h | .int _, .str, h | .int _, .row _, h | .int _, .pair _ _, h => by simp [Ty.beq] at h
  | .bool, .int _, h | .bool, .str, h | .bool, .row _, h | .bool, .pair _ _, h => by simp [Ty.beq] at h
  | .str, .int _, h | .str, .bool, h | .str, .row _, h | .str, .pair _ _, h => by simp [Ty.beq] at h
  | .row _, .int _, h | .row _, .bool, h | .row _, .str, h | .row _, .pair _ _, h => by simp [Ty.beq] at h
  | .pair _ _, .int _, h | .pair _ _, .bool, h | .pair _ _, .str, h | .pair _ _, .row _, h => by simp [Ty.beq] at h
theorem Ty.beq_self : ∀ a : Ty, a.beq a = true
  | .int a => kindEq_self a
  | .bool => rfl
  | .str => rfl
  | .row a => Ty.beq_self a
  | .pair a b => by simp [Ty.beq, Ty.beq_self a, Ty.beq_self b]
def rowCast (t u : Ty) (xs : List t.D) : Option (List u.D) := if h : t.beq u = true then some (Ty.beq_eq h ▸ xs) else none
def datCast (t u : Ty) (x : t.D) : Option u.D := if h : t.beq u = true then some (Ty.beq_eq h ▸ x) else none
/-- Read an element. -/
def rd (t : Ty) (xs : List t.D) (i : Int) : t.D := xs.getD i.toNat t.dflt
/-- A string's byte. -/
def bt (s : ByteArray) (i : Int) : Int := ((s.data.getD i.toNat 0).toNat : Int)

/-! ### dynamic atoms -/
inductive DV where
  | int (n : Int) | bool (b : Bool) | str (s : ByteArray) | row (t : Ty) (xs : List t.D)
inductive At where
  | int | bool | str | row (t : Ty)
@[reducible] def At.D : At → Type
  | .int => Int
  | .bool => Bool
  | .str => ByteArray
  | .row t => List t.D
@[reducible] def Ds : List At → Type
  | [] => Unit
  | [a] => a.D
  | a :: b :: l => a.D × Ds (b :: l)
def At.dv : (a : At) → a.D → DV
  | .int, n => .int n
  | .bool, b => .bool b
  | .str, s => .str s
  | .row t, xs => .row t xs
def At.of : (a : At) → DV → Option a.D
  | .int, .int n => some n
  | .bool, .bool b => some b
  | .str, .str s => some s
  | .row t, .row u xs => rowCast u t xs
  | _, _ => none
def untyped : (l : List At) → Ds l → List DV
  | [], _ => []
  | [a], x => [a.dv x]
  | a :: b :: l, x => a.dv x.1 :: untyped (b :: l) x.2
def typed : (l : List At) → List DV → Option (Ds l)
  | [], [] => some ()
  | [a], [v] => a.of v
  | a :: b :: l, v :: vs => match a.of v with
    | some x => match typed (b :: l) vs with
      | some y => some (x, y)
      | none => none
    | none => none
  | _, _ => none

/-! ### static values -/
abbrev Lb := Nat × Nat
inductive AV where
  | int (k : IntKind) (n : Int)
  | bool (b : Bool)
  | tt | ff
  | prop (p : Prop) (d : Decidable p)
  | str (s : ByteArray)
  | lst (t : Ty) (xs : List t.D) (ls : List Lb)
  | sub (id ver : Nat) (t : Ty) (xs : List t.D)
  | own (id : Nat)
  | inn (id ver : Nat) (i : Int) (off : Nat)
  | ptr (id off : Nat)
  | spn (id n : Nat)
  | elp (id : Nat) (i : Int) (off : Nat)
  | rop (t : Ty) (x : t.D) (off : Nat) (ls : List Lb)
  | agg (l : List AV)
  | tup (l : List AV)
  | fn (f : Nat) (caps : List AV)
  | nil
  | nptr
  | junk
inductive Blk where
  | dead
  | cells (l : List AV)
  | row (ver : Nat) (t : Ty) (xs : List t.D) (inner : Option (List Lb))
def get? {α : Type} : List (Nat × α) → Nat → Option α
  | [], _ => none
  | (a, b) :: l, k => match Nat.beq a k with
    | true => some b
    | false => get? l k
abbrev Tm := List (Nat × AV)
abbrev Hp := List (Nat × Blk)
def tget (m : Tm) (t : Nat) : AV := match get? m t with | some v => v | none => .junk
def hget (m : Hp) (t : Nat) : Blk := match get? m t with | some v => v | none => .dead
structure St where
  tm : Tm
  hp : Hp
  nx : Nat
def lv (hp : Hp) (l : Lb) : Bool := match hget hp l.1 with
  | .row v _ _ _ => Nat.beq v l.2
  | _ => false
def lvs (hp : Hp) : List Lb → Bool
  | [] => true
  | l :: ls => lv hp l && lvs hp ls
def Ty.avs (ls : List Lb) : (t : Ty) → t.D → List AV
  | .int k, n => [.int k n]
  | .bool, b => [.bool b]
  | .str, s => [.str s]
  | .row el, xs => [.lst el xs ls]
  | .pair a b, x => a.avs ls x.1 ++ b.avs ls x.2
/-- The cells of an element of a row of one's own: its inner rows are told by their places. -/
def Ty.avsI (id ver : Nat) (i : Int) : (off : Nat) → (t : Ty) → t.D → List AV
  | _, .int k, n => [.int k n]
  | _, .bool, b => [.bool b]
  | _, .str, s => [.str s]
  | off, .row _, _ => [.inn id ver i off]
  | off, .pair a b, x => a.avsI id ver i off x.1 ++ b.avsI id ver i (off + a.sz) x.2
structure RowV where
  t : Ty
  xs : List t.D
  ls : List Lb
/-- The inner row at a cell of a datum. -/
def Ty.cellRow : (t : Ty) → t.D → Nat → Option ((el : Ty) × List el.D)
  | .row el, xs, 0 => some ⟨el, xs⟩
  | .pair a b, x, off => match Nat.ble a.sz off with
    | true => b.cellRow x.2 (off - a.sz)
    | false => a.cellRow x.1 off
  | _, _, _ => none
/-- One cell of a datum written. -/
def Ty.setCell : (t : Ty) → t.D → Nat → DV → Option t.D
  | .int _, _, 0, .int n => some n
  | .bool, _, 0, .bool b => some b
  | .str, _, 0, .str s => some s
  | .row el, _, 0, .row u ys => rowCast u el ys
  | .pair a b, x, off, v => match Nat.ble a.sz off with
    | true => match b.setCell x.2 (off - a.sz) v with | some y => some (x.1, y) | none => none
    | false => match a.setCell x.1 off v with | some y => some (y, x.2) | none => none
  | _, _, _, _ => none
/-- The kind of the number at a cell. -/
def Ty.cellTy : (t : Ty) → Nat → Option Ty
  | .pair a b, off => match Nat.ble a.sz off with
    | true => b.cellTy (off - a.sz)
    | false => a.cellTy off
  | t, 0 => some t
  | _, _ => none
def innerL : Option (List Lb) → List Lb
  | none => []
  | some l => l
def rowOf (hp : Hp) : AV → Option RowV
  | .lst t xs ls => match lvs hp ls with | true => some ⟨t, xs, ls⟩ | false => none
  | .sub id ver t xs => match hget hp id with
    | .row v _ _ inner => match Nat.beq v ver && lvs hp (innerL inner) with | true => some ⟨t, xs, (id, ver) :: innerL inner⟩ | false => none
    | _ => none
  | .own id => match hget hp id with
    | .row v t xs inner => match lvs hp (innerL inner) with | true => some ⟨t, xs, (id, v) :: innerL inner⟩ | false => none
    | _ => none
  | .inn id ver i off => match hget hp id with
    | .row v t xs none => match Nat.beq v ver with
      | true => match t.cellRow (rd t xs i) off with
        | some ⟨el, ys⟩ => some ⟨el, ys, [(id, ver)]⟩
        | none => none
      | false => none
    | _ => none
  | _ => none
end Go.Vm
namespace Go.Vm
set_option linter.unusedVariables false
set_option linter.unusedSimpArgs false
open Go
/-! ### shapes -/
inductive Sk where
  | int (k : IntKind) | bool | str
  | frz (t : Ty) (ls : List Nat)
  | own (i : Nat) | ptr (i off : Nat) | spn (i n : Nat)
  | agg (l : List Sk) | tup (l : List Sk) | fn (f : Nat) (l : List Sk)
  | cst (k : IntKind) (n : Int)
  | nil | nptr | junk
  deriving Inhabited
inductive BSk where
  | cells (l : List Sk)
  | row (t : Ty) (inner : Option (List Nat))
abbrev HSk := List (Nat × BSk)
structure SkSt where
  tm : List (Nat × Sk)
  hp : HSk
inductive An where
  | nil
  | seq (a b : An)
  | cut (a : An) (t : SkSt) (b : An)
  | loop (t : SkSt) (a : An)
  | unr (a rest : An)
structure Sig where
  params : List Sk
  hin : HSk
  res : Sk
  hout : HSk
  ann : An
structure TI where
  agg : Bool
  ty : Ty
  bytes : Nat
structure Env where
  ti : List (Nat × TI)
  el : List (Nat × Nat)
  fl : List (Nat × List (Nat × Nat))
  ps : List (Nat × Nat)
  pe : List (Nat × Nat)
  ar : List (Nat × (Nat × Nat))
  sg : List (Nat × Sig)
  fn : List (Nat × Func)
mutual
def Sk.ats : Sk → List At
  | .int _ => [.int]
  | .bool => [.bool]
  | .str => [.str]
  | .frz t _ => [.row t]
  | .agg l => Sk.atsL l
  | .tup l => Sk.atsL l
  | .fn _ l => Sk.atsL l
  | _ => []
def Sk.atsL : List Sk → List At
  | [] => []
  | s :: l => s.ats ++ Sk.atsL l
end
def BSk.ats : BSk → List At
  | .cells l => Sk.atsL l
  | .row t _ => [.row t]
def hats : HSk → List At
  | [] => []
  | (_, b) :: l => b.ats ++ hats l
def tats : List (Nat × Sk) → List At
  | [] => []
  | (_, b) :: l => b.ats ++ tats l
def SkSt.ats (s : SkSt) : List At := tats s.tm ++ hats s.hp
@[reducible] def Sig.rats (S : Sig) : List At := S.res.ats ++ hats S.hout
@[reducible] def ratsOf : Option Sig → List At
  | some S => S.rats
  | none => []
@[reducible] def Env.rats (E : Env) (g : Nat) : List At := ratsOf (get? E.sg g)
/-! ### a shape filled with data: 'f' names the blocks -/
mutual
def Sk.inst (bs : List Lb) (f : Nat → Nat) (vr : Nat → Nat) : Sk → List DV → AV × List DV
  | .int k, .int n :: r => (.int k n, r)
  | .bool, .bool b :: r => (.bool b, r)
  | .str, .str s :: r => (.str s, r)
  | .frz t ls, .row u xs :: r => match rowCast u t xs with
    | some ys => (.lst t ys (bs ++ ls.map fun i => (f i, vr i)), r)
    | none => (.junk, r)
  | .own i, r => (.own (f i), r)
  | .ptr i off, r => (.ptr (f i) off, r)
  | .spn i n, r => (.spn (f i) n, r)
  | .agg l, r => match Sk.instL bs f vr l r with | (vs, r') => (.agg vs, r')
  | .tup l, r => match Sk.instL bs f vr l r with | (vs, r') => (.tup vs, r')
  | .fn g l, r => match Sk.instL bs f vr l r with | (vs, r') => (.fn g vs, r')
  | .nil, r => (.nil, r)
  | .nptr, r => (.nptr, r)
  | .cst k n, r => (.int k n, r)
  | _, r => (.junk, r)
def Sk.instL (bs : List Lb) (f : Nat → Nat) (vr : Nat → Nat) : List Sk → List DV → List AV × List DV
  | [], r => ([], r)
  | s :: l, r => match s.inst bs f vr r with
    | (v, r') => match Sk.instL bs f vr l r' with
      | (vs, r'') => (v :: vs, r'')
end
def BSk.inst (bs : List Lb) (f : Nat → Nat) (vr : Nat → Nat) (ver : Nat) : BSk → List DV → Blk × List DV
  | .cells l, r => match Sk.instL bs f vr l r with | (vs, r') => (.cells vs, r')
  | .row t inner, .row u xs :: r => match rowCast u t xs with
    | some ys => (.row ver t ys (match inner with | none => none | some ls => some (bs ++ ls.map fun i => (f i, vr i))), r)
    | none => (.dead, r)
  | _, r => (.dead, r)
def hinst (bs : List Lb) (f : Nat → Nat) (vr : Nat → Nat) : HSk → List DV → Hp × List DV
  | [], r => ([], r)
  | (i, b) :: l, r => match b.inst bs f vr (vr i) r with
    | (v, r') => match hinst bs f vr l r' with
      | (vs, r'') => ((f i, v) :: vs, r'')
def id0 (i : Nat) : Nat := i
def ver0 (_ : Nat) : Nat := 0
/-- The next free name behind the names of a list. -/
def nextOf {α : Type} : List (Nat × α) → Nat
  | [] => 0
  | (i, _) :: l => Nat.max (i + 1) (nextOf l)
def keys {α : Type} : List (Nat × α) → List Nat
  | [] => []
  | (i, _) :: l => i :: keys l
def vals {α : Type} : List (Nat × α) → List α
  | [] => []
  | (_, v) :: l => v :: vals l
def zipT : List Nat → List AV → Tm
  | t :: l, v :: vs => (t, v) :: zipT l vs
  | _, _ => []
def SkSt.inst (s : SkSt) (ds : List DV) : St := match Sk.instL [] id0 ver0 (vals s.tm) ds with
  | (vs, r) => ⟨zipT (keys s.tm) vs, (hinst [] id0 ver0 s.hp r).1, nextOf s.hp⟩
/-! ### data taken out of a state by a shape: 'm' tells which block stands for which name -/
abbrev Mp := List (Nat × Nat)
def addM (i j : Nat) (m : Mp) : Option Mp := match get? m i with
  | none => some ((i, j) :: m)
  | some j' => match Nat.beq j j' with | true => some m | false => none
mutual
/-- An empty row, or a cut of a row of one's own, taken for a row of one's own. -/
def Sk.up (h : HSk) (hp : Hp) : Sk → AV → Hp → Nat → AV × Hp × Nat
  | .own i, .nil, dl, nx => match get? h i with
    | some (.row t _) => (.own nx, (nx, .row 0 t [] none) :: dl, nx + 1)
    | _ => (.nil, dl, nx)
  | .own _, .sub j ver t xs, dl, nx => match hget (dl ++ hp) j with
    | .row v _ _ inner => match Nat.beq v ver && lvs (dl ++ hp) (innerL inner) with
      | true => (.own nx, (j, .dead) :: (nx, .row 0 t xs inner) :: dl, nx + 1)
      | false => (.sub j ver t xs, dl, nx)
    | _ => (.sub j ver t xs, dl, nx)
  | .agg l, .agg vs, dl, nx => match Sk.upL h hp l vs dl nx with | (vs', r) => (.agg vs', r)
  | .tup l, .tup vs, dl, nx => match Sk.upL h hp l vs dl nx with | (vs', r) => (.tup vs', r)
  | _, v, dl, nx => (v, dl, nx)
def Sk.upL (h : HSk) (hp : Hp) : List Sk → List AV → Hp → Nat → List AV × Hp × Nat
  | s :: l, v :: vs, dl, nx => match s.up h hp v dl nx with
    | (v', dl', nx') => match Sk.upL h hp l vs dl' nx' with
      | (vs', r) => (v' :: vs', r)
  | _, vs, dl, nx => (vs, dl, nx)
end
mutual
/-- Which blocks the names of a shape stand for. -/
def Sk.bind : Sk → AV → Mp → Option Mp
  | .own i, .own j, m => addM i j m
  | .ptr i _, .ptr j _, m => addM i j m
  | .spn i _, .spn j _, m => addM i j m
  | .agg l, .agg vs, m => Sk.bindL l vs m
  | .tup l, .tup vs, m => Sk.bindL l vs m
  | .fn _ l, .fn _ vs, m => Sk.bindL l vs m
  | _, _, m => some m
def Sk.bindL : List Sk → List AV → Mp → Option Mp
  | s :: l, v :: vs, m => match s.bind v m with
    | some m' => Sk.bindL l vs m'
    | none => none
  | _, _, m => some m
end
/-- The variables behind pointers. -/
def hup (h : HSk) (hp : Hp) : HSk → Hp → Nat → Mp → Option (Hp × Nat × Mp)
  | [], dl, nx, m => some (dl, nx, m)
  | (i, .cells sk) :: l, dl, nx, m => match get? m i with
    | some j => match hget (dl ++ hp) j with
      | .cells vs => match Sk.upL h hp sk vs dl nx with
        | (vs', dl', nx') => match hget (dl' ++ hp) j, Sk.bindL sk vs' m with
          | .cells _, some m' => hup h hp l ((j, .cells vs') :: dl') nx' m'
          | _, _ => none
      | _ => none
    | none => none
  | (_, .row _ _) :: l, dl, nx, m => hup h hp l dl nx m
/-- The name under which a block is kept. -/
def kept : Mp → Nat → Option Nat
  | [], _ => none
  | (i, j) :: m, k => match Nat.beq j k with | true => some i | false => kept m k
def memN : List Nat → Nat → Bool
  | [], _ => false
  | a :: l, k => match Nat.beq a k with | true => true | false => memN l k
/-- Each label's block is not kept, or kept under one of the names. -/
def lsOk (m : Mp) (ls : List Nat) : List Lb → Bool
  | [] => true
  | (j, _) :: l => (match kept m j with | none => true | some i => memN ls i) && lsOk m ls l
def allLt (B : Nat) : List Nat → Bool
  | [] => true
  | i :: l => Nat.blt i B && allLt B l
def boolDV : AV → Option DV
  | .bool b => some (.bool b)
  | .tt => some (.bool true)
  | .ff => some (.bool false)
  | .prop p d => some (.bool (@decide p d))
  | _ => none
def isNil : AV → Bool
  | .nil => true
  | _ => false
structure Ex' where
  ds : List DV
  ls : List Lb
def Ex'.nil : Ex' := ⟨[], []⟩
def sameName (m : Mp) (B i j : Nat) : Option Ex' := match get? m i with
  | some j' => match Nat.beq j j' && Nat.blt i B with | true => some Ex'.nil | false => none
  | none => none
mutual
def Sk.ext (hp : Hp) (m : Mp) (B : Nat) : Sk → AV → Option Ex'
  | .int k, .int k' n => match kindEq k k' with | true => some ⟨[.int n], []⟩ | false => none
  | .bool, v => match boolDV v with | some d => some ⟨[d], []⟩ | none => none
  | .str, .str s => some ⟨[.str s], []⟩
  | .frz t ls, v => match isNil v with
    | true => match allLt B ls with | true => some ⟨[.row t []], []⟩ | false => none
    | false => match rowOf hp v with
      | some r => match rowCast r.t t r.xs with
        | some ys => match lsOk m ls r.ls && allLt B ls with
          | true => some ⟨[.row t ys], r.ls⟩
          | false => none
        | none => none
      | none => none
  | .own i, .own j => sameName m B i j
  | .ptr i off, .ptr j off' => match Nat.beq off off' with
    | true => sameName m B i j
    | false => none
  | .spn i n, .spn j n' => match Nat.beq n n' with
    | true => sameName m B i j
    | false => none
  | .agg l, .agg vs => Sk.extL hp m B l vs
  | .tup l, .tup vs => Sk.extL hp m B l vs
  | .fn g l, .fn g' vs => match Nat.beq g g' with | true => Sk.extL hp m B l vs | false => none
  | .nil, .nil => some Ex'.nil
  | .nptr, .nptr => some Ex'.nil
  | .cst k n, .int k' m => match kindEq k k' && decide (m = n) with | true => some Ex'.nil | false => none
  | .junk, _ => some Ex'.nil
  | _, _ => none
def Sk.extL (hp : Hp) (m : Mp) (B : Nat) : List Sk → List AV → Option Ex'
  | [], [] => some Ex'.nil
  | s :: l, v :: vs => match s.ext hp m B v with
    | some d => match Sk.extL hp m B l vs with
      | some ds => some ⟨d.ds ++ ds.ds, d.ls ++ ds.ls⟩
      | none => none
    | none => none
  | _, _ => none
end
/-- The inner rows' labels fit: deep stays deep, or may become shared. -/
def innerOk (m : Mp) (B : Nat) : Option (List Nat) → Option (List Lb) → Bool
  | none, none => true
  | none, some _ => false
  | some ls, none => allLt B ls
  | some ls, some l => lsOk m ls l && allLt B ls
def BSk.ext (hp : Hp) (m : Mp) (B i : Nat) : BSk → Option Ex'
  | .cells sk => match get? m i with
    | some j => match hget hp j with
      | .cells vs => Sk.extL hp m B sk vs
      | _ => none
    | none => none
  | .row t inner => match get? m i with
    | some j => match hget hp j with
      | .row _ u xs inner' => match lvs hp (innerL inner') && innerOk m B inner (match t.flat with | true => none | false => inner') with
        | true => match rowCast u t xs with
          | some ys => some ⟨[.row t ys], innerL inner'⟩
          | none => none
        | false => none
      | _ => none
    | none => none
def hext (hp : Hp) (m : Mp) (B : Nat) : HSk → Option Ex'
  | [] => some Ex'.nil
  | (i, b) :: l => match b.ext hp m B i with
    | some d => match hext hp m B l with
      | some ds => some ⟨d.ds ++ ds.ds, d.ls ++ ds.ls⟩
      | none => none
    | none => none
def noDupV : Mp → List Nat → Bool
  | [], _ => true
  | (_, j) :: m, seen => match memN seen j with | true => false | false => noDupV m (j :: seen)
def noDupN {α : Type} : List (Nat × α) → List Nat → Bool
  | [], _ => true
  | (i, _) :: m, seen => match memN seen i with | true => false | false => noDupN m (i :: seen)
structure Got where
  ds : List DV
  ls : List Lb
  m : Mp
  dl : Hp
  nx : Nat
  av : List AV
/-- The data of values and of what they lead to. -/
def takeL (sks : List Sk) (h : HSk) (m0 : Mp) (as : List AV) (hp : Hp) (nx : Nat) : Option Got := match Sk.upL h hp sks as [] nx with
  | (as1, dl1, nx1) => match Sk.bindL sks as1 m0 with
    | some m1 => match hup h hp h dl1 nx1 m1 with
      | some (dl2, nx2, m2) => match noDupV m2 [] && (noDupN m2 [] && noDupN h []) with
        | true => match Sk.extL (dl2 ++ hp) m2 (nextOf h) sks as1 with
          | some a => match hext (dl2 ++ hp) m2 (nextOf h) h with
            | some b => some ⟨a.ds ++ b.ds, a.ls ++ b.ls, m2, dl2, nx2, as1⟩
            | none => none
          | none => none
        | false => none
      | none => none
    | none => none
def tgets (tm : Tm) : List Nat → List AV
  | [] => []
  | t :: l => tget tm t :: tgets tm l
def memH : HSk → Nat → Bool
  | [], _ => false
  | (a, _) :: l, k => match Nat.beq a k with | true => true | false => memH l k
/-- The names that were handed on stand for themselves. -/
def inMp (ho : HSk) : HSk → Mp
  | [] => []
  | (i, _) :: l => match memH ho i with
    | true => (i, i) :: inMp ho l
    | false => inMp ho l
def SkSt.take (hi : HSk) (T : SkSt) (s : St) : Option (Ds T.ats) := match Nat.ble (nextOf hi) (nextOf T.hp) with
  | true => match takeL (vals T.tm) T.hp (inMp T.hp hi) (tgets s.tm (keys T.tm)) s.hp s.nx with
    | some g => typed T.ats g.ds
    | none => none
  | false => none
def SkSt.fill (T : SkSt) (d : Ds T.ats) : St := T.inst (untyped T.ats d)
/-! ### operations -/
inductive Tr (E : Env) (α : Type) : Type where
  | ok (a : α)
  | test (p : Prop) (d : Decidable p) (t : Tr E α)
  | ite (p : Prop) (d : Decidable p) (a b : Tr E α)
  | call (g : Nat) (ds : List DV) (k : Ds (E.rats g) → Tr E α)
  | fail
abbrev Orc (E : Env) := (g : Nat) → List DV → Option (Ds (E.rats g))
def Tr.run {E : Env} {α R : Type} (orc : Orc E) : Tr E α → (α → Option R) → Option R
  | .ok a, κ => κ a
  | .test p d t, κ => @_root_.ite _ p d (t.run orc κ) none
  | .ite p d a b, κ => @_root_.ite _ p d (a.run orc κ) (b.run orc κ)
  | .call g ds k, κ => (orc g ds).bind fun x => (k x).run orc κ
  | .fail, _ => none
structure Out where
  v : AV
  eff : Hp
  nx : Nat
def constAV : Value → AV
  | .int k n => .int k n
  | .bool true => .tt
  | .bool false => .ff
  | .string s => .str s
  | .slice none 0 0 => .nil
  | .pointer none => .nptr
  | _ => .junk
def opnd (tm : Tm) : Operand → AV
  | .tmp t => tget tm t
  | .const v => constAV v
  | .func f => .fn f []
  | .global _ => .junk
def opnds (tm : Tm) : List Operand → List AV
  | [] => []
  | x :: l => opnd tm x :: opnds tm l
/-- The zero value's cells. -/
def Ty.zero : Ty → List AV
  | .int k => [.int k 0]
  | .bool => [.ff]
  | .str => [.str ByteArray.empty]
  | .row _ => [.nil]
  | .pair a b => a.zero ++ b.zero
def cellsOf : AV → List AV
  | .agg l => l
  | v => [v]
/-- A value of one cell, or a struct's cells: what is known of them. -/
def plainV : AV → Bool
  | .junk => false
  | .tup _ => false
  | _ => true
def oneV : AV → Bool
  | .junk => false
  | .tup _ => false
  | .agg _ => false
  | _ => true
def onesV : List AV → Bool
  | [] => true
  | a :: l => oneV a && onesV l
def splice : List AV → Nat → List AV → List AV
  | l, 0, vs => vs ++ l.drop vs.length
  | a :: l, off + 1, vs => a :: splice l off vs
  | [], _, _ => []
variable {E : Env}
def ret (v : AV) (s : St) : Tr E Out := .ok ⟨v, [], s.nx⟩
/-- A value read at cells: a struct, or one cell. -/
def pieceOf (ti : TI) (l : List AV) (off : Nat) : Option AV :=
  match ti.agg with
  | true => some (.agg ((l.drop off).take ti.ty.sz))
  | false => l[off]?
def loadOp (ti : TI) (s : St) : AV → Tr E Out
  | .ptr id off => match hget s.hp id with
    | .cells l => match Nat.ble (off + ti.ty.sz) l.length with
      | true => match pieceOf ti l off with | some v => ret v s | none => .fail
      | false => .fail
    | _ => .fail
  | .elp id i off => match hget s.hp id with
    | .row ver t xs inner => match lvs s.hp (innerL inner) with
      | true => match Nat.ble (off + ti.ty.sz) t.sz with
        | true => match pieceOf ti (match inner with | none => t.avsI id ver i 0 (rd t xs i) | some ls => t.avs ((id, ver) :: ls) (rd t xs i)) off with | some v => ret v s | none => .fail
        | false => .fail
      | false => .fail
    | _ => .fail
  | .rop t x off ls => match lvs s.hp ls with
    | true => match Nat.ble (off + ti.ty.sz) t.sz with
      | true => match pieceOf ti (t.avs ls x) off with | some v => ret v s | none => .fail
      | false => .fail
    | false => .fail
  | _ => .fail
/-- One cell as data, and what becomes of the block that it was. -/
def cellDV (hp : Hp) (ct : Option Ty) : AV → Option (DV × Hp)
  | .int _ n => some (.int n, [])
  | .str s => some (.str s, [])
  | .own j => match hget hp j with
    | .row _ t xs none => some (.row t xs, [(j, .dead)])
    | _ => none
  | .nil => match ct with
    | some (.row el) => some (.row el [], [])
    | _ => none
  | v => match boolDV v with | some d => some (d, []) | none => none
/-- Cells of a datum written, from a place on. -/
def setCells (hp : Hp) : (t : Ty) → t.D → Nat → List AV → Option (t.D × Hp)
  | _, x, _, [] => some (x, [])
  | t, x, off, v :: vs => match cellDV hp (t.cellTy off) v with
    | some (d, e) => match t.setCell x off d with
      | some y => match setCells hp t y (off + 1) vs with
        | some (z, e') => some (z, e ++ e')
        | none => none
      | none => none
    | none => none
def kindOk (t : Ty) : Nat → List AV → Bool
  | _, [] => true
  | off, v :: vs => (match v, t.cellTy off with
    | .int k _, some (.int k') => kindEq k k'
    | _, _ => true) && kindOk t (off + 1) vs
/-- Rows that were given away: their lengths stay known. -/
def zom (hp : Hp) (lab : Lb) : Hp → Hp
  | [] => []
  | (j, B) :: l => (j, match hget hp j with | .row v t xs _ => .row (v + 1) t xs (some [lab]) | _ => B) :: zom hp lab l
def storeOp (ti : TI) (s : St) (v : AV) : AV → Tr E Out
  | .ptr id off => match hget s.hp id with
    | .cells l => match plainV v && (onesV (cellsOf v) && (Nat.beq (cellsOf v).length ti.ty.sz && Nat.ble (off + ti.ty.sz) l.length)) with
      | true => .ok ⟨.junk, [(id, .cells (splice l off (cellsOf v)))], s.nx⟩
      | false => .fail
    | _ => .fail
  | .elp id i off => match hget s.hp id with
    | .row ver t xs inner => match plainV v && (lvs s.hp (innerL inner) && Nat.beq (cellsOf v).length ti.ty.sz) && (Nat.ble (off + ti.ty.sz) t.sz && (kindOk t off (cellsOf v) && match inner with | none => true | some _ => t.flat)) with
      | true => match setCells s.hp t (rd t xs i) off (cellsOf v) with
        | some (y, e) => match noDupN ((id, Blk.dead) :: e) [] with
          | true => .ok ⟨.junk, (id, .row (ver + 1) t (xs.set i.toNat y) inner) :: zom s.hp (id, ver) e, s.nx⟩
          | false => .fail
        | none => .fail
      | false => .fail
    | _ => .fail
  | _ => .fail
end Go.Vm
namespace Go.Vm
set_option linter.unusedVariables false
set_option linter.unusedSimpArgs false
open Go
variable {E : Env}
/-! ### calls -/
def nameOf (hi : HSk) (m : Mp) (nx i : Nat) : Nat := match memH hi i, get? m i with
  | true, some j => j
  | _, _ => nx + i
def verOf (hp : Hp) (j : Nat) : Nat := match hget hp j with
  | .row v _ _ _ => v
  | _ => 0
def nvOf (hp : Hp) (hi : HSk) (m : Mp) (i : Nat) : Nat := match memH hi i, get? m i with
  | true, some j => verOf hp j + 1
  | _, _ => 0
/-- What was handed on and does not come back. -/
def goneEff (hi ho : HSk) : Mp → Hp
  | [] => []
  | (i, j) :: m => match memH ho i && memH hi i with
    | true => goneEff hi ho m
    | false => (j, .dead) :: goneEff hi ho m
/-- What comes back is of the kinds that were handed on. -/
def backOk (hi : HSk) : HSk → Bool
  | [] => true
  | (i, b) :: l => (match b, get? hi i with
    | .row t _, some (.row u _) => t.beq u
    | .cells _, some (.cells _) => true
    | _, none => true
    | _, _ => false) && backOk hi l
def afterCall (S : Sig) (g : Got) (hp : Hp) (ds : List DV) : Tr E Out :=
  match S.res.inst g.ls (nameOf S.hin g.m g.nx) (nvOf (g.dl ++ hp) S.hin g.m) ds with
  | (v, r) => match hinst g.ls (nameOf S.hin g.m g.nx) (nvOf (g.dl ++ hp) S.hin g.m) S.hout r with
    | (h, _) => .ok ⟨v, h ++ (goneEff S.hin S.hout g.m ++ g.dl), g.nx + nextOf S.hout⟩
def callPlain (s : St) (g : Nat) (args : List AV) : Tr E Out := match get? E.sg g with
  | some S => match backOk S.hin S.hout && noDupN S.hout [] with
    | true => match takeL S.params S.hin [] args s.hp s.nx with
      | some t => .call g t.ds fun d => afterCall S t s.hp (untyped (E.rats g) d)
      | none => .fail
    | false => .fail
  | none => .fail
def Tr.andThen {α β : Type} : Tr E α → (α → Tr E β) → Tr E β
  | .ok a, f => f a
  | .test p d t, f => .test p d (t.andThen f)
  | .ite p d a b, f => .ite p d (a.andThen f) (b.andThen f)
  | .call g ds k, f => .call g ds fun x => (k x).andThen f
  | .fail, _ => .fail
/-- Numbers, bools, strings: nothing of memory. -/
def scal : AV → Bool
  | .int _ _ => true
  | .bool _ => true
  | .tt => true
  | .ff => true
  | .prop _ _ => true
  | .str _ => true
  | _ => false
def scalL : List AV → Bool
  | [] => true
  | a :: l => scal a && scalL l
/-- One inner row among numbers: where it lies, and the arguments with a name for it. -/
def innAt (n : Nat) : List AV → Option ((Nat × Nat × Int × Nat) × List AV)
  | [] => none
  | a :: l => match scal a with
    | true => match innAt n l with
      | some (q, l') => some (q, a :: l')
      | none => none
    | false => match a, scalL l with
      | .inn id ver i off, true => some ((id, ver, i, off), .own n :: l)
      | _, _ => none
def anyOwn : List Sk → Bool
  | [] => false
  | .own _ :: _ => true
  | _ :: l => anyOwn l
/-- An inner row that was handed on comes back to its place. -/
def innBack (n nx id ver : Nat) (i : Int) (off : Nat) (t : Ty) (xs : List t.D) (el : Ty) (ys : List el.D) (o : Out) : Tr E Out :=
  match scal o.v, hget (o.eff ++ [(n, Blk.row 0 el ys none)]) n with
  | true, .row _ u zs none => match rowCast u el zs with
    | some zs => match t.setCell (rd t xs i) off (.row el zs) with
      | some y => .ok ⟨o.v, [(id, .row (ver + 1) t (xs.set i.toNat y) none)], nx⟩
      | none => .fail
    | none => .fail
  | _, _ => .fail
def innCall (s : St) (g : Nat) (q : Nat × Nat × Int × Nat) (args : List AV) : Tr E Out := match q with
  | (id, ver, i, off) => match hget s.hp id with
    | .row v t xs none => match Nat.beq v ver with
      | true => match t.cellRow (rd t xs i) off with
        | some ⟨el, ys⟩ => match el.flat with
          | true => (callPlain ⟨[], [(0, Blk.row 0 el ys none)], 1⟩ g args).andThen (innBack 0 s.nx id ver i off t xs el ys)
          | false => .fail
        | none => .fail
      | false => .fail
    | _ => .fail
def callOp (s : St) (g : Nat) (args : List AV) : Tr E Out := match get? E.sg g with
  | some S => match anyOwn S.params with
    | true => match innAt 0 args with
      | some (q, as) => innCall s g q as
      | none => callPlain s g args
    | false => callPlain s g args
  | none => .fail
/-! ### rows -/
def maxRow : Nat := 68719476736
def appendFl (s : St) (t : Ty) (xs ys : List t.D) (eff : Hp) (inner : Option (List Lb)) : Tr E Out :=
  match noDupN eff [] with
  | false => .fail
  | true => .test (xs.length + ys.length < maxRow) inferInstance (.ok ⟨.own s.nx, eff ++ [(s.nx, .row 0 t (xs ++ ys) inner)], s.nx + 1⟩)
/-- What is appended: the row, whether it is given away, and the labels of its inner rows. -/
def srcRow (s : St) (flat : Bool) : AV → Option (RowV × Hp × Option (List Lb))
  | .own j => match rowOf s.hp (.own j) with
    | some r => match flat with
      | true => some (r, [], none)
      | false => match hget s.hp j with
        | .row _ _ _ inner => some (r, [(j, .dead)], inner)
        | _ => none
    | none => none
  | v => match rowOf s.hp v with
    | some r => some (r, [], some r.ls)
    | none => none
def joinInner (flat : Bool) : Option (List Lb) → Option (List Lb) → Option (List Lb)
  | none, none => none
  | a, b => match flat with | true => none | false => some (innerL a ++ innerL b)
def bytesOf (s : ByteArray) : List Int := s.data.toList.map fun b => (b.toNat : Int)
def strOf (l : List Int) : ByteArray := ⟨(l.map fun n => UInt8.ofNat n.toNat).toArray⟩
def appendOp (ti : TI) (s : St) (a b : AV) : Tr E Out :=
  match (match b with
    | .nil => some (⟨ti.ty, [], []⟩, [], none)
    | .str x => match ti.ty with
      | .int .u8 => some (⟨.int .u8, bytesOf x, []⟩, [], none)
      | _ => none
    | b => srcRow s ti.ty.flat b : Option (RowV × Hp × Option (List Lb))) with
  | none => .fail
  | some (r, e, inb) => match rowCast r.t ti.ty r.xs with
    | none => .fail
    | some ys => match a with
      | .nil => appendFl s ti.ty [] ys e (joinInner ti.ty.flat none inb)
      | .own j => match hget s.hp j with
        | .row _ u xs ina => match lvs s.hp (innerL ina) with
          | true => match rowCast u ti.ty xs with
            | some xs => appendFl s ti.ty xs ys ((j, .dead) :: e) (joinInner ti.ty.flat ina inb)
            | none => .fail
          | false => .fail
        | _ => .fail
      | .sub j ver u xs => match hget s.hp j with
        | .row v _ _ ina => match Nat.beq v ver && lvs s.hp (innerL ina) with
          | true => match rowCast u ti.ty xs with
            | some xs => appendFl s ti.ty xs ys ((j, .dead) :: e) (joinInner ti.ty.flat ina inb)
            | none => .fail
          | false => .fail
        | _ => .fail
      | _ => .fail
/-- A literal's elements, in their places' order. -/
def elemsOf (ti : TI) (s : St) : Nat → List (Nat × AV) → Option (List ti.ty.D × Hp)
  | _, [] => some ([], [])
  | k, (i, v) :: l => match plainV v && (Nat.beq i k && (Nat.beq (cellsOf v).length ti.ty.sz && kindOk ti.ty 0 (cellsOf v))) with
    | true => match setCells s.hp ti.ty ti.ty.dflt 0 (cellsOf v) with
      | some (x, e) => match elemsOf ti s (k + 1) l with
        | some (xs, e') => some (x :: xs, e ++ e')
        | none => none
      | none => none
    | false => none
/-- As above, of values whose rows are not one's own: their labels. -/
def frzDV (hp : Hp) (t : Ty) (off : Nat) : AV → Option (DV × List Lb)
  | .int _ n => some (.int n, [])
  | .str s => some (.str s, [])
  | .nil => match t.cellTy off with
    | some (.row el) => some (.row el [], [])
    | _ => none
  | v => match boolDV v with
    | some d => some (d, [])
    | none => match rowOf hp v with
      | some r => some (.row r.t r.xs, r.ls)
      | none => none
def frzCells (hp : Hp) : (t : Ty) → t.D → Nat → List AV → Option (t.D × List Lb)
  | _, x, _, [] => some (x, [])
  | t, x, off, v :: vs => match frzDV hp t off v with
    | some (d, e) => match t.setCell x off d with
      | some y => match frzCells hp t y (off + 1) vs with
        | some (z, e') => some (z, e ++ e')
        | none => none
      | none => none
    | none => none
def frzElems (ti : TI) (s : St) : Nat → List (Nat × AV) → Option (List ti.ty.D × List Lb)
  | _, [] => some ([], [])
  | k, (i, v) :: l => match plainV v && (Nat.beq i k && (Nat.beq (cellsOf v).length ti.ty.sz && kindOk ti.ty 0 (cellsOf v))) with
    | true => match frzCells s.hp ti.ty ti.ty.dflt 0 (cellsOf v) with
      | some (x, e) => match frzElems ti s (k + 1) l with
        | some (xs, e') => some (x :: xs, e ++ e')
        | none => none
      | none => none
    | false => none
def litOp (ti : TI) (len : Nat) (s : St) (l : List (Nat × AV)) : Tr E Out :=
  match Nat.beq l.length len && Nat.ble (len * ti.ty.sz) 16777216 with
  | false => .fail
  | true => match elemsOf ti s 0 l with
    | some (xs, e) => match noDupN e [] with
      | true => .ok ⟨.own s.nx, e ++ [(s.nx, .row 0 ti.ty xs none)], s.nx + 1⟩
      | false => .fail
    | none => match frzElems ti s 0 l with
      | some (xs, ls) => .ok ⟨.own s.nx, [(s.nx, .row 0 ti.ty xs (some ls))], s.nx + 1⟩
      | none => .fail
def makeOp (ti : TI) (s : St) : AV → AV → Tr E Out
  | .int .i64 n, .int .i64 c => match Nat.ble ti.bytes 1024 with
    | true => .test (0 ≤ n) inferInstance (.test (n ≤ c) inferInstance (.test (c < 68719476736) inferInstance
      (.ok ⟨.own s.nx, [(s.nx, .row 0 ti.ty (List.replicate n.toNat ti.ty.dflt) none)], s.nx + 1⟩)))
    | false => .fail
  | _, _ => .fail
/-- Rows of pointers, of a length that is known; arrays, place by place. -/
def ptrsAt : Nat → List (Nat × AV) → Bool
  | _, [] => true
  | k, (i, .ptr _ _) :: l => Nat.beq i k && ptrsAt (k + 1) l
  | _, _ => false
def spanOp (len : Nat) (s : St) (l : List (Nat × AV)) : Tr E Out :=
  match Nat.beq l.length len && (Nat.ble len 16777216 && ptrsAt 0 l) with
  | true => .ok ⟨.spn s.nx len, [(s.nx, .cells (vals l))], s.nx + 1⟩
  | false => .fail
def spanIdx (s : St) : AV → AV → Tr E Out
  | .spn id n, .int _ i => match hget s.hp id with
    | .cells _ => .test (0 ≤ i) inferInstance (.test (i < (n : Int)) inferInstance (ret (.ptr id i.toNat) s))
    | _ => .fail
  | _, _ => .fail
def spanLoad (s : St) : AV → Tr E Out
  | .ptr id off => match hget s.hp id with
    | .cells l => match l[off]? with
      | some v => ret v s
      | none => .fail
    | _ => .fail
  | _ => .fail
def arrPick (s : St) (id off sz : Nat) (i : Int) : Nat → Nat → Tr E Out
  | 0, j => ret (.ptr id (off + j * sz)) s
  | m + 1, j => .ite (i = (j : Int)) inferInstance (ret (.ptr id (off + j * sz)) s) (arrPick s id off sz i m (j + 1))
def arrIdx (sz m : Nat) (s : St) : AV → AV → Tr E Out
  | .ptr id off, .int _ i => match hget s.hp id, m with
    | .cells _, m' + 1 => .test (0 ≤ i) inferInstance (.test (i < ((m' + 1 : Nat) : Int)) inferInstance (arrPick s id off sz i m' 0))
    | _, _ => .fail
  | _, _ => .fail
def arrFl (e sz : Nat) : Nat → Nat → List (Nat × Nat)
  | 0, _ => []
  | m + 1, o => (o, e) :: arrFl e sz m (o + sz)
def isRow : Ty → Bool
  | .row _ => true
  | _ => false
def isStr : Ty → Bool
  | .str => true
  | _ => false
def lenOp (ti : TI) (s : St) : AV → Tr E Out
  | .nil => match isRow ti.ty && !ti.agg with | true => ret (.int .i64 0) s | false => .fail
  | .str x => match isStr ti.ty && !ti.agg with | true => ret (.int .i64 (x.size : Int)) s | false => .fail
  | .own id => match isRow ti.ty && !ti.agg with
    | true => match hget s.hp id with
      | .row _ t xs _ => ret (.int .i64 (xs.length : Int)) s
      | _ => .fail
    | false => .fail
  | v => match isRow ti.ty && !ti.agg with
    | true => match rowOf s.hp v with
      | some r => ret (.int .i64 (r.xs.length : Int)) s
      | none => .fail
    | false => .fail
def bndOp : Option AV → Option (Option Int)
  | none => some none
  | some (.int _ n) => some (some n)
  | _ => none
/-- A cut: bounds as they are told, or the whole. -/
def cutOp (lo hi : Option Int) (len : Int) (k : Int → Int → Tr E Out) : Tr E Out :=
  match lo, hi with
  | none, none => k 0 len
  | some l, none => .test (0 ≤ l) inferInstance (.test (l ≤ len) inferInstance (k l len))
  | none, some h => .test (0 ≤ h) inferInstance (.test (h ≤ len) inferInstance (k 0 h))
  | some l, some h => .test (0 ≤ l) inferInstance (.test (l ≤ h) inferInstance (.test (h ≤ len) inferInstance (k l h)))
def cut {α : Type} (xs : List α) (l h : Int) : List α := (xs.take h.toNat).drop l.toNat
def sliceStr (s : St) (b : ByteArray) (lo hi : Option AV) : Tr E Out :=
  match bndOp lo, bndOp hi with
  | some lo, some hi => cutOp lo hi (b.size : Int) fun l h => ret (.str (b.extract l.toNat h.toNat)) s
  | _, _ => .fail
def sliceOp (ti : TI) (s : St) (x : AV) (lo hi : Option AV) : Tr E Out :=
  match bndOp lo, bndOp hi with
  | some lo, some hi => match x with
    | .own id => match lo, hi with
      | none, none => match hget s.hp id with
        | .row _ _ _ _ => ret (.own id) s
        | _ => .fail
      | _, _ => match rowOf s.hp (.own id), hget s.hp id with
        | some _, .row v t xs _ => match t.beq ti.ty with
          | true => cutOp lo hi (xs.length : Int) fun l h => ret (.sub id v t (cut xs l h)) s
          | false => .fail
        | _, _ => .fail
    | v => match rowOf s.hp v with
      | some r => match r.t.beq ti.ty with
        | true => cutOp lo hi (r.xs.length : Int) fun l h => ret (.lst r.t (cut r.xs l h) r.ls) s
        | false => .fail
      | none => .fail
  | _, _ => .fail
def indexOp (ti : TI) (s : St) (x : AV) : AV → Tr E Out
  | .int _ n => match x with
    | .own id => match hget s.hp id with
      | .row _ t xs inner => match t.beq ti.ty && lvs s.hp (innerL inner) with
        | true => .test (0 ≤ n) inferInstance (.test (n < (xs.length : Int)) inferInstance (ret (.elp id n 0) s))
        | false => .fail
      | _ => .fail
    | v => match rowOf s.hp v with
      | some r => match r.t.beq ti.ty with
        | true => .test (0 ≤ n) inferInstance (.test (n < (r.xs.length : Int)) inferInstance (ret (.rop r.t (rd r.t r.xs n) 0 r.ls) s))
        | false => .fail
      | none => .fail
  | _ => .fail
/-! ### numbers -/
def bitsOf (op : BinOp) (k : IntKind) (x y : Int) : Int :=
  let a := BitVec.ofInt k.bits x
  let b := BitVec.ofInt k.bits y
  match op with
  | .and => k.wrap (a &&& b).toNat
  | .or => k.wrap (a ||| b).toNat
  | .xor => k.wrap (a ^^^ b).toNat
  | _ => k.wrap (a &&& ~~~b).toNat
def binInt (op : BinOp) (k : IntKind) (x y : Int) (s : St) : Tr E Out :=
  match op with
  | .add => ret (.int k (k.wrap (x + y))) s
  | .sub => ret (.int k (k.wrap (x - y))) s
  | .mul => ret (.int k (k.wrap (x * y))) s
  | .quo => .test (y ≠ 0) inferInstance (ret (.int k (k.wrap (x.tdiv y))) s)
  | .rem => .test (y ≠ 0) inferInstance (ret (.int k (x.tmod y)) s)
  | .and => ret (.int k (bitsOf .and k x y)) s
  | .or => ret (.int k (bitsOf .or k x y)) s
  | .xor => ret (.int k (bitsOf .xor k x y)) s
  | .andNot => ret (.int k (bitsOf .andNot k x y)) s
  | .eql => ret (.prop (x = y) inferInstance) s
  | .neq => ret (.prop (x ≠ y) inferInstance) s
  | .lss => ret (.prop (x < y) inferInstance) s
  | .leq => ret (.prop (x ≤ y) inferInstance) s
  | .gtr => ret (.prop (x > y) inferInstance) s
  | .geq => ret (.prop (x ≥ y) inferInstance) s
  | _ => .fail
def shiftInt (op : BinOp) (k : IntKind) (x y : Int) (s : St) : Tr E Out :=
  match op with
  | .shl => .test (0 ≤ y) inferInstance (.test (y ≤ (k.bits : Int)) inferInstance (ret (.int k (k.wrap (x * 2 ^ y.toNat))) s))
  | .shr => .test (0 ≤ y) inferInstance (.test (y ≤ (k.bits : Int)) inferInstance (ret (.int k (x.fdiv (2 ^ y.toNat))) s))
  | _ => .fail
def boolOf : AV → Option Bool
  | .bool b => some b
  | .tt => some true
  | .ff => some false
  | .prop p d => some (@decide p d)
  | _ => none
/-- Two structs of scalar fields that are alike: a conjunction over their cells. -/
def eqCells (ti : Nat → Option TI) : Nat → List (Nat × Nat) → List AV → List AV → Option Bool
  | _, [], [], [] => some true
  | k, (o, t) :: fl, a :: l, b :: r => match Nat.beq o k, ti t, eqCells ti (k + 1) fl l r with
    | true, some ⟨false, .int _, _⟩, some c => match a, b with
      | .int k x, .int k' y => match kindEq k k' with
        | true => some (decide (x = y) && c)
        | false => none
      | _, _ => none
    | true, some ⟨false, .str, _⟩, some c => match a, b with
      | .str x, .str y => some (decide (x = y) && c)
      | _, _ => none
    | true, some ⟨false, .bool, _⟩, some c => match boolOf a, boolOf b with
      | some x, some y => some ((x == y) && c)
      | _, _ => none
    | _, _, _ => none
  | _, _, _, _ => none
def isShift : BinOp → Bool
  | .shl => true
  | .shr => true
  | _ => false
def binOpV (op : BinOp) (t : TypeId) (s : St) : AV → AV → Tr E Out
  | .int k a, .int k' b => match isShift op with
    | true => shiftInt op k a b s
    | false => match kindEq k k' with
      | true => binInt op k a b s
      | false => .fail
  | .str a, .str b => match op with
    | .add => .test (a.size + b.size < maxRow) inferInstance (ret (.str (a ++ b)) s)
    | .eql => ret (.prop (a = b) inferInstance) s
    | .neq => ret (.prop (a ≠ b) inferInstance) s
    | _ => .fail
  | .agg l, .agg r => match get? E.ti t, get? E.fl t with
    | some ti, some fl => match ti.agg with
      | true => match eqCells (get? E.ti) 0 fl l r with
        | some c => match op with
          | .eql => ret (.bool c) s
          | .neq => ret (.bool (!c)) s
          | _ => .fail
        | none => .fail
      | false => .fail
    | _, _ => .fail
  | a, b => match boolOf a, boolOf b, get? E.ti t with
    | some x, some y, some ⟨false, .bool, _⟩ => match op with
      | .eql => ret (.bool (x == y)) s
      | .neq => ret (.bool (!(x == y))) s
      | _ => .fail
    | _, _, _ => .fail
def notV : AV → Option AV
  | .tt => some .ff
  | .ff => some .tt
  | .bool b => some (.bool (!b))
  | .prop p d => some (.prop (¬ p) (@instDecidableNot p d))
  | _ => none
def unOpV (op : UnOp) (s : St) (v : AV) : Tr E Out :=
  match op, v with
  | .neg, .int k n => ret (.int k (k.wrap (0 - n))) s
  | .not, v => match notV v with | some u => ret u s | none => .fail
  | _, _ => .fail
def elTi (E : Env) (t : Nat) : Option TI := match get? E.el t with
  | some e => get? E.ti e
  | none => none
def isByte : Option TI → Bool
  | some ⟨false, .int .u8, _⟩ => true
  | _ => false
def convOp (src dst esrc edst : Option TI) (s : St) (v : AV) : Tr E Out :=
  match src, dst with
  | some ⟨false, a, _⟩, some ⟨false, b, _⟩ => match b, v with
    | .int k, .int _ n => ret (.int k (k.wrap n)) s
    | .str, .str x => ret (.str x) s
    | .row _, .str x => match isByte edst with
      | true => .test (x.size < maxRow) inferInstance (.ok ⟨.own s.nx, [(s.nx, .row 0 (.int .u8) (bytesOf x) none)], s.nx + 1⟩)
      | false => .fail
    | .str, .nil => match isByte esrc with
      | true => ret (.str ByteArray.empty) s
      | false => .fail
    | .str, v => match isByte esrc with
      | true => match rowOf s.hp v with
        | some r => match rowCast r.t (.int .u8) r.xs with
          | some xs => ret (.str (strOf xs)) s
          | none => .fail
        | none => .fail
      | false => .fail
    | _, _ => .fail
  | _, _ => .fail
def fieldAt (fl : List (Nat × Nat)) (f : Nat) (s : St) : AV → Tr E Out
  | .ptr id off => match fl[f]?, hget s.hp id with | some (o, _), .cells _ => ret (.ptr id (off + o)) s | _, _ => .fail
  | .elp id i off => match fl[f]?, hget s.hp id with | some (o, _), .row _ _ _ _ => ret (.elp id i (off + o)) s | _, _ => .fail
  | .rop t x off ls => match fl[f]?, lvs s.hp ls with | some (o, _), true => ret (.rop t x (off + o) ls) s | _, _ => .fail
  | _ => .fail
def fieldOf (fl : List (Nat × Nat)) (f : Nat) (s : St) : AV → Tr E Out
  | .agg l => match fl[f]? with
    | some (o, t) => match get? E.ti t with
      | some ti => match Nat.ble (o + ti.ty.sz) l.length with
        | true => match pieceOf ti l o with | some v => ret v s | none => .fail
        | false => .fail
      | none => .fail
    | none => .fail
  | _ => .fail
/-- A struct's cells: the parts laid over the zero value. -/
def buildCells (fl : List (Nat × Nat)) (ti : Nat → Option TI) : List AV → List (Nat × AV) → Option (List AV)
  | cs, [] => some cs
  | cs, (i, v) :: l => match fl[i]? with
    | some (o, t) => match ti t with
      | some x => match plainV v && (Nat.beq (cellsOf v).length x.ty.sz && Nat.ble (o + x.ty.sz) cs.length) with
        | true => buildCells fl ti (splice cs o (cellsOf v)) l
        | false => none
      | none => none
    | none => none
def parts (tm : Tm) : List (Nat × Operand) → List (Nat × AV)
  | [] => []
  | (i, x) :: l => (i, opnd tm x) :: parts tm l
def minMax (op : Builtin) : Int → List AV → Option Int
  | a, [] => some a
  | a, .int .i64 b :: l => match op with
    | .max => minMax op (if b > a then b else a) l
    | _ => minMax op (if b < a then b else a) l
  | _, _ => none
def builtinOp (b : Builtin) (ts : List TypeId) (s : St) (args : List AV) : Tr E Out :=
  match b, args with
  | .len, [x] => match ts with
    | [t] => match get? E.ti t with
      | some ti => lenOp ti s x
      | none => match get? E.ps t, x with
        | some _, .spn id n => match hget s.hp id with
          | .cells _ => ret (.int .i64 (n : Int)) s
          | _ => .fail
        | _, _ => .fail
    | _ => .fail
  | .append, [x, y] => match ts with
    | [t, t2] => match get? E.el t, get? E.ti t2 with
      | some e, some ti2 => match get? E.ti e with
        | some ti => match Nat.ble 1 ti.bytes && Nat.ble ti.bytes 1024 && (!ti2.agg && (isRow ti2.ty || isStr ti2.ty)) with
          | true => appendOp ti s x y
          | false => .fail
        | none => .fail
      | _, _ => .fail
    | _ => .fail
  | .max, .int .i64 a :: l => match minMax .max a l with | some r => ret (.int .i64 r) s | none => .fail
  | .min, .int .i64 a :: l => match minMax .min a l with | some r => ret (.int .i64 r) s | none => .fail
  | _, _ => .fail
def optOpnd (tm : Tm) : Option Operand → Option AV
  | none => none
  | some x => some (opnd tm x)
def evalOp (o : Oper) (s : St) : Tr E Out :=
  match o.op with
  | .move x => ret (opnd s.tm x) s
  | .assign x => ret (opnd s.tm x) s
  | .pick c a b => match opnd s.tm c with
    | .tt => ret (opnd s.tm a) s
    | .ff => ret (opnd s.tm b) s
    | .bool x => .ite (x = true) inferInstance (ret (opnd s.tm a) s) (ret (opnd s.tm b) s)
    | .prop p d => .ite p d (ret (opnd s.tm a) s) (ret (opnd s.tm b) s)
    | _ => .fail
  | .alloc t => match get? E.ti t with
    | some ti => .ok ⟨.ptr s.nx 0, [(s.nx, .cells ti.ty.zero)], s.nx + 1⟩
    | none => .fail
  | .box t x => match get? E.ti t with
    | some ti => match plainV (opnd s.tm x) && Nat.beq (cellsOf (opnd s.tm x)).length ti.ty.sz with
      | true => .ok ⟨.ptr s.nx 0, [(s.nx, .cells (cellsOf (opnd s.tm x)))], s.nx + 1⟩
      | false => .fail
    | none => .fail
  | .build t ps => match get? E.ti t, get? E.fl t with
    | some ti, some fl => match buildCells fl (get? E.ti) ti.ty.zero (parts s.tm ps.toList) with
      | some cs => ret (.agg cs) s
      | none => .fail
    | some ti, none => match get? E.ar t with
      | some (e, m) => match get? E.ti e with
        | some te => match buildCells (arrFl e te.ty.sz m 0) (get? E.ti) ti.ty.zero (parts s.tm ps.toList) with
          | some cs => ret (.agg cs) s
          | none => .fail
        | none => .fail
      | none => .fail
    | _, _ => .fail
  | .buildSlice t len ps => match get? E.el t with
    | some e => match get? E.ti e with
      | some ti => litOp ti len s (parts s.tm ps.toList)
      | none => .fail
    | none => match get? E.ps t with
      | some _ => spanOp len s (parts s.tm ps.toList)
      | none => .fail
  | .load t a => match get? E.ti t with
    | some ti => loadOp ti s (opnd s.tm a)
    | none => match get? E.pe t with
      | some _ => spanLoad s (opnd s.tm a)
      | none => .fail
  | .store t a x => match get? E.ti t with | some ti => storeOp ti s (opnd s.tm x) (opnd s.tm a) | none => .fail
  | .nilCheck x => match opnd s.tm x with
    | .ptr id off => match hget s.hp id with | .cells _ => ret (.ptr id off) s | _ => .fail
    | .elp id i off => match hget s.hp id with | .row _ _ _ _ => ret (.elp id i off) s | _ => .fail
    | .rop t x off ls => match lvs s.hp ls with | true => ret (.rop t x off ls) s | false => .fail
    | _ => .fail
  | .binOp op t x y _ => binOpV op t s (opnd s.tm x) (opnd s.tm y)
  | .unOp op _ x => unOpV op s (opnd s.tm x)
  | .convert a b x => convOp (get? E.ti a) (get? E.ti b) (elTi E a) (elTi E b) s (opnd s.tm x)
  | .makeFunc (.func f) first caps => match first.toList with
    | [] => ret (.fn f (opnds s.tm caps.toList)) s
    | _ => .fail
  | .makeSlice t l c => match get? E.el t with
    | some e => match get? E.ti e with
      | some ti => makeOp ti s (opnd s.tm l) (opnd s.tm c)
      | none => .fail
    | none => .fail
  | .slice t x lo hi none => match opnd s.tm x, get? E.ti t with
    | .str b, some ⟨false, .str, _⟩ => sliceStr s b (optOpnd s.tm lo) (optOpnd s.tm hi)
    | v, _ => match get? E.el t with
      | some e => match get? E.ti e with
        | some ti => sliceOp ti s v (optOpnd s.tm lo) (optOpnd s.tm hi)
        | none => .fail
      | none => .fail
  | .fieldAddr t x f => match get? E.fl t with | some fl => fieldAt fl f s (opnd s.tm x) | none => .fail
  | .field t x f => match get? E.fl t with | some fl => fieldOf fl f s (opnd s.tm x) | none => .fail
  | .indexAddr t x i => match get? E.el t with
    | some e => match get? E.ti e with
      | some ti => indexOp ti s (opnd s.tm x) (opnd s.tm i)
      | none => .fail
    | none => match get? E.ps t with
      | some _ => spanIdx s (opnd s.tm x) (opnd s.tm i)
      | none => match get? E.ar t with
        | some (e, m) => match get? E.ti e with
          | some te => arrIdx te.ty.sz m s (opnd s.tm x) (opnd s.tm i)
          | none => .fail
        | none => .fail
  | .index t x i => match opnd s.tm x, opnd s.tm i, get? E.ti t with
    | .str b, .int _ n, some ⟨false, .str, _⟩ => .test (0 ≤ n) inferInstance (.test (n < (b.size : Int)) inferInstance (ret (.int .u8 (bt b n)) s))
    | _, _, _ => .fail
  | .extract x i => match opnd s.tm x with
    | .tup l => match l[i]? with | some v => ret v s | none => .fail
    | _ => .fail
  | .call c => match c.callee with
    | .builtin b => builtinOp b c.argTypes.toList s (opnds s.tm c.args.toList)
    | .value f => match opnd s.tm f with
      | .fn g caps => callOp s g (opnds s.tm c.args.toList ++ caps)
      | _ => .fail
    | _ => .fail
  | _ => .fail
/-- Where the rows inside are shared already, the blocks that they lie in are let go: what is loaded hangs on the row no more. -/
def loadRel (ti : TI) (s : St) : AV → Option Out
  | .elp id i off => match hget s.hp id with
    | .row ver t xs (some ls) => match (!t.flat) && (lvs s.hp ls && (ls.all (fun l => !Nat.beq l.1 id) && Nat.ble (off + ti.ty.sz) t.sz)) with
      | true => match pieceOf ti (t.avs ls (rd t xs i)) off with
        | some v => some ⟨v, [(id, .row (ver + 1) t xs (some ls))], s.nx⟩
        | none => none
      | false => none
    | _ => none
  | _ => none
/-- An operation of a region in order. -/
def evalR (o : Oper) (s : St) : Tr E Out :=
  match o.op with
  | .load t a => match get? E.ti t with
    | some ti => match loadRel ti s (opnd s.tm a) with
      | some r => .ok r
      | none => evalOp o s
    | none => evalOp o s
  | _ => evalOp o s
/-! ### regions -/
def St.put (s : St) (dst : Option Tmp) (o : Out) : St := ⟨match dst with | some d => (d, o.v) :: s.tm | none => s.tm, o.eff ++ s.hp, o.nx⟩
def dstOf (ops : Array Oper) (j : Nat) : Option Tmp := match ops[j]? with
  | some o => o.dst
  | none => none
def dstOk (n : Nat) : Option Tmp → Bool
  | some d => Nat.blt d n
  | none => true
/-- Is the operation wanted? 'none': it hangs on a bool that is not known. -/
def regS (orc : Orc E) {R : Type} (ntm : Nat) (ops : Array Oper) (κ : St → Option R) : List Oper → St → Option R
  | [], s => κ s
  | o :: rest, s => match dstOk ntm o.dst with
    | false => none
    | true =>
      let go (s : St) : Option R := (evalR (E := E) o s).run orc fun r => regS orc ntm ops κ rest (s.put o.dst r)
      let skip (s : St) : Option R := regS orc ntm ops κ rest (s.put o.dst ⟨.tup [], [], s.nx⟩)
      match o.guard with
      | none => go s
      | some (j, want) => match dstOf ops j with
        | none => none
        | some t => match tget s.tm t with
          | .tt => match want with | true => go s | false => skip s
          | .ff => match want with | true => skip s | false => go s
          | .bool b => match want with
            | true => if b = true then go { s with tm := (t, .tt) :: s.tm } else skip { s with tm := (t, .ff) :: s.tm }
            | false => if b = true then skip { s with tm := (t, .tt) :: s.tm } else go { s with tm := (t, .ff) :: s.tm }
          | .prop p d => match want with
            | true => @ite _ p d (go { s with tm := (t, .tt) :: s.tm }) (skip { s with tm := (t, .ff) :: s.tm })
            | false => @ite _ p d (skip { s with tm := (t, .tt) :: s.tm }) (go { s with tm := (t, .ff) :: s.tm })
          | .tup l => match l with
            | [] => skip s
            | _ => none
          | _ => none
end Go.Vm
namespace Go.Vm
set_option linter.unusedVariables false
set_option linter.unusedSimpArgs false
open Go
variable {E : Env}
/-- What an operation of a region gave: 'view' is the memory it was read with, 'lo' and 'hi' are the names' bounds ahead and behind. -/
structure Ent where
  idx : Nat
  deps : Nat
  rd : List Nat
  dst : Option Tmp
  v : AV
  eff : Hp
  view : Hp
  lo : Nat
  hi : Nat
def entDeps : List Ent → Nat → Nat
  | [], _ => 0
  | e :: l, k => match Nat.beq e.idx k with
    | true => e.deps
    | false => entDeps l k
def depsOf (acc : List Ent) : List Edge → Nat
  | [] => 0
  | e :: l => match Region.binds .any e with
    | true => 2 ^ e.on ||| entDeps acc e.on ||| depsOf acc l
    | false => depsOf acc l
/-- The edges that bind lead back. -/
def backE (k : Nat) : List Edge → Bool
  | [] => true
  | e :: l => (!(Region.binds .any e) || Nat.blt e.on k) && backE k l
def envTm (D : Nat) : List Ent → Tm → Tm
  | [], b => b
  | e :: l, b => match e.dst with
    | some d => match Nat.testBit D e.idx with
      | true => (d, e.v) :: envTm D l b
      | false => (d, .junk) :: envTm D l b
    | none => envTm D l b
def deadAll : Hp → Hp → Hp
  | [], b => b
  | (i, _) :: l, b => (i, .dead) :: deadAll l b
def envHp (D : Nat) : List Ent → Hp → Hp
  | [], b => b
  | e :: l, b => match Nat.testBit D e.idx with
    | true => e.eff ++ envHp D l b
    | false => deadAll e.eff (envHp D l b)
def allTm : List Ent → Tm → Tm
  | [], b => b
  | e :: l, b => match e.dst with
    | some d => (d, e.v) :: allTm l b
    | none => allTm l b
def allHp : List Ent → Hp → Hp
  | [], b => b
  | e :: l, b => e.eff ++ allHp l b
/-- A bool known now. -/
def setEnt (t : Tmp) (v : AV) : List Ent → List Ent
  | [] => []
  | e :: l => (match e.dst with
    | some d => match Nat.beq d t with
      | true => { e with v := v }
      | false => e
    | none => e) :: setEnt t v l
def hpFree : Op → Bool
  | .move _ | .assign _ | .pick .. | .binOp .. | .unOp .. | .extract .. | .build .. => true
  | .makeFunc .. => true
  | _ => false
/-- The slots that an operation reads; what it sees of slots and memory. -/
def tmpsOf : List Operand → List Nat
  | [] => []
  | .tmp t :: l => t :: tmpsOf l
  | _ :: l => tmpsOf l
def readsOf (op : Op) : List Nat := tmpsOf op.operands.toList
def pickTm (tm : Tm) : List Nat → Tm
  | [] => []
  | t :: l => (t, tget tm t) :: pickTm tm l
def lbIds : List Lb → List Nat
  | [] => []
  | (i, _) :: l => i :: lbIds l
mutual
/-- The names that a value speaks of. -/
def AV.ids : AV → List Nat
  | .lst _ _ ls => lbIds ls
  | .sub i _ _ _ => [i]
  | .own i => [i]
  | .inn i _ _ _ => [i]
  | .ptr i _ => [i]
  | .spn i _ => [i]
  | .elp i _ _ => [i]
  | .rop _ _ _ ls => lbIds ls
  | .agg l => AV.idsL l
  | .tup l => AV.idsL l
  | .fn _ l => AV.idsL l
  | _ => []
def AV.idsL : List AV → List Nat
  | [] => []
  | a :: l => a.ids ++ AV.idsL l
end
def Blk.ids : Blk → List Nat
  | .cells l => AV.idsL l
  | .row _ _ _ inner => lbIds (innerL inner)
  | .dead => []
def hpIds : Hp → List Nat
  | [] => []
  | (_, b) :: l => b.ids ++ hpIds l
def tmIds : Tm → List Nat
  | [] => []
  | (_, v) :: l => v.ids ++ tmIds l
def idsAt (hp : Hp) : List Nat → List Nat
  | [] => []
  | i :: l => (hget hp i).ids ++ idsAt hp l
def reach (hp : Hp) : Nat → List Nat → List Nat
  | 0, l => l
  | n + 1, l => l ++ reach hp n (idsAt hp l)
def pickHp (hp : Hp) : List Nat → Hp
  | [] => []
  | i :: l => (i, hget hp i) :: pickHp hp l
def viewOf (free : Bool) (hp : Hp) (tm : Tm) : Hp := match free with
  | true => []
  | false => pickHp hp (reach hp 3 (tmIds tm))
def allB (f : Nat → Bool) : List Nat → Bool
  | [] => true
  | i :: l => f i && allB f l
def isDead (h : Hp) (i : Nat) : Bool := match hget h i with | .dead => true | _ => false
/-- A name of the base, or one made by an operation of D. -/
def madeBy (D : Nat) (nx0 : Nat) : List Ent → Nat → Bool
  | [], i => Nat.blt i nx0
  | e :: l, i => (Nat.testBit D e.idx && (Nat.ble e.lo i && Nat.blt i e.hi)) || madeBy D nx0 l i
def keysOf : Hp → List Nat
  | [] => []
  | (i, _) :: l => i :: keysOf l
/-- What is touched was not seen by operations that may come later. -/
def unseen (D nx : Nat) (ks : List Nat) : List Ent → Bool
  | [] => true
  | e :: l => (Nat.testBit D e.idx || allB (fun i => Nat.ble nx i || isDead e.view i) ks) && unseen D nx ks l
def newDst (dst : Option Tmp) : List Ent → Bool
  | [] => true
  | e :: l => (match dst, e.dst with
    | some d, some d' => !(Nat.beq d d')
    | _, _ => true) && newDst dst l
/-- Touched by an operation that is not of D. -/
def hiddenBy (D : Nat) : List Ent → Nat → Bool
  | [], _ => false
  | e :: l, i => (!(Nat.testBit D e.idx) && memN (keysOf e.eff) i) || hiddenBy D l i
def pOk (D nx0 : Nat) (acc : List Ent) (i : Nat) : Bool := madeBy D nx0 acc i && !(hiddenBy D acc i)
/-- Seen as it is. -/
def qOk (D nx0 : Nat) (acc : List Ent) (env view : Hp) (i : Nat) : Bool := pOk D nx0 acc i && (!(isDead view i) || isDead env i)
def unread (D : Nat) (dst : Option Tmp) : List Ent → Bool
  | [] => true
  | e :: l => (Nat.testBit D e.idx || (match dst with | some d => !(memN e.rd d) | none => true)) && unread D dst l
def entOk (D nx nx0 : Nat) (acc : List Ent) (env view : Hp) (free : Bool) (out : Out) : Bool :=
  (Nat.ble nx out.nx && allB (fun i => (Nat.ble nx i && Nat.blt i out.nx) || !(isDead view i)) (keysOf out.eff)) &&
  (unseen D nx (keysOf out.eff) acc &&
  (match free with
  | true => allB (fun i => madeBy D nx0 acc i) out.v.ids
  | false => allB (fun i => (Nat.ble nx i && Nat.blt i out.nx) || qOk D nx0 acc env view i) (out.v.ids ++ hpIds out.eff) && allB (fun i => qOk D nx0 acc env view i) (hpIds view)))
def regD (orc : Orc E) {R : Type} (ntm : Nat) (ops : Array Oper) (κ : St → Option R) (base : St) : List Oper → Nat → List Ent → Nat → Option R
  | [], _, acc, nx => κ ⟨allTm acc base.tm, allHp acc base.hp, nx⟩
  | o :: rest, k, acc, nx => match dstOk ntm o.dst && (backE k o.after.toList && (newDst o.dst acc && unread (depsOf acc o.after.toList) o.dst acc)) with
    | false => none
    | true =>
      let D := depsOf acc o.after.toList
      let go (acc : List Ent) : Option R :=
        let tm := pickTm (envTm D acc base.tm) (readsOf o.op)
        let env := envHp D acc base.hp
        let view := viewOf (hpFree o.op) env tm
        (evalOp (E := E) o ⟨tm, view, nx⟩).run orc fun r =>
          match entOk D nx base.nx acc env view (hpFree o.op) r with
          | true => regD orc ntm ops κ base rest (k + 1) (⟨k, D, readsOf o.op, o.dst, r.v, r.eff, view, nx, r.nx⟩ :: acc) r.nx
          | false => none
      let skip (acc : List Ent) : Option R := regD orc ntm ops κ base rest (k + 1) (⟨k, D, [], o.dst, .tup [], [], [], nx, nx⟩ :: acc) nx
      match o.guard with
      | none => go acc
      | some (j, want) => match Nat.testBit D j, dstOf ops j with
        | true, some t => match tget (envTm D acc base.tm) t with
          | .tt => match want with | true => go acc | false => skip acc
          | .ff => match want with | true => skip acc | false => go acc
          | .bool b => match want with
            | true => if b = true then go (setEnt t .tt acc) else skip (setEnt t .ff acc)
            | false => if b = true then skip (setEnt t .tt acc) else go (setEnt t .ff acc)
          | .prop p d => match want with
            | true => @ite _ p d (go (setEnt t .tt acc)) (skip (setEnt t .ff acc))
            | false => @ite _ p d (skip (setEnt t .tt acc)) (go (setEnt t .ff acc))
          | .tup l => match l with
            | [] => skip acc
            | _ => none
          | _ => none
        | _, _ => none
/-! ### code -/
inductive Ex where
  | normal | exit (id : Nat) | ret
def iter {R : Type} (hi : HSk) (T : SkSt) (body : (Ex → St → Option R) → St → Option R) (κ : Ex → St → Option R) : Nat → Ds T.ats → Option R
  | 0, _ => none
  | n + 1, d => body (fun e s => match e with
    | .normal => (T.take hi s).bind (iter hi T body κ n)
    | .exit i => κ (.exit i) s
    | .ret => κ .ret s) (T.fill d)
/-- A loop told round by round. -/
def unroll {R : Type} (body : An → (Ex → St → Option R) → St → Option R) (κ : Ex → St → Option R) : An → St → Option R
  | .unr a l, s => body a (fun e s => match e with
    | .normal => unroll body κ l s
    | .exit i => κ (.exit i) s
    | .ret => κ .ret s) s
  | _, _ => none
def onNormal {R : Type} (f : St → Option R) (κ : Ex → St → Option R) : Ex → St → Option R
  | .normal, s => f s
  | .exit i, s => κ (.exit i) s
  | .ret, s => κ .ret s
def onExit {R : Type} (id : Nat) (κ : Ex → St → Option R) : Ex → St → Option R
  | .normal, s => κ .normal s
  | .exit i, s => match Nat.beq i id with
    | true => κ .normal s
    | false => κ (.exit i) s
  | .ret, s => κ .ret s
def An.l : An → An
  | .seq a _ => a
  | .cut a _ _ => a
  | _ => .nil
def An.r : An → An
  | .seq _ b => b
  | .cut _ _ b => b
  | _ => .nil
def den (orc : Orc E) {R : Type} (hi : HSk) (ntm n : Nat) : Code → An → (Ex → St → Option R) → St → Option R
  | .skip, _, κ, s => κ .normal s
  | .region _ ops draw, _, κ, s => match draw with
    | false => regS orc ntm ops (κ .normal) ops.toList s
    | true => regD orc ntm ops (κ .normal) s ops.toList 0 [] s.nx
  | .seq a b, an, κ, s => match an with
    | .cut x T y => den orc hi ntm n a x (onNormal (fun s => (T.take hi s).bind fun d => den orc hi ntm n b y κ (T.fill d)) κ) s
    | an => den orc hi ntm n a an.l (onNormal (den orc hi ntm n b an.r κ) κ) s
  | .cond c a b, an, κ, s => match opnd s.tm c with
    | .tt => den orc hi ntm n a an.l κ s
    | .ff => den orc hi ntm n b an.r κ s
    | .bool x => if x = true then den orc hi ntm n a an.l κ s else den orc hi ntm n b an.r κ s
    | .prop p d => @ite _ p d (den orc hi ntm n a an.l κ s) (den orc hi ntm n b an.r κ s)
    | _ => none
  | .block id c, an, κ, s => den orc hi ntm n c an (onExit id κ) s
  | .loop c, an, κ, s => match an with
    | .loop T a => (T.take hi s).bind (iter hi T (den orc hi ntm n c a) κ n)
    | an => unroll (den orc hi ntm n c) κ an s
  | .exit id, _, κ, s => κ (.exit id) s
  | .ret, _, κ, s => κ .ret s
  | _, _, _, _ => none
/-! ### functions -/
def resOf (E : Env) (s : St) : ResultVar → Option AV
  | .tmp t => some (tget s.tm t)
  | .cell a ty => match get? E.ti ty, tget s.tm a with
    | some ti, .ptr id off => match hget s.hp id with
      | .cells l => match Nat.ble (off + ti.ty.sz) l.length with
        | true => pieceOf ti l off
        | false => none
      | _ => none
    | _, _ => none
def resL (E : Env) (s : St) : List ResultVar → Option (List AV)
  | [] => some []
  | r :: l => match resOf E s r with
    | some v => match resL E s l with
      | some vs => some (v :: vs)
      | none => none
    | none => none
def retV : List AV → AV
  | [v] => v
  | l => .tup l
def Sig.out (S : Sig) (v : AV) (s : St) : Option (Ds S.rats) := match takeL [S.res] S.hout (inMp S.hout S.hin) [v] s.hp s.nx with
  | some g => typed _ g.ds
  | none => none
def entTm (bs : List Sk) (k : Nat) : List (Nat × Sk) := match bs with
  | [] => []
  | s :: l => (k, s) :: entTm l (k + 1)
def Sig.entry (S : Sig) (ds : List DV) : St := SkSt.inst ⟨entTm S.params 0, S.hin⟩ ds
def finish (fn : Func) (S : Sig) (E : Env) : Ex → St → Option (Ds S.rats)
  | .exit _, _ => none
  | _, s => match resL E s fn.results.toList with
    | some l => S.out (retV l) s
    | none => none
def body (E : Env) (orc : Orc E) (k : Nat) (fn : Func) (S : Sig) (c : Code) (ds : List DV) : Option (Ds S.rats) :=
  den orc S.hin fn.ntmps k c S.ann (finish fn S E) (S.entry ds)
/-- A function's body, once; of functions that are not in the list: what is known of them ('prim'). -/
def step (E : Env) (prim orc : Orc E) (k g : Nat) (ds : List DV) : Option (Ds (ratsOf (get? E.sg g))) :=
  match get? E.fn g with
  | some fn => match get? E.sg g with
    | some S => match fn.body with
      | some c => body E orc k fn S c ds
      | none => none
    | none => none
  | none => prim g ds
def fun' (E : Env) (prim : Orc E) : Nat → Orc E
  | 0 => fun _ _ => none
  | k + 1 => step E prim (fun' E prim k) k
end Go.Vm
namespace Go.Vm
set_option linter.unusedVariables false
set_option linter.unusedSimpArgs false
open Go
variable {E : Env}
/-- A step into code: the first or second part; a loop's body with what is left of its rounds. -/
inductive Dir where
  | a | b | loop (n : Nat) | unr | next
abbrev Kt (R : Type) := Ex → St → Option R
structure Here (R : Type) where
  c : Code
  an : An
  κ : Kt R
def loopK {R : Type} (hi : HSk) (T : SkSt) (body : Kt R → St → Option R) (κ : Kt R) (n : Nat) : Kt R := fun e s => match e with
  | .normal => (T.take hi s).bind (iter hi T body κ n)
  | .exit i => κ (.exit i) s
  | .ret => κ .ret s
/-- One step to a place. -/
def goTo (orc : Orc E) {R : Type} (hi : HSk) (ntm n : Nat) : Dir → Here R → Here R
  | .a, ⟨.seq a b, .cut x T y, κ⟩ => ⟨a, x, onNormal (fun s => (T.take hi s).bind fun d => den orc hi ntm n b y κ (T.fill d)) κ⟩
  | .a, ⟨.seq a b, an, κ⟩ => ⟨a, an.l, onNormal (den orc hi ntm n b an.r κ) κ⟩
  | .b, ⟨.seq _ b, .cut _ _ y, κ⟩ => ⟨b, y, κ⟩
  | .b, ⟨.seq _ b, an, κ⟩ => ⟨b, an.r, κ⟩
  | .a, ⟨.cond _ a _, an, κ⟩ => ⟨a, an.l, κ⟩
  | .b, ⟨.cond _ _ b, an, κ⟩ => ⟨b, an.r, κ⟩
  | .a, ⟨.block id c, an, κ⟩ => ⟨c, an, onExit id κ⟩
  | .loop m, ⟨.loop c, .loop T a, κ⟩ => ⟨c, a, loopK hi T (den orc hi ntm n c a) κ m⟩
  | .unr, ⟨.loop c, .unr a l, κ⟩ => ⟨c, a, fun e s => match e with
    | .normal => unroll (den orc hi ntm n c) κ l s
    | .exit i => κ (.exit i) s
    | .ret => κ .ret s⟩
  | .next, ⟨.loop c, .unr _ l, κ⟩ => ⟨.loop c, l, κ⟩
  | _, h => h
def goAll (orc : Orc E) {R : Type} (hi : HSk) (ntm n : Nat) : List Dir → Here R → Here R
  | [], h => h
  | d :: l, h => goAll orc hi ntm n l (goTo orc hi ntm n d h)
def top (E : Env) (prim : Orc E) (g k : Nat) (p : List Dir) : Here (Ds (ratsOf (get? E.sg g))) :=
  match get? E.sg g with
  | some S => match get? E.fn g with
    | some fn => match fn.body with
      | some c => goAll (fun' E prim k) S.hin fn.ntmps k p ⟨c, S.ann, finish fn S E⟩
      | none => ⟨.skip, .nil, fun _ _ => none⟩
    | none => ⟨.skip, .nil, fun _ _ => none⟩
  | none => ⟨.skip, .nil, fun _ _ => none⟩
def ntmOf (E : Env) (g : Nat) : Nat := match get? E.fn g with | some fn => fn.ntmps | none => 0
def hinOf (E : Env) (g : Nat) : HSk := match get? E.sg g with | some S => S.hin | none => []
def loopAt (E : Env) (prim : Orc E) (g k : Nat) (p : List Dir) (T : SkSt) (n : Nat) (d : Ds T.ats) : Option (Ds (ratsOf (get? E.sg g))) :=
  match top E prim g k p with
  | ⟨.loop c, .loop _ a, κ⟩ => iter (hinOf E g) T (den (fun' E prim k) (hinOf E g) (ntmOf E g) k c a) κ n d
  | _ => none
def cutAt (E : Env) (prim : Orc E) (g k : Nat) (p : List Dir) (T : SkSt) (d : Ds T.ats) : Option (Ds (ratsOf (get? E.sg g))) :=
  match top E prim g k p with
  | ⟨c, a, κ⟩ => den (fun' E prim k) (hinOf E g) (ntmOf E g) k c a κ (T.fill d)
end Go.Vm
