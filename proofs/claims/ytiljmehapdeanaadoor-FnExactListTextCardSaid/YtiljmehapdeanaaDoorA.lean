/- Shapes of the functions, and the functions that the reading comes to; no statement is proved here. -/
import Derived.Test.YtiljmehapdeanaaDoorVmA
import Derived.Test.YtiljmehapdeanaaDoorProg
import Derived.KernelRfl
import Derived.Lib.ItoaNum
import Derived.Lib.Join
import Derived.Lib.SplitLaws
import Derived.Lib.AtoiAll
namespace Go.Vm
open Go Go.Proofs
set_option linter.unusedVariables false
def str0 : ByteArray := ⟨#[48]⟩
def str1 : ByteArray := ⟨#[45]⟩
def str2 : ByteArray := ⟨#[46]⟩
def str3 : ByteArray := ⟨#[44]⟩
def str4 : ByteArray := ⟨#[110, 111, 32]⟩
def str5 : ByteArray := ⟨#[111, 107, 32]⟩
def str6 : ByteArray := ⟨#[32]⟩
def laws_toIntS.T_l0 : SkSt := ⟨[(0, .frz (.int .i64) []), (3, .own 0), (4, .int .i64)], [(0, .row (.int .i64) none)]⟩
def laws_toIntS.S : Sig := ⟨[.frz (.int .i64) []], [], .own 0, [(0, .row (.int .i64) none)], .seq .nil (.seq .nil (.seq (.seq .nil (.loop laws_toIntS.T_l0 .nil)) .nil))⟩
def spec_l01Num.T_l0 : SkSt := ⟨[(0, .int .i64), (3, .str), (4, .bool)], []⟩
def spec_l01Num.S : Sig := ⟨[.int .i64], [], .str, [], .seq .nil (.seq .nil (.seq .nil (.seq .nil (.seq (.loop spec_l01Num.T_l0 .nil) .nil))))⟩
def spec_l21List.T_l0 : SkSt := ⟨[(0, .frz (.int .i64) []), (3, .own 0), (4, .int .i64)], [(0, .row (.int .u8) none)]⟩
def spec_l21List.T_j0 : SkSt := ⟨[(0, .frz (.int .i64) []), (3, .own 0), (4, .int .i64)], [(0, .row (.int .u8) none)]⟩
def spec_l21List.T_l1 : SkSt := ⟨[(0, .frz (.int .i64) []), (3, .own 0), (4, .int .i64), (5, .str), (6, .int .i64)], [(0, .row (.int .u8) none)]⟩
def spec_l21List.S : Sig := ⟨[.frz (.int .i64) []], [], .str, [], .seq .nil (.seq .nil (.seq .nil (.seq (.seq .nil (.loop spec_l21List.T_l0 (.seq .nil (.seq (.cut .nil spec_l21List.T_j0 (.seq .nil (.seq .nil (.loop spec_l21List.T_l1 .nil)))) .nil)))) .nil)))⟩
def spec_l21Split.T_l0 : SkSt := ⟨[(0, .str), (1, .int .u8), (5, .own 0), (6, .int .i64), (7, .int .i64)], [(0, .row .str none)]⟩
def spec_l21Split.T_j0 : SkSt := ⟨[(0, .str), (1, .int .u8), (5, .own 0), (6, .int .i64), (7, .int .i64), (25, .bool)], [(0, .row .str none)]⟩
def spec_l21Split.S : Sig := ⟨[.str, .int .u8], [], .own 0, [(0, .row .str none)], .seq .nil (.seq .nil (.seq .nil (.seq (.seq .nil (.loop spec_l21Split.T_l0 (.seq .nil (.seq (.cut .nil spec_l21Split.T_j0 .nil) .nil)))) .nil)))⟩
def spec_l01In.S : Sig := ⟨[.int .i64, .int .i64, .int .i64], [], .bool, [], .nil⟩
def spec_l21Number.T_j0 : SkSt := ⟨[(0, .str), (4, .str)], []⟩
def spec_l21Number.T_l0 : SkSt := ⟨[(0, .str), (4, .str), (5, .int .i64), (6, .int .i64)], []⟩
def spec_l21Number.S : Sig := ⟨[.str], [], .tup [.int .i64, .bool], [], .seq .nil (.seq .nil (.cut .nil spec_l21Number.T_j0 (.seq .nil (.seq .nil (.seq (.seq .nil (.loop spec_l21Number.T_l0 .nil)) .nil)))))⟩
def spec_ParseList.T_l0 : SkSt := ⟨[(4, .own 0), (5, .own 1), (6, .int .i64)], [(0, .row (.int .i64) none), (1, .row .str none)]⟩
def spec_ParseList.S : Sig := ⟨[.str], [], .tup [.own 0, .bool], [(0, .row (.int .i64) none)], .seq .nil (.seq .nil (.seq .nil (.seq .nil (.seq .nil (.seq .nil (.seq (.seq .nil (.loop spec_ParseList.T_l0 .nil)) .nil))))))⟩
def spec_ListText.S : Sig := ⟨[.frz (.int .i64) []], [], .tup [.str, .bool], [], .nil⟩
def impl_isShort.S : Sig := ⟨[.int .i64], [], .bool, [], .nil⟩
def strconv_Itoa.S : Sig := ⟨[.int .i64], [], .str, [], .nil⟩
def strings_Join.S : Sig := ⟨[.frz .str [], .str], [], .str, [], .nil⟩
def impl_listText.T_l0 : SkSt := ⟨[(3, .own 0), (7, .frz (.int .i64) []), (8, .int .i64), (9, .int .i64)], [(0, .row .str none)]⟩
def impl_listText.S : Sig := ⟨[.frz (.int .i64) []], [], .str, [], .seq .nil (.seq .nil (.seq (.seq .nil (.loop impl_listText.T_l0 .nil)) .nil))⟩
def impl_ListText.T_l0 : SkSt := ⟨[(0, .frz (.int .i64) []), (9, .frz (.int .i64) []), (10, .int .i64), (11, .int .i64)], []⟩
def impl_ListText.S : Sig := ⟨[.frz (.int .i64) []], [], .tup [.str, .bool], [], .seq .nil (.seq .nil (.seq (.seq .nil (.loop impl_ListText.T_l0 .nil)) .nil))⟩
def laws_eqIntS.T_l0 : SkSt := ⟨[(0, .frz (.int .i64) []), (1, .frz (.int .i64) []), (5, .int .i64)], []⟩
def laws_eqIntS.S : Sig := ⟨[.frz (.int .i64) [], .frz (.int .i64) []], [], .bool, [], .seq .nil (.seq .nil (.seq (.seq .nil (.loop laws_eqIntS.T_l0 .nil)) .nil))⟩
def laws_FnExactListText.S : Sig := ⟨[.frz (.int .i64) []], [], .bool, [], .nil⟩
def laws_szIntS.S : Sig := ⟨[.frz (.int .i64) [], .int .i64], [], .int .i64, [], .nil⟩
def laws_szResult.S : Sig := ⟨[.agg [.int .i64, .frz (.int .i64) [], .frz (.int .i64) []], .int .i64], [], .int .i64, [], .nil⟩
def laws_szReply.S : Sig := ⟨[.agg [.int .i64, .int .i64, .int .i64, .frz (.int .i64) [], .frz (.int .i64) []], .int .i64], [], .int .i64, [], .nil⟩
def laws_toResult.S : Sig := ⟨[.agg [.int .i64, .frz (.int .i64) [], .frz (.int .i64) []]], [], .agg [.int .i64, .own 0, .own 1], [(0, .row (.int .i64) none), (1, .row (.int .i64) none)], .nil⟩
def laws_toReply.S : Sig := ⟨[.agg [.int .i64, .int .i64, .int .i64, .frz (.int .i64) [], .frz (.int .i64) []]], [], .agg [.int .i64, .int .i64, .int .i64, .own 0, .own 1], [(0, .row (.int .i64) none), (1, .row (.int .i64) none)], .nil⟩
def spec_ReplyText.T_j0 : SkSt := ⟨[(1, .ptr 0 0), (3, .str), (32, .bool)], [(0, .cells [.int .i64, .int .i64, .int .i64, .frz (.int .i64) [], .frz (.int .i64) []])]⟩
def spec_ReplyText.S : Sig := ⟨[.agg [.int .i64, .int .i64, .int .i64, .frz (.int .i64) [], .frz (.int .i64) []]], [], .str, [], .seq .nil (.seq .nil (.seq .nil (.seq (.cut .nil spec_ReplyText.T_j0 .nil) .nil)))⟩
def impl_ReplyText.T_j0 : SkSt := ⟨[(1, .ptr 0 0), (3, .str), (32, .bool)], [(0, .cells [.int .i64, .int .i64, .int .i64, .frz (.int .i64) [], .frz (.int .i64) []])]⟩
def impl_ReplyText.S : Sig := ⟨[.agg [.int .i64, .int .i64, .int .i64, .frz (.int .i64) [], .frz (.int .i64) []]], [], .str, [], .seq .nil (.seq .nil (.seq .nil (.seq (.cut .nil impl_ReplyText.T_j0 .nil) .nil)))⟩
def laws_eqResult.S : Sig := ⟨[.agg [.int .i64, .frz (.int .i64) [], .frz (.int .i64) []], .agg [.int .i64, .frz (.int .i64) [], .frz (.int .i64) []]], [], .bool, [], .nil⟩
def laws_eqReply.S : Sig := ⟨[.agg [.int .i64, .int .i64, .int .i64, .frz (.int .i64) [], .frz (.int .i64) []], .agg [.int .i64, .int .i64, .int .i64, .frz (.int .i64) [], .frz (.int .i64) []]], [], .bool, [], .nil⟩
def laws_FnExactReplyText.S : Sig := ⟨[.agg [.int .i64, .int .i64, .int .i64, .frz (.int .i64) [], .frz (.int .i64) []]], [], .bool, [], .nil⟩
noncomputable def E : Env where
  ti := [(3, ⟨false, (.int .i64), 8⟩), (4, ⟨false, .bool, 1⟩), (5, ⟨false, (.int .u8), 1⟩), (9, ⟨false, .str, 16⟩), (22, ⟨false, (.row (.int .i64)), 24⟩), (29, ⟨true, (.pair (.int .i64) (.pair (.row (.int .i64)) (.row (.int .i64)))), 56⟩), (31, ⟨true, (.pair (.int .i64) (.pair (.int .i64) (.pair (.int .i64) (.pair (.row (.int .i64)) (.row (.int .i64)))))), 72⟩), (34, ⟨true, (.pair (.int .i64) (.pair (.row (.int .i64)) (.row (.int .i64)))), 56⟩), (36, ⟨true, (.pair (.int .i64) (.pair (.int .i64) (.pair (.int .i64) (.pair (.row (.int .i64)) (.row (.int .i64)))))), 72⟩), (72, ⟨false, (.row .str), 24⟩), (80, ⟨false, (.row (.int .u8)), 24⟩)]
  el := [(22, 3), (72, 9), (80, 5)]
  ps := []
  pe := []
  ar := []
  fl := [(29, [(0, 3), (1, 22), (2, 22)]), (31, [(0, 3), (1, 3), (2, 29)]), (34, [(0, 3), (1, 22), (2, 22)]), (36, [(0, 3), (1, 3), (2, 34)])]
  sg := [(10, laws_toIntS.S), (40, spec_l01Num.S), (36, spec_l21List.S), (44, spec_l21Split.S), (59, spec_l01In.S), (45, spec_l21Number.S), (18, spec_ParseList.S), (9, spec_ListText.S), (37, impl_isShort.S), (42, strconv_Itoa.S), (56, strings_Join.S), (38, impl_listText.S), (11, impl_ListText.S), (12, laws_eqIntS.S), (3, laws_FnExactListText.S), (57, laws_szIntS.S), (39, laws_szResult.S), (13, laws_szReply.S), (41, laws_toResult.S), (15, laws_toReply.S), (14, spec_ReplyText.S), (16, impl_ReplyText.S), (43, laws_eqResult.S), (17, laws_eqReply.S), (4, laws_FnExactReplyText.S)]
  fn := [(10, Tryd.f10), (40, Tryd.f40), (36, Tryd.f36), (44, Tryd.f44), (59, Tryd.f59), (45, Tryd.f45), (18, Tryd.f18), (9, Tryd.f9), (37, Tryd.f37), (38, Tryd.f38), (11, Tryd.f11), (12, Tryd.f12), (3, Tryd.f3), (57, Tryd.f57), (39, Tryd.f39), (13, Tryd.f13), (41, Tryd.f41), (15, Tryd.f15), (14, Tryd.f14), (16, Tryd.f16), (43, Tryd.f43), (17, Tryd.f17), (4, Tryd.f4)]
def primItoa : List DV → Option (List DV)
  | [.int n] => if -9223372036854775808 ≤ n ∧ n ≤ 9223372036854775807 then some [.str ⟨(Lib.itoa n).toArray⟩] else none
  | _ => none
def primJoin : List DV → Option (List DV)
  | [.row u xs, .str sep] => match rowCast u .str xs with
    | some ys => if ys.length ≤ 140737488355328 ∧ (Lib.join (ys.map (·.data.toList)) sep.data.toList).length ≤ 140737488355328 then some [.str ⟨(Lib.join (ys.map (·.data.toList)) sep.data.toList).toArray⟩] else none
    | none => none
  | _ => none
def primL (g : Nat) (ds : List DV) : Option (List DV) := match Nat.beq g 42 with | true => primItoa ds | false => match Nat.beq g 56 with | true => primJoin ds | false => none
noncomputable def prim : Orc E := fun g ds => match primL g ds with | some l => typed (ratsOf (get? E.sg g)) l | none => none
def wrap64 (x : Int) : Int := IntKind.i64.wrap x
def rdI (l : List Int) (i : Int) : Int := l.getD i.toNat 0
noncomputable def laws_toIntS.f (k : Nat) (a0 : List Int) : Option (List Int) := fun' E prim k 10 [.row (.int .i64) a0]
noncomputable def laws_toIntS.l0 (k fu0 : Nat) (a0 : List Int) (i4 : Int) (out3 : List Int) : Option (List Int) := loopAt E prim 10 k [.b, .b, .a, .b, .a] laws_toIntS.T_l0 fu0 (a0, i4, out3)
noncomputable def spec_l01Num.f (k : Nat) (x0 : Int) : Option (ByteArray) := fun' E prim k 40 [.int x0]
noncomputable def spec_l01Num.l0 (k fu0 : Nat) (x0 : Int) (out3 : ByteArray) (neg4 : Bool) : Option (ByteArray) := loopAt E prim 40 k [.b, .b, .b, .b, .a, .a] spec_l01Num.T_l0 fu0 (x0, out3, neg4)
noncomputable def spec_l21List.f (k : Nat) (list0 : List Int) : Option (ByteArray) := fun' E prim k 36 [.row (.int .i64) list0]
noncomputable def spec_l21List.l0 (k fu0 : Nat) (list0 : List Int) (i4 : Int) (out3 : List Int) : Option (ByteArray) := loopAt E prim 36 k [.b, .b, .b, .a, .b, .a] spec_l21List.T_l0 fu0 (list0, i4, out3)
noncomputable def spec_l21List.j0 (k fu0 : Nat) (list0 : List Int) (i4 : Int) (out3 : List Int) : Option (ByteArray) := cutAt E prim 36 k [.b, .b, .b, .a, .b, .a, .loop fu0, .b, .a, .a, .b] spec_l21List.T_j0 (list0, i4, out3)
noncomputable def spec_l21List.l1 (k fu0 fu1 : Nat) (list0 : List Int) (i4 : Int) (n5 : ByteArray) (k6 : Int) (out3 : List Int) : Option (ByteArray) := loopAt E prim 36 k [.b, .b, .b, .a, .b, .a, .loop fu0, .b, .a, .a, .b, .b, .b, .a] spec_l21List.T_l1 fu1 (list0, i4, n5, k6, out3)
noncomputable def spec_l21Split.f (k : Nat) (text0 : ByteArray) (by1 : Int) : Option (List ByteArray) := fun' E prim k 44 [.str text0, .int by1]
noncomputable def spec_l21Split.l0 (k fu0 : Nat) (text0 : ByteArray) (by1 : Int) (at6 : Int) (i7 : Int) (out5 : List ByteArray) : Option (List ByteArray) := loopAt E prim 44 k [.b, .b, .b, .a, .b, .a] spec_l21Split.T_l0 fu0 (text0, by1, at6, i7, out5)
noncomputable def spec_l21Split.j0 (k fu0 : Nat) (text0 : ByteArray) (by1 : Int) (at6 : Int) (i7 : Int) (t25 : Bool) (out5 : List ByteArray) : Option (List ByteArray) := cutAt E prim 44 k [.b, .b, .b, .a, .b, .a, .loop fu0, .b, .a, .a, .b] spec_l21Split.T_j0 (text0, by1, at6, i7, t25, out5)
noncomputable def spec_l01In.f (k : Nat) (x0 : Int) (low1 : Int) (high2 : Int) : Option (Bool) := fun' E prim k 59 [.int x0, .int low1, .int high2]
noncomputable def spec_l21Number.f (k : Nat) (word0 : ByteArray) : Option (Int × Bool) := fun' E prim k 45 [.str word0]
noncomputable def spec_l21Number.j0 (k  : Nat) (word0 : ByteArray) (ds4 : ByteArray) : Option (Int × Bool) := cutAt E prim 45 k [.b, .b, .b] spec_l21Number.T_j0 (word0, ds4)
noncomputable def spec_l21Number.l0 (k fu0 : Nat) (word0 : ByteArray) (ds4 : ByteArray) (x5 : Int) (i6 : Int) : Option (Int × Bool) := loopAt E prim 45 k [.b, .b, .b, .b, .b, .a, .b, .a] spec_l21Number.T_l0 fu0 (word0, ds4, x5, i6)
noncomputable def spec_ParseList.f (k : Nat) (text0 : ByteArray) : Option (Bool × List Int) := fun' E prim k 18 [.str text0]
noncomputable def spec_ParseList.l0 (k fu0 : Nat) (i6 : Int) (out4 : List Int) (parts5 : List ByteArray) : Option (Bool × List Int) := loopAt E prim 18 k [.b, .b, .b, .b, .b, .b, .a, .b, .a] spec_ParseList.T_l0 fu0 (i6, out4, parts5)
noncomputable def spec_ListText.f (k : Nat) (list0 : List Int) : Option (ByteArray × Bool) := fun' E prim k 9 [.row (.int .i64) list0]
noncomputable def impl_isShort.f (k : Nat) (x0 : Int) : Option (Bool) := fun' E prim k 37 [.int x0]
noncomputable def strconv_Itoa.f (k : Nat) (i0 : Int) : Option (ByteArray) := fun' E prim k 42 [.int i0]
noncomputable def strings_Join.f (k : Nat) (elems0 : List ByteArray) (sep1 : ByteArray) : Option (ByteArray) := fun' E prim k 56 [.row .str elems0, .str sep1]
noncomputable def impl_listText.f (k : Nat) (list0 : List Int) : Option (ByteArray) := fun' E prim k 38 [.row (.int .i64) list0]
noncomputable def impl_listText.l0 (k fu0 : Nat) (t7 : List Int) (t8 : Int) (t9 : Int) (words3 : List ByteArray) : Option (ByteArray) := loopAt E prim 38 k [.b, .b, .a, .b, .a] impl_listText.T_l0 fu0 (t7, t8, t9, words3)
noncomputable def impl_ListText.f (k : Nat) (list0 : List Int) : Option (ByteArray × Bool) := fun' E prim k 11 [.row (.int .i64) list0]
noncomputable def impl_ListText.l0 (k fu0 : Nat) (list0 : List Int) (t9 : List Int) (t10 : Int) (t11 : Int) : Option (ByteArray × Bool) := loopAt E prim 11 k [.b, .b, .a, .b, .a] impl_ListText.T_l0 fu0 (list0, t9, t10, t11)
noncomputable def laws_eqIntS.f (k : Nat) (a0 : List Int) (b1 : List Int) : Option (Bool) := fun' E prim k 12 [.row (.int .i64) a0, .row (.int .i64) b1]
noncomputable def laws_eqIntS.l0 (k fu0 : Nat) (a0 : List Int) (b1 : List Int) (i5 : Int) : Option (Bool) := loopAt E prim 12 k [.b, .b, .a, .b, .a] laws_eqIntS.T_l0 fu0 (a0, b1, i5)
noncomputable def laws_FnExactListText.f (k : Nat) (aList0 : List Int) : Option (Bool) := fun' E prim k 3 [.row (.int .i64) aList0]
noncomputable def laws_szIntS.f (k : Nat) (a0 : List Int) (left1 : Int) : Option (Int) := fun' E prim k 57 [.row (.int .i64) a0, .int left1]
noncomputable def laws_szResult.f (k : Nat) (a0_0 : Int) (a0_1 : List Int) (a0_2 : List Int) (left1 : Int) : Option (Int) := fun' E prim k 39 [.int a0_0, .row (.int .i64) a0_1, .row (.int .i64) a0_2, .int left1]
noncomputable def laws_szReply.f (k : Nat) (a0_0 : Int) (a0_1 : Int) (a0_2 : Int) (a0_3 : List Int) (a0_4 : List Int) (left1 : Int) : Option (Int) := fun' E prim k 13 [.int a0_0, .int a0_1, .int a0_2, .row (.int .i64) a0_3, .row (.int .i64) a0_4, .int left1]
noncomputable def laws_toResult.f (k : Nat) (a0_0 : Int) (a0_1 : List Int) (a0_2 : List Int) : Option (Int × List Int × List Int) := fun' E prim k 41 [.int a0_0, .row (.int .i64) a0_1, .row (.int .i64) a0_2]
noncomputable def laws_toReply.f (k : Nat) (a0_0 : Int) (a0_1 : Int) (a0_2 : Int) (a0_3 : List Int) (a0_4 : List Int) : Option (Int × Int × Int × List Int × List Int) := fun' E prim k 15 [.int a0_0, .int a0_1, .int a0_2, .row (.int .i64) a0_3, .row (.int .i64) a0_4]
noncomputable def spec_ReplyText.f (k : Nat) (r0_0 : Int) (r0_1 : Int) (r0_2 : Int) (r0_3 : List Int) (r0_4 : List Int) : Option (ByteArray) := fun' E prim k 14 [.int r0_0, .int r0_1, .int r0_2, .row (.int .i64) r0_3, .row (.int .i64) r0_4]
noncomputable def spec_ReplyText.j0 (k  : Nat) (out3 : ByteArray) (t32 : Bool) (r1_0 : Int) (r1_1 : Int) (r1_2 : Int) (r1_3 : List Int) (r1_4 : List Int) : Option (ByteArray) := cutAt E prim 14 k [.b, .b, .b, .a, .b] spec_ReplyText.T_j0 (out3, t32, r1_0, r1_1, r1_2, r1_3, r1_4)
noncomputable def impl_ReplyText.f (k : Nat) (r0_0 : Int) (r0_1 : Int) (r0_2 : Int) (r0_3 : List Int) (r0_4 : List Int) : Option (ByteArray) := fun' E prim k 16 [.int r0_0, .int r0_1, .int r0_2, .row (.int .i64) r0_3, .row (.int .i64) r0_4]
noncomputable def impl_ReplyText.j0 (k  : Nat) (out3 : ByteArray) (t32 : Bool) (r1_0 : Int) (r1_1 : Int) (r1_2 : Int) (r1_3 : List Int) (r1_4 : List Int) : Option (ByteArray) := cutAt E prim 16 k [.b, .b, .b, .a, .b] impl_ReplyText.T_j0 (out3, t32, r1_0, r1_1, r1_2, r1_3, r1_4)
noncomputable def laws_eqResult.f (k : Nat) (a0_0 : Int) (a0_1 : List Int) (a0_2 : List Int) (b1_0 : Int) (b1_1 : List Int) (b1_2 : List Int) : Option (Bool) := fun' E prim k 43 [.int a0_0, .row (.int .i64) a0_1, .row (.int .i64) a0_2, .int b1_0, .row (.int .i64) b1_1, .row (.int .i64) b1_2]
noncomputable def laws_eqReply.f (k : Nat) (a0_0 : Int) (a0_1 : Int) (a0_2 : Int) (a0_3 : List Int) (a0_4 : List Int) (b1_0 : Int) (b1_1 : Int) (b1_2 : Int) (b1_3 : List Int) (b1_4 : List Int) : Option (Bool) := fun' E prim k 17 [.int a0_0, .int a0_1, .int a0_2, .row (.int .i64) a0_3, .row (.int .i64) a0_4, .int b1_0, .int b1_1, .int b1_2, .row (.int .i64) b1_3, .row (.int .i64) b1_4]
noncomputable def laws_FnExactReplyText.f (k : Nat) (aR0_0 : Int) (aR0_1 : Int) (aR0_2 : Int) (aR0_3 : List Int) (aR0_4 : List Int) : Option (Bool) := fun' E prim k 4 [.int aR0_0, .int aR0_1, .int aR0_2, .row (.int .i64) aR0_3, .row (.int .i64) aR0_4]
end Go.Vm
