/- A part of the proof of laws of the program: what calls of the program answer. Conditions: none. -/
import Derived.Test.YtjjcjpmfkbfdfaaM7f18cdc2
import Derived.Test.YtjjcjpmfkbfdfaaProg
set_option linter.unusedVariables false
set_option linter.unusedSimpArgs false
set_option linter.unusedSectionVars false

/- The program's types, as far as they are used. Conditions: none. -/
set_option linter.unusedVariables false
namespace Go.Proofs.YtjjcjpmfkbfdfaaE
open Go
abbrev Tt (p : Prop) : Prop := (true = true) ∧ p
abbrev ai (x : Int) : AC := .d (.i .i64 x)
abbrev mi (x : Int) : Cm := .d (.i .i64 x)
def PkQ (r : RdS) (n : Int) (y : Int × RdS) : Prop := y.2 = ⟨r.b, r.p + 1⟩ ∧ 0 ≤ y.1 ∧ (1 ≤ n → y.1 < n) ∧ (n < 1 → y.1 = 0)
theorem cq1 (b : Bool) : ((!b) = true) = (b = false) := Bool.not_eq_true' b
theorem cq2 {p : Prop} [Decidable p] : (decide p = false) ↔ ¬p := decide_eq_false_iff_not
theorem cq3 {p : Prop} [Decidable p] : (decide p = true) = p := decide_eq_true_eq
theorem cq4 (b : Bool) : (¬b = true) = (b = false) := Bool.not_eq_true b
theorem cq5 {α : Type} [BEq α] [LawfulBEq α] {a b : α} : (a != b) = true ↔ a ≠ b := bne_iff_ne
theorem cq6 {α : Type} [BEq α] [LawfulBEq α] {a b : α} : (a == b) = true ↔ a = b := beq_iff_eq
theorem cq7 {α : Type} (a b : α) : (a ≠ b) = ¬(a = b) := rfl
theorem cq8 {p : Prop} [Decidable p] : ¬¬p ↔ p := Decidable.not_not
theorem cq9 (b : Bool) : (¬b = false) = (b = true) := Bool.not_eq_false b
theorem cq10 {a b : Int} : a > b ↔ b < a := gt_iff_lt
theorem cq11 {a b : Int} : a ≥ b ↔ b ≤ a := ge_iff_le
theorem cq12 {a b : Int} : ¬a ≤ b ↔ b < a := Int.not_le
theorem cq13 {a b : Int} : ¬a < b ↔ b ≤ a := Int.not_lt
theorem cq14 {α : Type} [BEq α] [LawfulBEq α] {a b : α} : (a == b) = false ↔ a ≠ b := beq_eq_false_iff_ne
theorem cq15 {α : Type} [BEq α] [LawfulBEq α] {a b : α} : (a != b) = false ↔ a = b := bne_eq_false_iff_eq
theorem cq16 (a b : Bool) : ((a && b) = true) = (a = true ∧ b = true) := Bool.and_eq_true a b
theorem cq17 (a b : Bool) : ((a || b) = true) = (a = true ∨ b = true) := Bool.or_eq_true a b
theorem cq18 : (true = false) = False := Bool.true_eq_false
theorem cq19 : (false = true) = False := Bool.false_eq_true
def tys : List (Nat × TyI) := [
(2, ⟨false, [.i .i64 0], none, [], []⟩),
(3, ⟨false, [.i .i64 0], none, [], []⟩),
(4, ⟨false, [.b false], none, [], []⟩),
(5, ⟨false, [.i .u8 0], none, [], []⟩),
(6, ⟨false, [.i .u8 0], none, [], []⟩),  -- internal/abi.BoundsErrorCode
(7, ⟨true, [.i .i64 0, .i .i64 0, .b false, .i .u8 0], none, [], [(0, 2), (1, 3), (2, 4), (3, 6)]⟩),
(8, ⟨true, [.i .i64 0, .i .i64 0, .b false, .i .u8 0], none, [], [(0, 2), (1, 3), (2, 4), (3, 6)]⟩),  -- runtime.boundsError
(12, ⟨false, [.i .u64 0], none, [], []⟩),
(21, ⟨false, [.i .i32 0], none, [], []⟩),
(22, ⟨false, [.r .u8 []], (some (.u8, 5)), [], []⟩),
(23, ⟨true, [.i .i64 0, .i .i64 0, .i .i64 0, .i .i64 0, .i .i64 0], none, [], [(0, 3), (1, 3), (2, 3), (3, 3), (4, 3)]⟩),
(24, ⟨true, [.i .i64 0, .i .i64 0, .i .i64 0, .i .i64 0, .i .i64 0], none, [], [(0, 3), (1, 3), (2, 3), (3, 3), (4, 3)]⟩),  -- loop.example/linkboy/impl.CfgOpts
(25, ⟨false, [.r .wend []], (some (.wend, 44)), [], []⟩),
(26, ⟨false, [.r .nets []], (some (.nets, 64)), [], []⟩),
(27, ⟨true, [.i .i64 0, .i .i64 0, .i .i64 0, .i .i64 0, .i .i64 0, .r .wend [], .r .nets [], .i .i64 0], none, [44, 64], [(0, 24), (5, 25), (6, 26), (7, 3)]⟩),
(28, ⟨true, [.i .i64 0, .i .i64 0, .i .i64 0, .i .i64 0, .i .i64 0, .r .wend [], .r .nets [], .i .i64 0], none, [44, 64], [(0, 24), (5, 25), (6, 26), (7, 3)]⟩),  -- loop.example/linkboy/impl.WldWorld
(31, ⟨false, [.r .part []], (some (.part, 87)), [], []⟩),
(32, ⟨true, [.i .i64 0, .i .i64 0, .r .part [], .i .i64 0, .r .part [], .b false, .i .i64 0, .b false, .i .i64 0, .b false], none, [87, 87], [(0, 3), (1, 3), (2, 31), (3, 3), (4, 31), (5, 4), (6, 3), (7, 4), (8, 3), (9, 4)]⟩),
(33, ⟨true, [.i .i64 0, .i .i64 0, .r .part [], .i .i64 0, .r .part [], .b false, .i .i64 0, .b false, .i .i64 0, .b false], none, [87, 87], [(0, 3), (1, 3), (2, 31), (3, 3), (4, 31), (5, 4), (6, 3), (7, 4), (8, 3), (9, 4)]⟩),  -- loop.example/linkboy/impl.TxState
(34, ⟨true, [.i .i64 0, .r .u8 []], none, [5], [(0, 3), (1, 22)]⟩),
(35, ⟨true, [.i .i64 0, .r .u8 []], none, [5], [(0, 3), (1, 22)]⟩),  -- loop.example/linkboy/impl.SegJoin
(36, ⟨true, [.i .i64 0, .i .i64 0, .i .i64 0, .r .u8 [], .b false, .b false, .b false], none, [5], [(0, 3), (1, 3), (2, 35), (4, 4), (5, 4), (6, 4)]⟩),
(37, ⟨true, [.i .i64 0, .i .i64 0, .i .i64 0, .r .u8 [], .b false, .b false, .b false], none, [5], [(0, 3), (1, 3), (2, 35), (4, 4), (5, 4), (6, 4)]⟩),  -- loop.example/linkboy/impl.RxState
(38, ⟨true, [.i .i64 0, .r .part [], .i .i64 0, .i .i64 0, .b false], none, [87], [(0, 3), (1, 31), (2, 3), (3, 3), (4, 4)]⟩),
(39, ⟨true, [.i .i64 0, .r .part [], .i .i64 0, .i .i64 0, .b false], none, [87], [(0, 3), (1, 31), (2, 3), (3, 3), (4, 4)]⟩),  -- loop.example/linkboy/impl.CrdTx
(40, ⟨true, [.i .i64 0, .i .i64 0, .r .u8 [], .b false], none, [5], [(0, 3), (1, 35), (3, 4)]⟩),
(41, ⟨true, [.i .i64 0, .i .i64 0, .r .u8 [], .b false], none, [5], [(0, 3), (1, 35), (3, 4)]⟩),  -- loop.example/linkboy/impl.CrdRx
(42, ⟨false, [.r .byr []], (some (.byr, 22)), [], []⟩),
(43, ⟨true, [.i .i64 0, .i .i64 0, .r .part [], .i .i64 0, .r .part [], .b false, .i .i64 0, .b false, .i .i64 0, .b false, .i .i64 0, .i .i64 0, .i .i64 0, .r .u8 [], .b false, .b false, .b false, .i .i64 0, .r .part [], .i .i64 0, .i .i64 0, .b false, .i .i64 0, .i .i64 0, .r .u8 [], .b false, .r .byr [], .r .byr []], none, [87, 87, 5, 87, 5, 22, 22], [(0, 33), (10, 37), (17, 39), (22, 41), (26, 42), (27, 42)]⟩),
(44, ⟨true, [.i .i64 0, .i .i64 0, .r .part [], .i .i64 0, .r .part [], .b false, .i .i64 0, .b false, .i .i64 0, .b false, .i .i64 0, .i .i64 0, .i .i64 0, .r .u8 [], .b false, .b false, .b false, .i .i64 0, .r .part [], .i .i64 0, .i .i64 0, .b false, .i .i64 0, .i .i64 0, .r .u8 [], .b false, .r .byr [], .r .byr []], none, [87, 87, 5, 87, 5, 22, 22], [(0, 33), (10, 37), (17, 39), (22, 41), (26, 42), (27, 42)]⟩),  -- loop.example/linkboy/impl.WldEnd
(59, ⟨false, [.r .i64 []], (some (.i64, 3)), [], []⟩),
(64, ⟨false, [.r .netm []], (some (.netm, 66)), [], []⟩),
(65, ⟨true, [.b false, .r .u8 []], none, [5], [(0, 4), (1, 22)]⟩),
(66, ⟨true, [.b false, .r .u8 []], none, [5], [(0, 4), (1, 22)]⟩),  -- loop.example/linkboy/impl.NetMsg
(67, ⟨true, [.r .u8 [], .i .i64 0], none, [5], [(0, 22), (1, 3)]⟩),
(68, ⟨true, [.r .u8 [], .i .i64 0], none, [5], [(0, 22), (1, 3)]⟩),  -- loop.example/linkboy/spec.l20Rd
(72, ⟨true, [.i .i64 0, .i .i64 0, .i .i64 0, .i .i64 0, .r .u8 []], none, [5], [(0, 3), (1, 3), (2, 3), (3, 3), (4, 22)]⟩),
(73, ⟨true, [.i .i64 0, .i .i64 0, .i .i64 0, .i .i64 0, .r .u8 []], none, [5], [(0, 3), (1, 3), (2, 3), (3, 3), (4, 22)]⟩),  -- loop.example/linkboy/impl.EvEvent
(80, ⟨true, [.i .i64 0, .i .i64 0, .i .i64 0, .b false, .b false, .i .i64 0, .i .i64 0, .i .i64 0, .r .u8 []], none, [5], [(0, 3), (1, 3), (2, 3), (3, 4), (4, 4), (5, 3), (6, 3), (7, 3), (8, 22)]⟩),
(81, ⟨true, [.i .i64 0, .i .i64 0, .i .i64 0, .b false, .b false, .i .i64 0, .i .i64 0, .i .i64 0, .r .u8 []], none, [5], [(0, 3), (1, 3), (2, 3), (3, 4), (4, 4), (5, 3), (6, 3), (7, 3), (8, 22)]⟩),  -- loop.example/linkboy/impl.FrmFrame
(86, ⟨true, [.i .i64 0, .i .i64 0, .r .u8 []], none, [5], [(0, 3), (1, 3), (2, 22)]⟩),
(87, ⟨true, [.i .i64 0, .i .i64 0, .r .u8 []], none, [5], [(0, 3), (1, 3), (2, 22)]⟩),  -- loop.example/linkboy/impl.SegPart
(114, ⟨false, [.r .frm []], (some (.frm, 81)), [], []⟩),
(154, ⟨false, [.i .u32 0], none, [], []⟩),
(155, ⟨false, [.i .u8 0], none, [], []⟩),  -- internal/abi.TFlag
(156, ⟨false, [.i .u8 0], none, [], []⟩),  -- internal/abi.Kind
(159, ⟨false, [.i .i32 0], none, [], []⟩),  -- internal/abi.NameOff
(160, ⟨false, [.i .i32 0], none, [], []⟩)  -- internal/abi.TypeOff
]
set_option maxRecDepth 100000 in
theorem tys_ok : tysB Try.prog tys = true := by kernel_rfl
theorem mixed : Try.prog.follows .mixedOrders = true := by kernel_rfl
end Go.Proofs.YtjjcjpmfkbfdfaaE


/- The program's types, rows of numbers and what is made of them shared. Conditions: none. -/
set_option linter.unusedVariables false
namespace Go.Proofs.YtjjcjpmfkbfdfaaE
open Go
def tys2 : List (Nat × TyI) := [
(2, ⟨false, [.i .i64 0], none, [], []⟩),
(3, ⟨false, [.i .i64 0], none, [], []⟩),
(4, ⟨false, [.b false], none, [], []⟩),
(5, ⟨false, [.i .u8 0], none, [], []⟩),
(6, ⟨false, [.i .u8 0], none, [], []⟩),  -- internal/abi.BoundsErrorCode
(7, ⟨true, [.i .i64 0, .i .i64 0, .b false, .i .u8 0], none, [], [(0, 2), (1, 3), (2, 4), (3, 6)]⟩),
(8, ⟨true, [.i .i64 0, .i .i64 0, .b false, .i .u8 0], none, [], [(0, 2), (1, 3), (2, 4), (3, 6)]⟩),  -- runtime.boundsError
(12, ⟨false, [.i .u64 0], none, [], []⟩),
(21, ⟨false, [.i .i32 0], none, [], []⟩),
(22, ⟨false, [.h .u8 0], none, [], []⟩),
(23, ⟨true, [.i .i64 0, .i .i64 0, .i .i64 0, .i .i64 0, .i .i64 0], none, [], [(0, 3), (1, 3), (2, 3), (3, 3), (4, 3)]⟩),
(24, ⟨true, [.i .i64 0, .i .i64 0, .i .i64 0, .i .i64 0, .i .i64 0], none, [], [(0, 3), (1, 3), (2, 3), (3, 3), (4, 3)]⟩),  -- loop.example/linkboy/impl.CfgOpts
(25, ⟨false, [.r .hend []], (some (.hend, 44)), [], []⟩),
(26, ⟨false, [.r .hnet []], (some (.hnet, 64)), [], []⟩),
(27, ⟨true, [.i .i64 0, .i .i64 0, .i .i64 0, .i .i64 0, .i .i64 0, .r .hend [], .r .hnet [], .i .i64 0], none, [44, 64], [(0, 24), (5, 25), (6, 26), (7, 3)]⟩),
(28, ⟨true, [.i .i64 0, .i .i64 0, .i .i64 0, .i .i64 0, .i .i64 0, .r .hend [], .r .hnet [], .i .i64 0], none, [44, 64], [(0, 24), (5, 25), (6, 26), (7, 3)]⟩),  -- loop.example/linkboy/impl.WldWorld
(31, ⟨false, [.h .part 0], none, [], []⟩),
(32, ⟨true, [.i .i64 0, .i .i64 0, .h .part 0, .i .i64 0, .h .part 0, .b false, .i .i64 0, .b false, .i .i64 0, .b false], none, [], [(0, 3), (1, 3), (2, 31), (3, 3), (4, 31), (5, 4), (6, 3), (7, 4), (8, 3), (9, 4)]⟩),
(33, ⟨true, [.i .i64 0, .i .i64 0, .h .part 0, .i .i64 0, .h .part 0, .b false, .i .i64 0, .b false, .i .i64 0, .b false], none, [], [(0, 3), (1, 3), (2, 31), (3, 3), (4, 31), (5, 4), (6, 3), (7, 4), (8, 3), (9, 4)]⟩),  -- loop.example/linkboy/impl.TxState
(34, ⟨true, [.i .i64 0, .h .u8 0], none, [], [(0, 3), (1, 22)]⟩),
(35, ⟨true, [.i .i64 0, .h .u8 0], none, [], [(0, 3), (1, 22)]⟩),  -- loop.example/linkboy/impl.SegJoin
(36, ⟨true, [.i .i64 0, .i .i64 0, .i .i64 0, .h .u8 0, .b false, .b false, .b false], none, [], [(0, 3), (1, 3), (2, 35), (4, 4), (5, 4), (6, 4)]⟩),
(37, ⟨true, [.i .i64 0, .i .i64 0, .i .i64 0, .h .u8 0, .b false, .b false, .b false], none, [], [(0, 3), (1, 3), (2, 35), (4, 4), (5, 4), (6, 4)]⟩),  -- loop.example/linkboy/impl.RxState
(38, ⟨true, [.i .i64 0, .h .part 0, .i .i64 0, .i .i64 0, .b false], none, [], [(0, 3), (1, 31), (2, 3), (3, 3), (4, 4)]⟩),
(39, ⟨true, [.i .i64 0, .h .part 0, .i .i64 0, .i .i64 0, .b false], none, [], [(0, 3), (1, 31), (2, 3), (3, 3), (4, 4)]⟩),  -- loop.example/linkboy/impl.CrdTx
(40, ⟨true, [.i .i64 0, .i .i64 0, .h .u8 0, .b false], none, [], [(0, 3), (1, 35), (3, 4)]⟩),
(41, ⟨true, [.i .i64 0, .i .i64 0, .h .u8 0, .b false], none, [], [(0, 3), (1, 35), (3, 4)]⟩),  -- loop.example/linkboy/impl.CrdRx
(42, ⟨false, [.h .byr 0], none, [], []⟩),
(43, ⟨true, [.i .i64 0, .i .i64 0, .h .part 0, .i .i64 0, .h .part 0, .b false, .i .i64 0, .b false, .i .i64 0, .b false, .i .i64 0, .i .i64 0, .i .i64 0, .h .u8 0, .b false, .b false, .b false, .i .i64 0, .h .part 0, .i .i64 0, .i .i64 0, .b false, .i .i64 0, .i .i64 0, .h .u8 0, .b false, .h .byr 0, .h .byr 0], none, [], [(0, 33), (10, 37), (17, 39), (22, 41), (26, 42), (27, 42)]⟩),
(44, ⟨true, [.i .i64 0, .i .i64 0, .h .part 0, .i .i64 0, .h .part 0, .b false, .i .i64 0, .b false, .i .i64 0, .b false, .i .i64 0, .i .i64 0, .i .i64 0, .h .u8 0, .b false, .b false, .b false, .i .i64 0, .h .part 0, .i .i64 0, .i .i64 0, .b false, .i .i64 0, .i .i64 0, .h .u8 0, .b false, .h .byr 0, .h .byr 0], none, [], [(0, 33), (10, 37), (17, 39), (22, 41), (26, 42), (27, 42)]⟩),  -- loop.example/linkboy/impl.WldEnd
(53, ⟨false, [.h .ev 0], none, [], []⟩),
(59, ⟨false, [.r .i64 []], (some (.i64, 3)), [], []⟩),
(64, ⟨false, [.h .netm 0], none, [], []⟩),
(65, ⟨true, [.b false, .h .u8 0], none, [], [(0, 4), (1, 22)]⟩),
(66, ⟨true, [.b false, .h .u8 0], none, [], [(0, 4), (1, 22)]⟩),  -- loop.example/linkboy/impl.NetMsg
(72, ⟨true, [.i .i64 0, .i .i64 0, .i .i64 0, .i .i64 0, .h .u8 0], none, [], [(0, 3), (1, 3), (2, 3), (3, 3), (4, 22)]⟩),
(73, ⟨true, [.i .i64 0, .i .i64 0, .i .i64 0, .i .i64 0, .h .u8 0], none, [], [(0, 3), (1, 3), (2, 3), (3, 3), (4, 22)]⟩),  -- loop.example/linkboy/impl.EvEvent
(80, ⟨true, [.i .i64 0, .i .i64 0, .i .i64 0, .b false, .b false, .i .i64 0, .i .i64 0, .i .i64 0, .h .u8 0], none, [], [(0, 3), (1, 3), (2, 3), (3, 4), (4, 4), (5, 3), (6, 3), (7, 3), (8, 22)]⟩),
(81, ⟨true, [.i .i64 0, .i .i64 0, .i .i64 0, .b false, .b false, .i .i64 0, .i .i64 0, .i .i64 0, .h .u8 0], none, [], [(0, 3), (1, 3), (2, 3), (3, 4), (4, 4), (5, 3), (6, 3), (7, 3), (8, 22)]⟩),  -- loop.example/linkboy/impl.FrmFrame
(86, ⟨true, [.i .i64 0, .i .i64 0, .h .u8 0], none, [], [(0, 3), (1, 3), (2, 22)]⟩),
(87, ⟨true, [.i .i64 0, .i .i64 0, .h .u8 0], none, [], [(0, 3), (1, 3), (2, 22)]⟩),  -- loop.example/linkboy/impl.SegPart
(114, ⟨false, [.h .frm 0], none, [], []⟩),
(154, ⟨false, [.i .u32 0], none, [], []⟩),
(155, ⟨false, [.i .u8 0], none, [], []⟩),  -- internal/abi.TFlag
(156, ⟨false, [.i .u8 0], none, [], []⟩),  -- internal/abi.Kind
(159, ⟨false, [.i .i32 0], none, [], []⟩),  -- internal/abi.NameOff
(160, ⟨false, [.i .i32 0], none, [], []⟩)  -- internal/abi.TypeOff
]
set_option maxRecDepth 100000 in
theorem tys2_ok : tysB Try.prog tys2 = true := by kernel_rfl
end Go.Proofs.YtjjcjpmfkbfdfaaE
