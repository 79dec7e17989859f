/- A part of the proof of laws of the program: what calls of the program answer. Conditions: none. -/
import Derived.Test.YtkencmgcibbfaaaM315145c6
import Derived.Test.YtkencmgcibbfaaaProg
set_option linter.unusedVariables false
set_option linter.unusedSimpArgs false
set_option linter.unusedSectionVars false
/- The program's types, as far as they are used. Conditions: none. -/
set_option linter.unusedVariables false
namespace Go.Proofs.YtkencmgcibbfaaaE
open Go
def tys : List (Nat × TyI) := [
(2, ⟨false, [.i .i64 0], none, [], []⟩),
(3, ⟨false, [.i .i64 0], none, [], []⟩),
(4, ⟨false, [.b false], none, [], []⟩),
(5, ⟨false, [.i .u8 0], none, [], []⟩),
(6, ⟨false, [.i .u8 0], none, [], []⟩),  -- internal/abi.BoundsErrorCode
(7, ⟨true, [.i .i64 0, .i .i64 0, .b false, .i .u8 0], none, [], [(0, 2), (1, 3), (2, 4), (3, 6)]⟩),
(8, ⟨true, [.i .i64 0, .i .i64 0, .b false, .i .u8 0], none, [], [(0, 2), (1, 3), (2, 4), (3, 6)]⟩),  -- runtime.boundsError
(12, ⟨false, [.i .u64 0], none, [], []⟩),
(21, ⟨false, [.i .i32 0], none, [], []⟩),
(22, ⟨false, [.r .u8 []], (some (.u8, 5)), [], []⟩),
(23, ⟨true, [.i .i64 0, .i .i64 0, .i .i64 0, .i .i64 0, .i .i64 0], none, [], [(0, 3), (1, 3), (2, 3), (3, 3), (4, 3)]⟩),
(24, ⟨true, [.i .i64 0, .i .i64 0, .i .i64 0, .i .i64 0, .i .i64 0], none, [], [(0, 3), (1, 3), (2, 3), (3, 3), (4, 3)]⟩),  -- loop.example/linkboy/impl.CfgOpts
(26, ⟨false, [.r .wend []], (some (.wend, 48)), [], []⟩),
(27, ⟨false, [.r .nets []], (some (.nets, 49)), [], []⟩),
(28, ⟨true, [.i .i64 0, .i .i64 0, .i .i64 0, .i .i64 0, .i .i64 0, .r .wend [], .r .nets [], .i .i64 0], none, [48, 49], [(0, 24), (5, 26), (6, 27), (7, 3)]⟩),
(29, ⟨true, [.i .i64 0, .i .i64 0, .i .i64 0, .i .i64 0, .i .i64 0, .r .wend [], .r .nets [], .i .i64 0], none, [48, 49], [(0, 24), (5, 26), (6, 27), (7, 3)]⟩),  -- loop.example/linkboy/impl.WldWorld
(35, ⟨false, [.r .part []], (some (.part, 102)), [], []⟩),
(36, ⟨true, [.i .i64 0, .i .i64 0, .r .part [], .i .i64 0, .r .part [], .b false, .i .i64 0, .b false, .i .i64 0, .b false], none, [102, 102], [(0, 3), (1, 3), (2, 35), (3, 3), (4, 35), (5, 4), (6, 3), (7, 4), (8, 3), (9, 4)]⟩),
(37, ⟨true, [.i .i64 0, .i .i64 0, .r .part [], .i .i64 0, .r .part [], .b false, .i .i64 0, .b false, .i .i64 0, .b false], none, [102, 102], [(0, 3), (1, 3), (2, 35), (3, 3), (4, 35), (5, 4), (6, 3), (7, 4), (8, 3), (9, 4)]⟩),  -- loop.example/linkboy/impl.TxState
(38, ⟨true, [.i .i64 0, .r .u8 []], none, [5], [(0, 3), (1, 22)]⟩),
(39, ⟨true, [.i .i64 0, .r .u8 []], none, [5], [(0, 3), (1, 22)]⟩),  -- loop.example/linkboy/impl.SegJoin
(40, ⟨true, [.i .i64 0, .i .i64 0, .i .i64 0, .r .u8 [], .b false, .b false, .b false], none, [5], [(0, 3), (1, 3), (2, 39), (4, 4), (5, 4), (6, 4)]⟩),
(41, ⟨true, [.i .i64 0, .i .i64 0, .i .i64 0, .r .u8 [], .b false, .b false, .b false], none, [5], [(0, 3), (1, 3), (2, 39), (4, 4), (5, 4), (6, 4)]⟩),  -- loop.example/linkboy/impl.RxState
(42, ⟨true, [.i .i64 0, .r .part [], .i .i64 0, .i .i64 0, .b false], none, [102], [(0, 3), (1, 35), (2, 3), (3, 3), (4, 4)]⟩),
(43, ⟨true, [.i .i64 0, .r .part [], .i .i64 0, .i .i64 0, .b false], none, [102], [(0, 3), (1, 35), (2, 3), (3, 3), (4, 4)]⟩),  -- loop.example/linkboy/impl.CrdTx
(44, ⟨true, [.i .i64 0, .i .i64 0, .r .u8 [], .b false], none, [5], [(0, 3), (1, 39), (3, 4)]⟩),
(45, ⟨true, [.i .i64 0, .i .i64 0, .r .u8 [], .b false], none, [5], [(0, 3), (1, 39), (3, 4)]⟩),  -- loop.example/linkboy/impl.CrdRx
(46, ⟨false, [.r .byr []], (some (.byr, 22)), [], []⟩),
(47, ⟨true, [.i .i64 0, .i .i64 0, .r .part [], .i .i64 0, .r .part [], .b false, .i .i64 0, .b false, .i .i64 0, .b false, .i .i64 0, .i .i64 0, .i .i64 0, .r .u8 [], .b false, .b false, .b false, .i .i64 0, .r .part [], .i .i64 0, .i .i64 0, .b false, .i .i64 0, .i .i64 0, .r .u8 [], .b false, .r .byr [], .r .byr []], none, [102, 102, 5, 102, 5, 22, 22], [(0, 37), (10, 41), (17, 43), (22, 45), (26, 46), (27, 46)]⟩),
(48, ⟨true, [.i .i64 0, .i .i64 0, .r .part [], .i .i64 0, .r .part [], .b false, .i .i64 0, .b false, .i .i64 0, .b false, .i .i64 0, .i .i64 0, .i .i64 0, .r .u8 [], .b false, .b false, .b false, .i .i64 0, .r .part [], .i .i64 0, .i .i64 0, .b false, .i .i64 0, .i .i64 0, .r .u8 [], .b false, .r .byr [], .r .byr []], none, [102, 102, 5, 102, 5, 22, 22], [(0, 37), (10, 41), (17, 43), (22, 45), (26, 46), (27, 46)]⟩),  -- loop.example/linkboy/impl.WldEnd
(49, ⟨false, [.r .netm []], (some (.netm, 73)), [], []⟩),
(52, ⟨true, [.i .i64 0, .i .i64 0, .i .i64 0, .i .i64 0, .i .i64 0], none, [], [(0, 3), (1, 3), (2, 3), (3, 3), (4, 3)]⟩),  -- loop.example/linkboy/laws.CfgOpts
(72, ⟨true, [.b false, .r .u8 []], none, [5], [(0, 4), (1, 22)]⟩),
(73, ⟨true, [.b false, .r .u8 []], none, [5], [(0, 4), (1, 22)]⟩),  -- loop.example/linkboy/impl.NetMsg
(83, ⟨false, [.r .i64 []], (some (.i64, 3)), [], []⟩),
(85, ⟨true, [.r .u8 [], .i .i64 0], none, [5], [(0, 22), (1, 3)]⟩),
(86, ⟨true, [.r .u8 [], .i .i64 0], none, [5], [(0, 22), (1, 3)]⟩),  -- loop.example/linkboy/spec.l20Rd
(101, ⟨true, [.i .i64 0, .i .i64 0, .r .u8 []], none, [5], [(0, 3), (1, 3), (2, 22)]⟩),
(102, ⟨true, [.i .i64 0, .i .i64 0, .r .u8 []], none, [5], [(0, 3), (1, 3), (2, 22)]⟩),  -- loop.example/linkboy/impl.SegPart
(116, ⟨false, [.i .u32 0], none, [], []⟩),
(117, ⟨false, [.i .u8 0], none, [], []⟩),  -- internal/abi.TFlag
(118, ⟨false, [.i .u8 0], none, [], []⟩),  -- internal/abi.Kind
(121, ⟨false, [.i .i32 0], none, [], []⟩),  -- internal/abi.NameOff
(122, ⟨false, [.i .i32 0], none, [], []⟩)  -- internal/abi.TypeOff
]
set_option maxRecDepth 100000 in
theorem tys_ok : tysB Try.prog tys = true := by kernel_rfl
theorem shapes_ok : shapesB tys = true := by kernel_rfl
theorem mixed : Try.prog.follows .mixedOrders = true := by kernel_rfl
end Go.Proofs.YtkencmgcibbfaaaE
