/- A part of the proof of laws of the program: what calls of the program answer. Conditions: none. -/
import Derived.Test.YtlapeiijghebjaaM2088b607
import Derived.Test.YtlapeiijghebjaaProg
set_option linter.unusedVariables false
set_option linter.unusedSimpArgs false
set_option linter.unusedSectionVars false
/- The program's types, as far as they are used. Conditions: none. -/
set_option linter.unusedVariables false
namespace Go.Proofs.YtlapeiijghebjaaE
open Go
def tys : List (Nat × TyI) := [
(2, ⟨false, [.i .i64 0], none, [], []⟩),
(3, ⟨false, [.i .i64 0], none, [], []⟩),
(4, ⟨false, [.b false], none, [], []⟩),
(5, ⟨false, [.i .u8 0], none, [], []⟩),
(6, ⟨false, [.i .u8 0], none, [], []⟩),  -- internal/abi.BoundsErrorCode
(7, ⟨true, [.i .i64 0, .i .i64 0, .b false, .i .u8 0], none, [], [(0, 2), (1, 3), (2, 4), (3, 6)]⟩),
(8, ⟨true, [.i .i64 0, .i .i64 0, .b false, .i .u8 0], none, [], [(0, 2), (1, 3), (2, 4), (3, 6)]⟩),  -- runtime.boundsError
(12, ⟨false, [.i .u64 0], none, [], []⟩),
(21, ⟨false, [.i .i32 0], none, [], []⟩),
(22, ⟨false, [.r .u8 []], (some (.u8, 5)), [], []⟩),
(23, ⟨true, [.i .i64 0, .r .u8 []], none, [5], [(0, 3), (1, 22)]⟩),
(24, ⟨true, [.i .i64 0, .r .u8 []], none, [5], [(0, 3), (1, 22)]⟩),  -- loop.example/linkboy/impl.SegJoin
(25, ⟨true, [.i .i64 0, .i .i64 0, .r .u8 [], .b false], none, [5], [(0, 3), (1, 24), (3, 4)]⟩),
(26, ⟨true, [.i .i64 0, .i .i64 0, .r .u8 [], .b false], none, [5], [(0, 3), (1, 24), (3, 4)]⟩),  -- loop.example/linkboy/impl.CrdRx
(28, ⟨true, [.i .i64 0, .i .i64 0, .i .i64 0, .b false, .b false, .i .i64 0, .i .i64 0, .i .i64 0, .r .u8 []], none, [5], [(0, 3), (1, 3), (2, 3), (3, 4), (4, 4), (5, 3), (6, 3), (7, 3), (8, 22)]⟩),
(29, ⟨true, [.i .i64 0, .i .i64 0, .i .i64 0, .b false, .b false, .i .i64 0, .i .i64 0, .i .i64 0, .r .u8 []], none, [5], [(0, 3), (1, 3), (2, 3), (3, 4), (4, 4), (5, 3), (6, 3), (7, 3), (8, 22)]⟩),  -- loop.example/linkboy/impl.FrmFrame
(38, ⟨true, [.i .i64 0, .r .u8 []], none, [5], [(0, 3), (1, 22)]⟩),  -- loop.example/linkboy/laws.SegJoin
(39, ⟨true, [.i .i64 0, .i .i64 0, .r .u8 [], .b false], none, [5], [(0, 3), (1, 38), (3, 4)]⟩),
(40, ⟨true, [.i .i64 0, .i .i64 0, .r .u8 [], .b false], none, [5], [(0, 3), (1, 38), (3, 4)]⟩),  -- loop.example/linkboy/laws.CrdRx
(46, ⟨true, [.i .i64 0, .i .i64 0, .i .i64 0, .i .i64 0, .i .i64 0], none, [], [(0, 3), (1, 3), (2, 3), (3, 3), (4, 3)]⟩),
(47, ⟨true, [.i .i64 0, .i .i64 0, .i .i64 0, .i .i64 0, .i .i64 0], none, [], [(0, 3), (1, 3), (2, 3), (3, 3), (4, 3)]⟩),  -- loop.example/linkboy/impl.CfgOpts
(48, ⟨false, [.r .part []], (some (.part, 82)), [], []⟩),
(49, ⟨true, [.i .i64 0, .r .part [], .i .i64 0, .i .i64 0, .b false], none, [82], [(0, 3), (1, 48), (2, 3), (3, 3), (4, 4)]⟩),
(50, ⟨true, [.i .i64 0, .r .part [], .i .i64 0, .i .i64 0, .b false], none, [82], [(0, 3), (1, 48), (2, 3), (3, 3), (4, 4)]⟩),  -- loop.example/linkboy/impl.CrdTx
(56, ⟨true, [.i .i64 0, .i .i64 0, .i .i64 0, .i .i64 0, .i .i64 0], none, [], [(0, 3), (1, 3), (2, 3), (3, 3), (4, 3)]⟩),  -- loop.example/linkboy/laws.CfgOpts
(57, ⟨false, [.r .part []], (some (.part, 135)), [], []⟩),
(58, ⟨true, [.i .i64 0, .r .part [], .i .i64 0, .i .i64 0, .b false], none, [135], [(0, 3), (1, 57), (2, 3), (3, 3), (4, 4)]⟩),
(59, ⟨true, [.i .i64 0, .r .part [], .i .i64 0, .i .i64 0, .b false], none, [135], [(0, 3), (1, 57), (2, 3), (3, 3), (4, 4)]⟩),  -- loop.example/linkboy/laws.CrdTx
(81, ⟨true, [.i .i64 0, .i .i64 0, .r .u8 []], none, [5], [(0, 3), (1, 3), (2, 22)]⟩),
(82, ⟨true, [.i .i64 0, .i .i64 0, .r .u8 []], none, [5], [(0, 3), (1, 3), (2, 22)]⟩),  -- loop.example/linkboy/impl.SegPart
(85, ⟨false, [.r .byr []], (some (.byr, 22)), [], []⟩),
(93, ⟨true, [.i .i64 0, .i .i64 0, .i .i64 0, .b false, .b false, .i .i64 0, .i .i64 0, .i .i64 0, .r .u8 []], none, [5], [(0, 3), (1, 3), (2, 3), (3, 4), (4, 4), (5, 3), (6, 3), (7, 3), (8, 22)]⟩),  -- loop.example/linkboy/laws.FrmFrame
(121, ⟨false, [.r .i64 []], (some (.i64, 3)), [], []⟩),
(130, ⟨true, [.r .u8 [], .i .i64 0], none, [5], [(0, 22), (1, 3)]⟩),
(131, ⟨true, [.r .u8 [], .i .i64 0], none, [5], [(0, 22), (1, 3)]⟩),  -- loop.example/linkboy/spec.l20Rd
(135, ⟨true, [.i .i64 0, .i .i64 0, .r .u8 []], none, [5], [(0, 3), (1, 3), (2, 22)]⟩),  -- loop.example/linkboy/laws.SegPart
(147, ⟨false, [.i .u32 0], none, [], []⟩),
(148, ⟨false, [.i .u8 0], none, [], []⟩),  -- internal/abi.TFlag
(149, ⟨false, [.i .u8 0], none, [], []⟩),  -- internal/abi.Kind
(152, ⟨false, [.i .i32 0], none, [], []⟩),  -- internal/abi.NameOff
(153, ⟨false, [.i .i32 0], none, [], []⟩)  -- internal/abi.TypeOff
]
set_option maxRecDepth 100000 in
theorem tys_ok : tysB Try.prog tys = true := by kernel_rfl
theorem mixed : Try.prog.follows .mixedOrders = true := by kernel_rfl
end Go.Proofs.YtlapeiijghebjaaE
