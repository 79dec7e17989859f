/- A part of the proof of laws of the program: what calls of the program answer. Conditions: none. -/
import Derived.Test.YtdahhphhblbfdaaMbf3547b6
import Derived.Test.YtdahhphhblbfdaaProg
set_option linter.unusedVariables false
set_option linter.unusedSimpArgs false
set_option linter.unusedSectionVars false
/- The program's types, as far as they are used. Conditions: none. -/
set_option linter.unusedVariables false
namespace Go.Proofs.YtdahhphhblbfdaaE
open Go
def tys : List (Nat × TyI) := [
(2, ⟨false, [.i .i64 0], none, [], []⟩),
(3, ⟨false, [.i .i64 0], none, [], []⟩),
(4, ⟨false, [.b false], none, [], []⟩),
(5, ⟨false, [.i .u8 0], none, [], []⟩),
(6, ⟨false, [.i .u8 0], none, [], []⟩),  -- internal/abi.BoundsErrorCode
(7, ⟨true, [.i .i64 0, .i .i64 0, .b false, .i .u8 0], none, [], [(0, 2), (1, 3), (2, 4), (3, 6)]⟩),
(8, ⟨true, [.i .i64 0, .i .i64 0, .b false, .i .u8 0], none, [], [(0, 2), (1, 3), (2, 4), (3, 6)]⟩),  -- runtime.boundsError
(12, ⟨false, [.i .u64 0], none, [], []⟩),
(21, ⟨false, [.i .i32 0], none, [], []⟩),
(22, ⟨false, [.r .u8 []], (some (.u8, 5)), [], []⟩),
(23, ⟨true, [.i .i64 0, .r .u8 []], none, [5], [(0, 3), (1, 22)]⟩),
(24, ⟨true, [.i .i64 0, .r .u8 []], none, [5], [(0, 3), (1, 22)]⟩),  -- loop.example/linkboy/laws.SegJoin
(25, ⟨true, [.i .i64 0, .i .i64 0, .r .u8 [], .b false], none, [5], [(0, 3), (1, 24), (3, 4)]⟩),
(26, ⟨true, [.i .i64 0, .i .i64 0, .r .u8 [], .b false], none, [5], [(0, 3), (1, 24), (3, 4)]⟩),  -- loop.example/linkboy/laws.CrdRx
(28, ⟨true, [.i .i64 0, .r .u8 []], none, [5], [(0, 3), (1, 22)]⟩),  -- loop.example/linkboy/impl.SegJoin
(29, ⟨true, [.i .i64 0, .i .i64 0, .r .u8 [], .b false], none, [5], [(0, 3), (1, 28), (3, 4)]⟩),
(30, ⟨true, [.i .i64 0, .i .i64 0, .r .u8 [], .b false], none, [5], [(0, 3), (1, 28), (3, 4)]⟩),  -- loop.example/linkboy/impl.CrdRx
(31, ⟨true, [.i .i64 0, .i .i64 0, .i .i64 0, .b false, .b false, .i .i64 0, .i .i64 0, .i .i64 0, .r .u8 []], none, [5], [(0, 3), (1, 3), (2, 3), (3, 4), (4, 4), (5, 3), (6, 3), (7, 3), (8, 22)]⟩),
(32, ⟨true, [.i .i64 0, .i .i64 0, .i .i64 0, .b false, .b false, .i .i64 0, .i .i64 0, .i .i64 0, .r .u8 []], none, [5], [(0, 3), (1, 3), (2, 3), (3, 4), (4, 4), (5, 3), (6, 3), (7, 3), (8, 22)]⟩),  -- loop.example/linkboy/impl.FrmFrame
(41, ⟨true, [.i .i64 0, .i .i64 0, .i .i64 0, .i .i64 0, .i .i64 0], none, [], [(0, 3), (1, 3), (2, 3), (3, 3), (4, 3)]⟩),
(42, ⟨true, [.i .i64 0, .i .i64 0, .i .i64 0, .i .i64 0, .i .i64 0], none, [], [(0, 3), (1, 3), (2, 3), (3, 3), (4, 3)]⟩),  -- loop.example/linkboy/laws.CfgOpts
(43, ⟨false, [.r .part []], (some (.part, 102)), [], []⟩),
(44, ⟨true, [.i .i64 0, .r .part [], .i .i64 0, .i .i64 0, .b false], none, [102], [(0, 3), (1, 43), (2, 3), (3, 3), (4, 4)]⟩),
(45, ⟨true, [.i .i64 0, .r .part [], .i .i64 0, .i .i64 0, .b false], none, [102], [(0, 3), (1, 43), (2, 3), (3, 3), (4, 4)]⟩),  -- loop.example/linkboy/laws.CrdTx
(47, ⟨false, [.r .part []], (some (.part, 93)), [], []⟩),
(48, ⟨true, [.i .i64 0, .r .part [], .i .i64 0, .i .i64 0, .b false], none, [93], [(0, 3), (1, 47), (2, 3), (3, 3), (4, 4)]⟩),
(49, ⟨true, [.i .i64 0, .r .part [], .i .i64 0, .i .i64 0, .b false], none, [93], [(0, 3), (1, 47), (2, 3), (3, 3), (4, 4)]⟩),  -- loop.example/linkboy/impl.CrdTx
(51, ⟨true, [.i .i64 0, .i .i64 0, .i .i64 0, .i .i64 0, .i .i64 0], none, [], [(0, 3), (1, 3), (2, 3), (3, 3), (4, 3)]⟩),  -- loop.example/linkboy/impl.CfgOpts
(66, ⟨true, [.i .i64 0, .i .i64 0, .i .i64 0, .b false, .b false, .i .i64 0, .i .i64 0, .i .i64 0, .r .u8 []], none, [5], [(0, 3), (1, 3), (2, 3), (3, 4), (4, 4), (5, 3), (6, 3), (7, 3), (8, 22)]⟩),  -- loop.example/linkboy/laws.FrmFrame
(68, ⟨false, [.r .byr []], (some (.byr, 22)), [], []⟩),
(92, ⟨true, [.i .i64 0, .i .i64 0, .r .u8 []], none, [5], [(0, 3), (1, 3), (2, 22)]⟩),
(93, ⟨true, [.i .i64 0, .i .i64 0, .r .u8 []], none, [5], [(0, 3), (1, 3), (2, 22)]⟩),  -- loop.example/linkboy/impl.SegPart
(102, ⟨true, [.i .i64 0, .i .i64 0, .r .u8 []], none, [5], [(0, 3), (1, 3), (2, 22)]⟩),  -- loop.example/linkboy/laws.SegPart
(122, ⟨false, [.i .u32 0], none, [], []⟩),
(123, ⟨false, [.i .u8 0], none, [], []⟩),  -- internal/abi.TFlag
(124, ⟨false, [.i .u8 0], none, [], []⟩),  -- internal/abi.Kind
(127, ⟨false, [.i .i32 0], none, [], []⟩),  -- internal/abi.NameOff
(128, ⟨false, [.i .i32 0], none, [], []⟩)  -- internal/abi.TypeOff
]
set_option maxRecDepth 100000 in
theorem tys_ok : tysB Try.prog tys = true := by kernel_rfl
theorem shapes_ok : shapesB tys = true := by kernel_rfl
theorem mixed : Try.prog.follows .mixedOrders = true := by kernel_rfl
end Go.Proofs.YtdahhphhblbfdaaE
