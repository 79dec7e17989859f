/- A part of the proof of laws of the program: what calls of the program answer. Conditions: none. -/
import Derived.Test.YtfcllghcdeifbaaM453895fb
import Derived.Test.YtfcllghcdeifbaaProg
set_option linter.unusedVariables false
set_option linter.unusedSimpArgs false
set_option linter.unusedSectionVars false
/- The program's types, as far as they are used. Conditions: none. -/
set_option linter.unusedVariables false
namespace Go.Proofs.YtfcllghcdeifbaaE
open Go
def tys : List (Nat × TyI) := [
(2, ⟨false, [.i .i64 0], none, [], []⟩),
(3, ⟨false, [.i .i64 0], none, [], []⟩),
(4, ⟨false, [.b false], none, [], []⟩),
(5, ⟨false, [.i .u8 0], none, [], []⟩),
(6, ⟨false, [.i .u8 0], none, [], []⟩),  -- internal/abi.BoundsErrorCode
(7, ⟨true, [.i .i64 0, .i .i64 0, .b false, .i .u8 0], none, [], [(0, 2), (1, 3), (2, 4), (3, 6)]⟩),
(8, ⟨true, [.i .i64 0, .i .i64 0, .b false, .i .u8 0], none, [], [(0, 2), (1, 3), (2, 4), (3, 6)]⟩),  -- runtime.boundsError
(12, ⟨false, [.i .u64 0], none, [], []⟩),
(21, ⟨false, [.i .i32 0], none, [], []⟩),
(22, ⟨true, [.i .i64 0, .i .i64 0, .i .i64 0, .i .i64 0, .i .i64 0], none, [], [(0, 3), (1, 3), (2, 3), (3, 3), (4, 3)]⟩),
(23, ⟨true, [.i .i64 0, .i .i64 0, .i .i64 0, .i .i64 0, .i .i64 0], none, [], [(0, 3), (1, 3), (2, 3), (3, 3), (4, 3)]⟩),  -- loop.example/linkboy/laws.CfgOpts
(24, ⟨false, [.r .part []], (some (.part, 103)), [], []⟩),
(25, ⟨true, [.i .i64 0, .i .i64 0, .r .part [], .i .i64 0, .r .part [], .b false, .i .i64 0, .b false, .i .i64 0, .b false], none, [103, 103], [(0, 3), (1, 3), (2, 24), (3, 3), (4, 24), (5, 4), (6, 3), (7, 4), (8, 3), (9, 4)]⟩),
(26, ⟨true, [.i .i64 0, .i .i64 0, .r .part [], .i .i64 0, .r .part [], .b false, .i .i64 0, .b false, .i .i64 0, .b false], none, [103, 103], [(0, 3), (1, 3), (2, 24), (3, 3), (4, 24), (5, 4), (6, 3), (7, 4), (8, 3), (9, 4)]⟩),  -- loop.example/linkboy/laws.TxState
(27, ⟨false, [.r .u8 []], (some (.u8, 5)), [], []⟩),
(29, ⟨false, [.r .part []], (some (.part, 58)), [], []⟩),
(30, ⟨true, [.i .i64 0, .i .i64 0, .r .part [], .i .i64 0, .r .part [], .b false, .i .i64 0, .b false, .i .i64 0, .b false], none, [58, 58], [(0, 3), (1, 3), (2, 29), (3, 3), (4, 29), (5, 4), (6, 3), (7, 4), (8, 3), (9, 4)]⟩),
(31, ⟨true, [.i .i64 0, .i .i64 0, .r .part [], .i .i64 0, .r .part [], .b false, .i .i64 0, .b false, .i .i64 0, .b false], none, [58, 58], [(0, 3), (1, 3), (2, 29), (3, 3), (4, 29), (5, 4), (6, 3), (7, 4), (8, 3), (9, 4)]⟩),  -- loop.example/linkboy/impl.TxState
(34, ⟨true, [.i .i64 0, .i .i64 0, .i .i64 0, .i .i64 0, .i .i64 0], none, [], [(0, 3), (1, 3), (2, 3), (3, 3), (4, 3)]⟩),  -- loop.example/linkboy/impl.CfgOpts
(43, ⟨true, [.i .i64 0, .i .i64 0, .i .i64 0, .b false, .b false, .i .i64 0, .i .i64 0, .i .i64 0, .r .u8 []], none, [5], [(0, 3), (1, 3), (2, 3), (3, 4), (4, 4), (5, 3), (6, 3), (7, 3), (8, 27)]⟩),
(44, ⟨true, [.i .i64 0, .i .i64 0, .i .i64 0, .b false, .b false, .i .i64 0, .i .i64 0, .i .i64 0, .r .u8 []], none, [5], [(0, 3), (1, 3), (2, 3), (3, 4), (4, 4), (5, 3), (6, 3), (7, 3), (8, 27)]⟩),  -- loop.example/linkboy/impl.FrmFrame
(57, ⟨true, [.i .i64 0, .i .i64 0, .r .u8 []], none, [5], [(0, 3), (1, 3), (2, 27)]⟩),
(58, ⟨true, [.i .i64 0, .i .i64 0, .r .u8 []], none, [5], [(0, 3), (1, 3), (2, 27)]⟩),  -- loop.example/linkboy/impl.SegPart
(72, ⟨true, [.i .i64 0, .i .i64 0, .i .i64 0, .b false, .b false, .i .i64 0, .i .i64 0, .i .i64 0, .r .u8 []], none, [5], [(0, 3), (1, 3), (2, 3), (3, 4), (4, 4), (5, 3), (6, 3), (7, 3), (8, 27)]⟩),  -- loop.example/linkboy/laws.FrmFrame
(92, ⟨false, [.r .i64 []], (some (.i64, 3)), [], []⟩),
(103, ⟨true, [.i .i64 0, .i .i64 0, .r .u8 []], none, [5], [(0, 3), (1, 3), (2, 27)]⟩),  -- loop.example/linkboy/laws.SegPart
(105, ⟨true, [.r .u8 [], .i .i64 0], none, [5], [(0, 27), (1, 3)]⟩),
(106, ⟨true, [.r .u8 [], .i .i64 0], none, [5], [(0, 27), (1, 3)]⟩),  -- loop.example/linkboy/spec.l20Rd
(122, ⟨false, [.i .u32 0], none, [], []⟩),
(123, ⟨false, [.i .u8 0], none, [], []⟩),  -- internal/abi.TFlag
(124, ⟨false, [.i .u8 0], none, [], []⟩),  -- internal/abi.Kind
(127, ⟨false, [.i .i32 0], none, [], []⟩),  -- internal/abi.NameOff
(128, ⟨false, [.i .i32 0], none, [], []⟩)  -- internal/abi.TypeOff
]
set_option maxRecDepth 100000 in
theorem tys_ok : tysB Try.prog tys = true := by kernel_rfl
theorem shapes_ok : shapesB tys = true := by kernel_rfl
theorem mixed : Try.prog.follows .mixedOrders = true := by kernel_rfl
end Go.Proofs.YtfcllghcdeifbaaE
