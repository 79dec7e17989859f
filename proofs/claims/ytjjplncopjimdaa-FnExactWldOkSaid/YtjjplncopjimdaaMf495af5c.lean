/- A part of the proof of laws of the program: what calls of the program answer. Conditions: none. -/
import Derived.Test.YtjjplncopjimdaaM7c74bd49
import Derived.Test.YtjjplncopjimdaaProg
set_option linter.unusedVariables false
set_option linter.unusedSimpArgs false
set_option linter.unusedSectionVars false
/- The program's types, as far as they are used. Conditions: none. -/
set_option linter.unusedVariables false
namespace Go.Proofs.YtjjplncopjimdaaE
open Go
def tys : List (Nat × TyI) := [
(2, ⟨false, [.i .i64 0], none, [], []⟩),
(3, ⟨false, [.i .i64 0], none, [], []⟩),
(4, ⟨false, [.b false], none, [], []⟩),
(5, ⟨false, [.i .u8 0], none, [], []⟩),
(6, ⟨false, [.i .u8 0], none, [], []⟩),  -- internal/abi.BoundsErrorCode
(7, ⟨true, [.i .i64 0, .i .i64 0, .b false, .i .u8 0], none, [], [(0, 2), (1, 3), (2, 4), (3, 6)]⟩),
(8, ⟨true, [.i .i64 0, .i .i64 0, .b false, .i .u8 0], none, [], [(0, 2), (1, 3), (2, 4), (3, 6)]⟩),  -- runtime.boundsError
(12, ⟨false, [.i .u64 0], none, [], []⟩),
(21, ⟨false, [.i .i32 0], none, [], []⟩),
(22, ⟨true, [.i .i64 0, .i .i64 0, .i .i64 0, .i .i64 0, .i .i64 0], none, [], [(0, 3), (1, 3), (2, 3), (3, 3), (4, 3)]⟩),
(23, ⟨true, [.i .i64 0, .i .i64 0, .i .i64 0, .i .i64 0, .i .i64 0], none, [], [(0, 3), (1, 3), (2, 3), (3, 3), (4, 3)]⟩),  -- loop.example/linkboy/laws.CfgOpts
(24, ⟨false, [.r .wend []], (some (.wend, 88)), [], []⟩),
(25, ⟨false, [.r .nets []], (some (.nets, 90)), [], []⟩),
(26, ⟨true, [.i .i64 0, .i .i64 0, .i .i64 0, .i .i64 0, .i .i64 0, .r .wend [], .r .nets [], .i .i64 0], none, [88, 90], [(0, 23), (5, 24), (6, 25), (7, 3)]⟩),
(27, ⟨true, [.i .i64 0, .i .i64 0, .i .i64 0, .i .i64 0, .i .i64 0, .r .wend [], .r .nets [], .i .i64 0], none, [88, 90], [(0, 23), (5, 24), (6, 25), (7, 3)]⟩),  -- loop.example/linkboy/laws.WldWorld
(30, ⟨true, [.i .i64 0, .i .i64 0, .i .i64 0, .i .i64 0, .i .i64 0], none, [], [(0, 3), (1, 3), (2, 3), (3, 3), (4, 3)]⟩),  -- loop.example/linkboy/impl.CfgOpts
(31, ⟨false, [.r .wend []], (some (.wend, 57)), [], []⟩),
(32, ⟨false, [.r .nets []], (some (.nets, 58)), [], []⟩),
(33, ⟨true, [.i .i64 0, .i .i64 0, .i .i64 0, .i .i64 0, .i .i64 0, .r .wend [], .r .nets [], .i .i64 0], none, [57, 58], [(0, 30), (5, 31), (6, 32), (7, 3)]⟩),
(34, ⟨true, [.i .i64 0, .i .i64 0, .i .i64 0, .i .i64 0, .i .i64 0, .r .wend [], .r .nets [], .i .i64 0], none, [57, 58], [(0, 30), (5, 31), (6, 32), (7, 3)]⟩),  -- loop.example/linkboy/impl.WldWorld
(43, ⟨false, [.r .part []], (some (.part, 120)), [], []⟩),
(44, ⟨true, [.i .i64 0, .i .i64 0, .r .part [], .i .i64 0, .r .part [], .b false, .i .i64 0, .b false, .i .i64 0, .b false], none, [120, 120], [(0, 3), (1, 3), (2, 43), (3, 3), (4, 43), (5, 4), (6, 3), (7, 4), (8, 3), (9, 4)]⟩),
(45, ⟨true, [.i .i64 0, .i .i64 0, .r .part [], .i .i64 0, .r .part [], .b false, .i .i64 0, .b false, .i .i64 0, .b false], none, [120, 120], [(0, 3), (1, 3), (2, 43), (3, 3), (4, 43), (5, 4), (6, 3), (7, 4), (8, 3), (9, 4)]⟩),  -- loop.example/linkboy/impl.TxState
(46, ⟨false, [.r .u8 []], (some (.u8, 5)), [], []⟩),
(47, ⟨true, [.i .i64 0, .r .u8 []], none, [5], [(0, 3), (1, 46)]⟩),
(48, ⟨true, [.i .i64 0, .r .u8 []], none, [5], [(0, 3), (1, 46)]⟩),  -- loop.example/linkboy/impl.SegJoin
(49, ⟨true, [.i .i64 0, .i .i64 0, .i .i64 0, .r .u8 [], .b false, .b false, .b false], none, [5], [(0, 3), (1, 3), (2, 48), (4, 4), (5, 4), (6, 4)]⟩),
(50, ⟨true, [.i .i64 0, .i .i64 0, .i .i64 0, .r .u8 [], .b false, .b false, .b false], none, [5], [(0, 3), (1, 3), (2, 48), (4, 4), (5, 4), (6, 4)]⟩),  -- loop.example/linkboy/impl.RxState
(51, ⟨true, [.i .i64 0, .r .part [], .i .i64 0, .i .i64 0, .b false], none, [120], [(0, 3), (1, 43), (2, 3), (3, 3), (4, 4)]⟩),
(52, ⟨true, [.i .i64 0, .r .part [], .i .i64 0, .i .i64 0, .b false], none, [120], [(0, 3), (1, 43), (2, 3), (3, 3), (4, 4)]⟩),  -- loop.example/linkboy/impl.CrdTx
(53, ⟨true, [.i .i64 0, .i .i64 0, .r .u8 [], .b false], none, [5], [(0, 3), (1, 48), (3, 4)]⟩),
(54, ⟨true, [.i .i64 0, .i .i64 0, .r .u8 [], .b false], none, [5], [(0, 3), (1, 48), (3, 4)]⟩),  -- loop.example/linkboy/impl.CrdRx
(55, ⟨false, [.r .byr []], (some (.byr, 46)), [], []⟩),
(56, ⟨true, [.i .i64 0, .i .i64 0, .r .part [], .i .i64 0, .r .part [], .b false, .i .i64 0, .b false, .i .i64 0, .b false, .i .i64 0, .i .i64 0, .i .i64 0, .r .u8 [], .b false, .b false, .b false, .i .i64 0, .r .part [], .i .i64 0, .i .i64 0, .b false, .i .i64 0, .i .i64 0, .r .u8 [], .b false, .r .byr [], .r .byr []], none, [120, 120, 5, 120, 5, 46, 46], [(0, 45), (10, 50), (17, 52), (22, 54), (26, 55), (27, 55)]⟩),
(57, ⟨true, [.i .i64 0, .i .i64 0, .r .part [], .i .i64 0, .r .part [], .b false, .i .i64 0, .b false, .i .i64 0, .b false, .i .i64 0, .i .i64 0, .i .i64 0, .r .u8 [], .b false, .b false, .b false, .i .i64 0, .r .part [], .i .i64 0, .i .i64 0, .b false, .i .i64 0, .i .i64 0, .r .u8 [], .b false, .r .byr [], .r .byr []], none, [120, 120, 5, 120, 5, 46, 46], [(0, 45), (10, 50), (17, 52), (22, 54), (26, 55), (27, 55)]⟩),  -- loop.example/linkboy/impl.WldEnd
(58, ⟨false, [.r .netm []], (some (.netm, 60)), [], []⟩),
(59, ⟨true, [.b false, .r .u8 []], none, [5], [(0, 4), (1, 46)]⟩),
(60, ⟨true, [.b false, .r .u8 []], none, [5], [(0, 4), (1, 46)]⟩),  -- loop.example/linkboy/impl.NetMsg
(77, ⟨false, [.r .part []], (some (.part, 141)), [], []⟩),
(78, ⟨true, [.i .i64 0, .i .i64 0, .r .part [], .i .i64 0, .r .part [], .b false, .i .i64 0, .b false, .i .i64 0, .b false], none, [141, 141], [(0, 3), (1, 3), (2, 77), (3, 3), (4, 77), (5, 4), (6, 3), (7, 4), (8, 3), (9, 4)]⟩),
(79, ⟨true, [.i .i64 0, .i .i64 0, .r .part [], .i .i64 0, .r .part [], .b false, .i .i64 0, .b false, .i .i64 0, .b false], none, [141, 141], [(0, 3), (1, 3), (2, 77), (3, 3), (4, 77), (5, 4), (6, 3), (7, 4), (8, 3), (9, 4)]⟩),  -- loop.example/linkboy/laws.TxState
(80, ⟨true, [.i .i64 0, .r .u8 []], none, [5], [(0, 3), (1, 46)]⟩),  -- loop.example/linkboy/laws.SegJoin
(81, ⟨true, [.i .i64 0, .i .i64 0, .i .i64 0, .r .u8 [], .b false, .b false, .b false], none, [5], [(0, 3), (1, 3), (2, 80), (4, 4), (5, 4), (6, 4)]⟩),
(82, ⟨true, [.i .i64 0, .i .i64 0, .i .i64 0, .r .u8 [], .b false, .b false, .b false], none, [5], [(0, 3), (1, 3), (2, 80), (4, 4), (5, 4), (6, 4)]⟩),  -- loop.example/linkboy/laws.RxState
(83, ⟨true, [.i .i64 0, .r .part [], .i .i64 0, .i .i64 0, .b false], none, [141], [(0, 3), (1, 77), (2, 3), (3, 3), (4, 4)]⟩),
(84, ⟨true, [.i .i64 0, .r .part [], .i .i64 0, .i .i64 0, .b false], none, [141], [(0, 3), (1, 77), (2, 3), (3, 3), (4, 4)]⟩),  -- loop.example/linkboy/laws.CrdTx
(85, ⟨true, [.i .i64 0, .i .i64 0, .r .u8 [], .b false], none, [5], [(0, 3), (1, 80), (3, 4)]⟩),
(86, ⟨true, [.i .i64 0, .i .i64 0, .r .u8 [], .b false], none, [5], [(0, 3), (1, 80), (3, 4)]⟩),  -- loop.example/linkboy/laws.CrdRx
(87, ⟨true, [.i .i64 0, .i .i64 0, .r .part [], .i .i64 0, .r .part [], .b false, .i .i64 0, .b false, .i .i64 0, .b false, .i .i64 0, .i .i64 0, .i .i64 0, .r .u8 [], .b false, .b false, .b false, .i .i64 0, .r .part [], .i .i64 0, .i .i64 0, .b false, .i .i64 0, .i .i64 0, .r .u8 [], .b false, .r .byr [], .r .byr []], none, [141, 141, 5, 141, 5, 46, 46], [(0, 79), (10, 82), (17, 84), (22, 86), (26, 55), (27, 55)]⟩),
(88, ⟨true, [.i .i64 0, .i .i64 0, .r .part [], .i .i64 0, .r .part [], .b false, .i .i64 0, .b false, .i .i64 0, .b false, .i .i64 0, .i .i64 0, .i .i64 0, .r .u8 [], .b false, .b false, .b false, .i .i64 0, .r .part [], .i .i64 0, .i .i64 0, .b false, .i .i64 0, .i .i64 0, .r .u8 [], .b false, .r .byr [], .r .byr []], none, [141, 141, 5, 141, 5, 46, 46], [(0, 79), (10, 82), (17, 84), (22, 86), (26, 55), (27, 55)]⟩),  -- loop.example/linkboy/laws.WldEnd
(90, ⟨false, [.r .netm []], (some (.netm, 110)), [], []⟩),
(110, ⟨true, [.b false, .r .u8 []], none, [5], [(0, 4), (1, 46)]⟩),  -- loop.example/linkboy/laws.NetMsg
(119, ⟨true, [.i .i64 0, .i .i64 0, .r .u8 []], none, [5], [(0, 3), (1, 3), (2, 46)]⟩),
(120, ⟨true, [.i .i64 0, .i .i64 0, .r .u8 []], none, [5], [(0, 3), (1, 3), (2, 46)]⟩),  -- loop.example/linkboy/impl.SegPart
(141, ⟨true, [.i .i64 0, .i .i64 0, .r .u8 []], none, [5], [(0, 3), (1, 3), (2, 46)]⟩),  -- loop.example/linkboy/laws.SegPart
(143, ⟨true, [.i .i64 0, .i .i64 0, .i .i64 0, .b false, .b false, .i .i64 0, .i .i64 0, .i .i64 0, .r .u8 []], none, [5], [(0, 3), (1, 3), (2, 3), (3, 4), (4, 4), (5, 3), (6, 3), (7, 3), (8, 46)]⟩),
(144, ⟨true, [.i .i64 0, .i .i64 0, .i .i64 0, .b false, .b false, .i .i64 0, .i .i64 0, .i .i64 0, .r .u8 []], none, [5], [(0, 3), (1, 3), (2, 3), (3, 4), (4, 4), (5, 3), (6, 3), (7, 3), (8, 46)]⟩),  -- loop.example/linkboy/impl.FrmFrame
(154, ⟨false, [.i .u32 0], none, [], []⟩),
(155, ⟨false, [.i .u8 0], none, [], []⟩),  -- internal/abi.TFlag
(156, ⟨false, [.i .u8 0], none, [], []⟩),  -- internal/abi.Kind
(159, ⟨false, [.i .i32 0], none, [], []⟩),  -- internal/abi.NameOff
(160, ⟨false, [.i .i32 0], none, [], []⟩)  -- internal/abi.TypeOff
]
set_option maxRecDepth 100000 in
theorem tys_ok : tysB Try.prog tys = true := by kernel_rfl
theorem shapes_ok : shapesB tys = true := by kernel_rfl
theorem mixed : Try.prog.follows .mixedOrders = true := by kernel_rfl
end Go.Proofs.YtjjplncopjimdaaE
