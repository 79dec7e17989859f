/- A part of the proof of the law FnRxSays: what calls of the program answer. Conditions: none. -/
import Derived.Test.YtjladmhjpikdhaaMFnRxSays1
import Derived.Test.YtjladmhjpikdhaaProg
/- The program's types, as far as they are used. Conditions: none. -/
set_option linter.unusedVariables false
namespace Go.Proofs.YtjladmhjpikdhaaE
open Go
def tys : List (Nat × TyI) := [
(2, ⟨false, [.i .i64 0], none, [], []⟩),
(3, ⟨false, [.i .i64 0], none, [], []⟩),
(4, ⟨false, [.b false], none, [], []⟩),
(5, ⟨false, [.i .u8 0], none, [], []⟩),
(6, ⟨false, [.i .u8 0], none, [], []⟩),  -- internal/abi.BoundsErrorCode
(7, ⟨true, [.i .i64 0, .i .i64 0, .b false, .i .u8 0], none, [], [(0, 2), (1, 3), (2, 4), (3, 6)]⟩),
(8, ⟨true, [.i .i64 0, .i .i64 0, .b false, .i .u8 0], none, [], [(0, 2), (1, 3), (2, 4), (3, 6)]⟩),  -- runtime.boundsError
(12, ⟨false, [.i .u64 0], none, [], []⟩),
(21, ⟨false, [.i .i32 0], none, [], []⟩),
(22, ⟨false, [.r .u8 []], (some (.u8, 5)), [], []⟩),
(23, ⟨true, [.i .i64 0, .r .u8 []], none, [5], [(0, 3), (1, 22)]⟩),
(24, ⟨true, [.i .i64 0, .r .u8 []], none, [5], [(0, 3), (1, 22)]⟩),  -- loop.example/linkboy/impl.SegJoin
(25, ⟨true, [.i .i64 0, .i .i64 0, .i .i64 0, .r .u8 [], .b false, .b false, .b false], none, [5], [(0, 3), (1, 3), (2, 24), (4, 4), (5, 4), (6, 4)]⟩),
(26, ⟨true, [.i .i64 0, .i .i64 0, .i .i64 0, .r .u8 [], .b false, .b false, .b false], none, [5], [(0, 3), (1, 3), (2, 24), (4, 4), (5, 4), (6, 4)]⟩),  -- loop.example/linkboy/impl.RxState
(28, ⟨true, [.i .i64 0, .i .i64 0, .i .i64 0, .b false, .b false, .i .i64 0, .i .i64 0, .i .i64 0, .r .u8 []], none, [5], [(0, 3), (1, 3), (2, 3), (3, 4), (4, 4), (5, 3), (6, 3), (7, 3), (8, 22)]⟩),
(29, ⟨true, [.i .i64 0, .i .i64 0, .i .i64 0, .b false, .b false, .i .i64 0, .i .i64 0, .i .i64 0, .r .u8 []], none, [5], [(0, 3), (1, 3), (2, 3), (3, 4), (4, 4), (5, 3), (6, 3), (7, 3), (8, 22)]⟩),  -- loop.example/linkboy/impl.FrmFrame
(38, ⟨false, [.r .frm []], (some (.frm, 29)), [], []⟩),
(44, ⟨true, [.i .i64 0, .r .u8 []], none, [5], [(0, 3), (1, 22)]⟩),  -- loop.example/linkboy/laws.SegJoin
(45, ⟨true, [.i .i64 0, .i .i64 0, .i .i64 0, .r .u8 [], .b false, .b false, .b false], none, [5], [(0, 3), (1, 3), (2, 44), (4, 4), (5, 4), (6, 4)]⟩),
(46, ⟨true, [.i .i64 0, .i .i64 0, .i .i64 0, .r .u8 [], .b false, .b false, .b false], none, [5], [(0, 3), (1, 3), (2, 44), (4, 4), (5, 4), (6, 4)]⟩),  -- loop.example/linkboy/laws.RxState
(54, ⟨true, [.i .i64 0, .i .i64 0, .i .i64 0, .i .i64 0, .i .i64 0], none, [], [(0, 3), (1, 3), (2, 3), (3, 3), (4, 3)]⟩),
(55, ⟨true, [.i .i64 0, .i .i64 0, .i .i64 0, .i .i64 0, .i .i64 0], none, [], [(0, 3), (1, 3), (2, 3), (3, 3), (4, 3)]⟩),  -- loop.example/linkboy/laws.CfgOpts
(56, ⟨true, [.i .i64 0, .i .i64 0, .i .i64 0, .b false, .b false, .i .i64 0, .i .i64 0, .i .i64 0, .r .u8 []], none, [5], [(0, 3), (1, 3), (2, 3), (3, 4), (4, 4), (5, 3), (6, 3), (7, 3), (8, 22)]⟩),  -- loop.example/linkboy/laws.FrmFrame
(58, ⟨false, [.r .byr []], (some (.byr, 22)), [], []⟩),
(61, ⟨true, [.i .i64 0, .i .i64 0, .i .i64 0, .i .i64 0, .i .i64 0], none, [], [(0, 3), (1, 3), (2, 3), (3, 3), (4, 3)]⟩),  -- loop.example/linkboy/impl.CfgOpts
(74, ⟨true, [.i .i64 0, .i .i64 0, .r .u8 []], none, [5], [(0, 3), (1, 3), (2, 22)]⟩),
(75, ⟨true, [.i .i64 0, .i .i64 0, .r .u8 []], none, [5], [(0, 3), (1, 3), (2, 22)]⟩),  -- loop.example/linkboy/impl.SegPart
(99, ⟨false, [.r .i64 []], (some (.i64, 3)), [], []⟩),
(103, ⟨true, [.r .u8 [], .i .i64 0], none, [5], [(0, 22), (1, 3)]⟩),
(104, ⟨true, [.r .u8 [], .i .i64 0], none, [5], [(0, 22), (1, 3)]⟩),  -- loop.example/linkboy/spec.l20Rd
(118, ⟨false, [.i .u32 0], none, [], []⟩),
(119, ⟨false, [.i .u8 0], none, [], []⟩),  -- internal/abi.TFlag
(120, ⟨false, [.i .u8 0], none, [], []⟩),  -- internal/abi.Kind
(123, ⟨false, [.i .i32 0], none, [], []⟩),  -- internal/abi.NameOff
(124, ⟨false, [.i .i32 0], none, [], []⟩)  -- internal/abi.TypeOff
]
set_option maxRecDepth 100000 in
theorem tys_ok : tysB Try.prog tys = true := by kernel_rfl
theorem mixed : Try.prog.follows .mixedOrders = true := by kernel_rfl
end Go.Proofs.YtjladmhjpikdhaaE

/- Contracts: A. Conditions: none. -/
set_option linter.unusedVariables false
set_option maxHeartbeats 4000000
namespace Go.Proofs.YtjladmhjpikdhaaE
open Go
/-! impl.in -/
def c_impl_in : Ent := ctr (α := (Int) × (Int) × (Int)) (ρ := (Bool)) [] [] (rs rInt (rs rInt (rs1 rInt))) (fun x_ => (fun (a : Int) (b : Int) (c : Int) => (True)) x_.1 x_.2.1 x_.2.2) (fun x_ r_ => (fun x_ => (fun (a : Int) (b : Int) (c : Int) => ((fun r_ => (fun (r : Bool) => (r = decide (b ≤ a ∧ a ≤ c))) r_))) x_.1 x_.2.1 x_.2.2) x_ r_) (fun r_ => (fun (r : Bool) => ([rB.to r])) r_) (fun r_ => (fun (r : Bool) => ([])) r_)
def V_impl_in : Env := ⟨tys, [], [], [], [], [], []⟩
/-! spec.l1In -/
def c_spec_l1In : Ent := ctr (α := (Int) × (Int) × (Int)) (ρ := (Bool)) [] [] (rs rInt (rs rInt (rs1 rInt))) (fun x_ => (fun (a : Int) (b : Int) (c : Int) => (True)) x_.1 x_.2.1 x_.2.2) (fun x_ r_ => (fun x_ => (fun (a : Int) (b : Int) (c : Int) => ((fun r_ => (fun (r : Bool) => (r = decide (b ≤ a ∧ a ≤ c))) r_))) x_.1 x_.2.1 x_.2.2) x_ r_) (fun r_ => (fun (r : Bool) => ([rB.to r])) r_) (fun r_ => (fun (r : Bool) => ([])) r_)
def V_spec_l1In : Env := ⟨tys, [], [], [], [], [], []⟩
end Go.Proofs.YtjladmhjpikdhaaE

/- Contracts: B. Conditions: none. -/
set_option linter.unusedVariables false
set_option maxHeartbeats 4000000
namespace Go.Proofs.YtjladmhjpikdhaaE
open Go
/-! slices.Clone[[]byte,byte] -/
def c_slices_Clone_byte_byte : Ent := ctr (α := (List Int)) (ρ := (List Int)) [] [(0, 0)] (rs1 rBytes) (fun x_ => (fun (l : List Int) => (l.length ≤ LIM)) x_) (fun x_ r_ => (fun x_ => (fun (l : List Int) => ((fun r_ => (fun (r : List Int) => (r = l)) r_))) x_) x_ r_) (fun r_ => (fun (r : List Int) => ([(rO 5 .u8).to r])) r_) (fun r_ => (fun (r : List Int) => ([])) r_)
def V_slices_Clone_byte_byte : Env := ⟨tys, [], [(2, [0]), (5, [1])], [], [], [], []⟩
/-! slices.Clip[[]byte,byte] -/
def c_slices_Clip_byte_byte : Ent := ctr (α := (List Int)) (ρ := (List Int)) [(0, 0)] [(0, 0)] (rs1 (rO 5 .u8)) (fun x_ => (fun (l : List Int) => (True)) x_) (fun x_ r_ => (fun x_ => (fun (l : List Int) => ((fun r_ => (fun (r : List Int) => (r = l)) r_))) x_) x_ r_) (fun r_ => (fun (r : List Int) => ([(rO 5 .u8).to r])) r_) (fun r_ => (fun (r : List Int) => ([])) r_)
def V_slices_Clip_byte_byte : Env := ⟨tys, [], [], [], [], [], []⟩
/-! impl.clone[byte] -/
def c_impl_clone_byte : Ent := ctr (α := (List Int)) (ρ := (List Int)) [] [(0, 0)] (rs1 rBytes) (fun x_ => (fun (l : List Int) => (l.length ≤ LIM)) x_) (fun x_ r_ => (fun x_ => (fun (l : List Int) => ((fun r_ => (fun (r : List Int) => (r = l)) r_))) x_) x_ r_) (fun r_ => (fun (r : List Int) => ([(rO 5 .u8).to r])) r_) (fun r_ => (fun (r : List Int) => ([])) r_)
def V_impl_clone_byte : Env := ⟨tys, [(99, c_slices_Clip_byte_byte), (100, c_slices_Clone_byte_byte)], [(4, [0]), (5, [1])], [], [], [], []⟩
end Go.Proofs.YtjladmhjpikdhaaE

/- Contracts: F. Conditions: none. -/
set_option linter.unusedVariables false
set_option maxHeartbeats 4000000
namespace Go.Proofs.YtjladmhjpikdhaaE
open Go
/-! impl.isNumber -/
def c_impl_isNumber : Ent := ctr (α := (Int)) (ρ := (Bool)) [] [] (rs1 rInt) (fun x_ => (fun (n : Int) => (True)) x_) (fun x_ r_ => (fun x_ => (fun (n : Int) => ((fun r_ => (fun (r : Bool) => (r = decide (0 ≤ n ∧ n ≤ 7))) r_))) x_) x_ r_) (fun r_ => (fun (r : Bool) => ([rB.to r])) r_) (fun r_ => (fun (r : Bool) => ([])) r_)
def V_impl_isNumber : Env := ⟨tys, [(65, c_impl_in)], [], [], [], [], []⟩
/-! slices.Equal[[]byte,byte] -/
def c_slices_Equal_byte_byte : Ent := ctr (α := (List Int) × (List Int)) (ρ := (Bool)) [] [] (rs rBytes (rs1 rBytes)) (fun x_ => (fun (a : List Int) (b : List Int) => (a.length ≤ LIM)) x_.1 x_.2) (fun x_ r_ => (fun x_ => (fun (a : List Int) (b : List Int) => ((fun r_ => (fun (r : Bool) => (r = decide (a = b))) r_))) x_.1 x_.2) x_ r_) (fun r_ => (fun (r : Bool) => ([rB.to r])) r_) (fun r_ => (fun (r : Bool) => ([])) r_)
def l_slices_Equal_byte_byte_0 : LoopD ((List Int) × (List Int) × (Int)) ((Unit)) ((Unit)) where
  head := ⟨[0, 1, 12, 13], [], []⟩
  st := fun x_ => (fun (a : List Int) (b : List Int) (i : Int) => (⟨mkSlots 26 [(0, .v false [.d (.r .u8 a)]), (1, .v false [.d (.r .u8 b)]), (12, num .i64 a.length), (13, num .i64 i)], [], []⟩)) x_.1 x_.2.1 x_.2.2
  pre := fun x_ => (fun (a : List Int) (b : List Int) (i : Int) => (a.length = b.length ∧ i = 0 ∧ a.length ≤ LIM)) x_.1 x_.2.1 x_.2.2
  nk := ⟨[], [], []⟩
  nst := fun r_ => (fun (u : Unit) => (⟨mkSlots 26 [], [], []⟩)) r_
  npost := fun x_ r_ => (fun x_ => (fun (a0 : List Int) (b0 : List Int) (i0 : Int) => ((fun r_ => (fun (u : Unit) => (a0 = b0)) r_))) x_.1 x_.2.1 x_.2.2) x_ r_
  rk := ⟨[4], [], []⟩
  rst := fun r_ => (fun (u : Unit) => (⟨mkSlots 26 [(4, boo false)], [], []⟩)) r_
  rpost := fun x_ r_ => (fun x_ => (fun (a0 : List Int) (b0 : List Int) (i0 : Int) => ((fun r_ => (fun (u : Unit) => (a0 ≠ b0)) r_))) x_.1 x_.2.1 x_.2.2) x_ r_
def i_slices_Equal_byte_byte_0 (x : (List Int) × (List Int) × (Int)) (n : Nat) (s : (List Int) × (List Int) × (Int)) : Prop := (fun x_ => (fun (a0 : List Int) (b0 : List Int) (i0 : Int) => ((fun s_ => (fun (a : List Int) (b : List Int) (i : Int) => (a = a0 ∧ b = b0 ∧ a.length = b.length ∧ a.length ≤ LIM ∧ 0 ≤ i ∧ i + n = a.length ∧ a.take i.toNat = b.take i.toNat)) s_.1 s_.2.1 s_.2.2))) x_.1 x_.2.1 x_.2.2) x s
def V_slices_Equal_byte_byte : Env := ⟨tys, [], [], [], [], [(0, l_slices_Equal_byte_byte_0.L)], []⟩
/-! impl.CfgOk -/
def c_impl_CfgOk : Ent := ctr (α := (Cfg)) (ρ := (Bool)) [] [] (rs1 rCfg) (fun x_ => (fun (c : Cfg) => (True)) x_) (fun x_ r_ => (fun x_ => (fun (c : Cfg) => ((fun r_ => (fun (r : Bool) => (r = decide (CfgP c))) r_))) x_) x_ r_) (fun r_ => (fun (r : Bool) => ([rB.to r])) r_) (fun r_ => (fun (r : Bool) => ([])) r_)
def V_impl_CfgOk : Env := ⟨tys, [(65, c_impl_in)], [], [(1, 0)], [], [], []⟩
/-! spec.CfgOk -/
def c_spec_CfgOk : Ent := ctr (α := (Cfg)) (ρ := (Bool)) [] [] (rs1 rCfg) (fun x_ => (fun (c : Cfg) => (True)) x_) (fun x_ r_ => (fun x_ => (fun (c : Cfg) => ((fun r_ => (fun (r : Bool) => (r = decide (CfgP c))) r_))) x_) x_ r_) (fun r_ => (fun (r : Bool) => ([rB.to r])) r_) (fun r_ => (fun (r : Bool) => ([])) r_)
def V_spec_CfgOk : Env := ⟨tys, [(59, c_spec_l1In)], [], [(1, 0)], [], [], []⟩
/-! impl.pieceOk -/
def c_impl_pieceOk : Ent := ctr (α := (Int) × (Int) × (List Int)) (ρ := (Bool)) [] [] (rs rInt (rs rInt (rs1 rBytes))) (fun x_ => (fun (s : Int) (n : Int) (d : List Int) => (True)) x_.1 x_.2.1 x_.2.2) (fun x_ r_ => (fun x_ => (fun (s : Int) (n : Int) (d : List Int) => ((fun r_ => (fun (r : Bool) => (r = decide (SegP s n d.length))) r_))) x_.1 x_.2.1 x_.2.2) x_ r_) (fun r_ => (fun (r : Bool) => ([rB.to r])) r_) (fun r_ => (fun (r : Bool) => ([])) r_)
def V_impl_pieceOk : Env := ⟨tys, [(65, c_impl_in)], [], [], [], [], []⟩
/-! spec.l2Seg -/
def c_spec_l2Seg : Ent := ctr (α := (Frm)) (ρ := (Bool)) [] [] (rs1 rFrm) (fun x_ => (fun (f : Frm) => (True)) x_) (fun x_ r_ => (fun x_ => (fun (f : Frm) => ((fun r_ => (fun (r : Bool) => (r = decide (SegP f.seg f.len f.data.length))) r_))) x_) x_ r_) (fun r_ => (fun (r : Bool) => ([rB.to r])) r_) (fun r_ => (fun (r : Bool) => ([])) r_)
def V_spec_l2Seg : Env := ⟨tys, [(59, c_spec_l1In)], [], [(1, 0)], [], [], []⟩
/-! (impl.FrmFrame).same -/
def c_impl_FrmFrame_same : Ent := ctr (α := (Frm) × (Frm)) (ρ := (Bool)) [] [] (rs rFrm (rs1 rFrm)) (fun x_ => (fun (f : Frm) (g : Frm) => (f.data.length ≤ LIM)) x_.1 x_.2) (fun x_ r_ => (fun x_ => (fun (f : Frm) (g : Frm) => ((fun r_ => (fun (r : Bool) => (r = decide (f = g))) r_))) x_.1 x_.2) x_ r_) (fun r_ => (fun (r : Bool) => ([rB.to r])) r_) (fun r_ => (fun (r : Bool) => ([])) r_)
def V_impl_FrmFrame_same : Env := ⟨tys, [(94, c_slices_Equal_byte_byte)], [], [(2, 0), (3, 1)], [], [], []⟩
/-! impl.FrmOk -/
def c_impl_FrmOk : Ent := ctr (α := (Frm)) (ρ := (Bool)) [] [] (rs1 rFrm) (fun x_ => (fun (f : Frm) => (f.data.length ≤ LIM)) x_) (fun x_ r_ => (fun x_ => (fun (f : Frm) => ((fun r_ => (fun (r : Bool) => (r = decide (FrmP f))) r_))) x_) x_ r_) (fun r_ => (fun (r : Bool) => ([rB.to r])) r_) (fun r_ => (fun (r : Bool) => ([])) r_)
def V_impl_FrmOk : Env := ⟨tys, [(63, c_impl_isNumber), (64, c_impl_pieceOk), (65, c_impl_in), (66, c_impl_FrmFrame_same)], [], [(1, 0), (3, 1)], [(5, ([1], [])), (8, ([1], [])), (11, ([1], []))], [], []⟩
/-! spec.FrmOk -/
def c_spec_FrmOk : Ent := ctr (α := (Frm)) (ρ := (Bool)) [] [] (rs1 rFrm) (fun x_ => (fun (f : Frm) => (True)) x_) (fun x_ r_ => (fun x_ => (fun (f : Frm) => ((fun r_ => (fun (r : Bool) => (r = decide (FrmP f))) r_))) x_) x_ r_) (fun r_ => (fun (r : Bool) => ([rB.to r])) r_) (fun r_ => (fun (r : Bool) => ([])) r_)
def V_spec_FrmOk : Env := ⟨tys, [(59, c_spec_l1In), (87, c_spec_l2Seg)], [], [(1, 0)], [], [], []⟩
end Go.Proofs.YtjladmhjpikdhaaE

/- Contracts: G. Conditions: none. -/
set_option linter.unusedVariables false
set_option maxHeartbeats 4000000
namespace Go.Proofs.YtjladmhjpikdhaaE
open Go
/-! impl.PartOk -/
def c_impl_PartOk : Ent := ctr (α := (Part)) (ρ := (Bool)) [] [] (rs1 rPart) (fun x_ => (fun (p : Part) => (True)) x_) (fun x_ r_ => (fun x_ => (fun (p : Part) => ((fun r_ => (fun (v : Bool) => (v = decide (PartP p))) r_))) x_) x_ r_) (fun r_ => (fun (v : Bool) => ([rB.to v])) r_) (fun r_ => (fun (v : Bool) => ([])) r_)
def V_impl_PartOk : Env := ⟨tys, [(64, c_impl_pieceOk)], [], [(1, 0)], [], [], []⟩
/-! impl.JoinOk -/
def c_impl_JoinOk : Ent := ctr (α := (JoinS)) (ρ := (Bool)) [] [] (rs1 rJoin) (fun x_ => (fun (j : JoinS) => (True)) x_) (fun x_ r_ => (fun x_ => (fun (j : JoinS) => ((fun r_ => (fun (v : Bool) => (v = decide (JoinP j))) r_))) x_) x_ r_) (fun r_ => (fun (v : Bool) => ([rB.to v])) r_) (fun r_ => (fun (v : Bool) => ([])) r_)
def V_impl_JoinOk : Env := ⟨tys, [(65, c_impl_in)], [], [(1, 0)], [], [], []⟩
/-! spec.JoinOk -/
def c_spec_JoinOk : Ent := ctr (α := (JoinS)) (ρ := (Bool)) [] [] (rs1 rJoin) (fun x_ => (fun (j : JoinS) => (True)) x_) (fun x_ r_ => (fun x_ => (fun (j : JoinS) => ((fun r_ => (fun (v : Bool) => (v = decide (JoinP j))) r_))) x_) x_ r_) (fun r_ => (fun (v : Bool) => ([rB.to v])) r_) (fun r_ => (fun (v : Bool) => ([])) r_)
def V_spec_JoinOk : Env := ⟨tys, [(59, c_spec_l1In)], [], [(1, 0)], [], [], []⟩
/-! impl.far -/
def c_impl_far : Ent := ctr (α := (Int) × (Int)) (ρ := (Int)) [] [] (rs rInt (rs1 rInt)) (fun x_ => (fun (a : Int) (b : Int) => (0 ≤ a ∧ a ≤ 7 ∧ 0 ≤ b ∧ b ≤ 7)) x_.1 x_.2) (fun x_ r_ => (fun x_ => (fun (a : Int) (b : Int) => ((fun r_ => (fun (x : Int) => (x = (b - a + 8) % 8)) r_))) x_.1 x_.2) x_ r_) (fun r_ => (fun (x : Int) => ([rInt.to x])) r_) (fun r_ => (fun (x : Int) => ([])) r_)
def V_impl_far : Env := ⟨tys, [], [], [], [], [], []⟩
/-! impl.NumFar -/
def c_impl_NumFar : Ent := ctr (α := (Int) × (Int)) (ρ := (Int)) [] [] (rs rInt (rs1 rInt)) (fun x_ => (fun (a : Int) (b : Int) => (True)) x_.1 x_.2) (fun x_ r_ => (fun x_ => (fun (a : Int) (b : Int) => ((fun r_ => (fun (x : Int) => (x = if 0 ≤ a ∧ a ≤ 7 ∧ 0 ≤ b ∧ b ≤ 7 then (b - a + 8) % 8 else -1)) r_))) x_.1 x_.2) x_ r_) (fun r_ => (fun (x : Int) => ([rInt.to x])) r_) (fun r_ => (fun (x : Int) => ([])) r_)
def V_impl_NumFar : Env := ⟨tys, [(63, c_impl_isNumber), (88, c_impl_far)], [], [], [], [], []⟩
/-! spec.NumFar -/
def c_spec_NumFar : Ent := ctr (α := (Int) × (Int)) (ρ := (Int)) [] [] (rs rInt (rs1 rInt)) (fun x_ => (fun (a : Int) (b : Int) => (True)) x_.1 x_.2) (fun x_ r_ => (fun x_ => (fun (a : Int) (b : Int) => ((fun r_ => (fun (x : Int) => (x = if 0 ≤ a ∧ a ≤ 7 ∧ 0 ≤ b ∧ b ≤ 7 then (b - a + 8) % 8 else -1)) r_))) x_.1 x_.2) x_ r_) (fun r_ => (fun (x : Int) => ([rInt.to x])) r_) (fun r_ => (fun (x : Int) => ([])) r_)
def V_spec_NumFar : Env := ⟨tys, [(59, c_spec_l1In)], [], [], [], [], []⟩
/-! impl.NumNext -/
def c_impl_NumNext : Ent := ctr (α := (Int)) (ρ := (Int)) [] [] (rs1 rInt) (fun x_ => (fun (n : Int) => (0 ≤ n ∧ n ≤ 100000)) x_) (fun x_ r_ => (fun x_ => (fun (n : Int) => ((fun r_ => (fun (x : Int) => (x = (n + 1) % 8)) r_))) x_) x_ r_) (fun r_ => (fun (x : Int) => ([rInt.to x])) r_) (fun r_ => (fun (x : Int) => ([])) r_)
def V_impl_NumNext : Env := ⟨tys, [], [], [], [], [], []⟩
/-! impl.NumOf -/
def c_impl_NumOf : Ent := ctr (α := (Int)) (ρ := (Int)) [] [] (rs1 rInt) (fun x_ => (fun (n : Int) => (True)) x_) (fun x_ r_ => (fun x_ => (fun (n : Int) => ((fun r_ => (fun (x : Int) => (x = if n < 0 then -1 else n % 8)) r_))) x_) x_ r_) (fun r_ => (fun (x : Int) => ([rInt.to x])) r_) (fun r_ => (fun (x : Int) => ([])) r_)
def V_impl_NumOf : Env := ⟨tys, [], [], [], [], [], []⟩
/-! spec.NumNext -/
def c_spec_NumNext : Ent := ctr (α := (Int)) (ρ := (Int)) [] [] (rs1 rInt) (fun x_ => (fun (n : Int) => (0 ≤ n ∧ n ≤ 100000)) x_) (fun x_ r_ => (fun x_ => (fun (n : Int) => ((fun r_ => (fun (x : Int) => (x = (n + 1) % 8)) r_))) x_) x_ r_) (fun r_ => (fun (x : Int) => ([rInt.to x])) r_) (fun r_ => (fun (x : Int) => ([])) r_)
def V_spec_NumNext : Env := ⟨tys, [], [], [], [], [], []⟩
/-! spec.NumOf -/
def c_spec_NumOf : Ent := ctr (α := (Int)) (ρ := (Int)) [] [] (rs1 rInt) (fun x_ => (fun (n : Int) => (True)) x_) (fun x_ r_ => (fun x_ => (fun (n : Int) => ((fun r_ => (fun (x : Int) => (x = if n < 0 then -1 else n % 8)) r_))) x_) x_ r_) (fun r_ => (fun (x : Int) => ([rInt.to x])) r_) (fun r_ => (fun (x : Int) => ([])) r_)
def V_spec_NumOf : Env := ⟨tys, [], [], [], [], [], []⟩
/-! impl.goOrWait -/
def c_impl_goOrWait : Ent := ctr (α := (Bool)) (ρ := (Int)) [] [] (rs1 rB) (fun x_ => (fun (b : Bool) => (True)) x_) (fun x_ r_ => (fun x_ => (fun (b : Bool) => ((fun r_ => (fun (x : Int) => (x = goWait b)) r_))) x_) x_ r_) (fun r_ => (fun (x : Int) => ([rInt.to x])) r_) (fun r_ => (fun (x : Int) => ([])) r_)
def V_impl_goOrWait : Env := ⟨tys, [], [], [], [], [], []⟩
/-! impl.RxOk -/
def c_impl_RxOk : Ent := ctr (α := (RxS)) (ρ := (Bool)) [] [] (rs1 rRx) (fun x_ => (fun (r : RxS) => (True)) x_) (fun x_ r_ => (fun x_ => (fun (r : RxS) => ((fun r_ => (fun (v : Bool) => (v = decide (RxP r))) r_))) x_) x_ r_) (fun r_ => (fun (v : Bool) => ([rB.to v])) r_) (fun r_ => (fun (v : Bool) => ([])) r_)
def V_impl_RxOk : Env := ⟨tys, [(63, c_impl_isNumber), (65, c_impl_in), (70, c_impl_NumOf), (71, c_impl_JoinOk)], [], [(1, 0)], [], [], []⟩
/-! spec.RxOk -/
def c_spec_RxOk : Ent := ctr (α := (RxS)) (ρ := (Bool)) [] [] (rs1 rRx) (fun x_ => (fun (r : RxS) => (True)) x_) (fun x_ r_ => (fun x_ => (fun (r : RxS) => ((fun r_ => (fun (v : Bool) => (v = decide (RxP r))) r_))) x_) x_ r_) (fun r_ => (fun (v : Bool) => ([rB.to v])) r_) (fun r_ => (fun (v : Bool) => ([])) r_)
def V_spec_RxOk : Env := ⟨tys, [(59, c_spec_l1In), (60, c_spec_NumOf), (61, c_spec_JoinOk)], [], [(1, 0)], [], [], []⟩
/-! (impl.RxState).say -/
def c_impl_RxState_say : Ent := ctr (α := (RxS) × (Int) × (Bool)) (ρ := (Frm)) [] [] (rs rRx (rs rInt (rs1 rB))) (fun x_ => (fun (r : RxS) (w : Int) (f : Bool) => (True)) x_.1 x_.2.1 x_.2.2) (fun x_ r_ => (fun x_ => (fun (r : RxS) (w : Int) (f : Bool) => ((fun r_ => (fun (g : Frm) => (g = sayF r w f)) r_))) x_.1 x_.2.1 x_.2.2) x_ r_) (fun r_ => (fun (g : Frm) => ([rFrm.to g])) r_) (fun r_ => (fun (g : Frm) => ([])) r_)
def V_impl_RxState_say : Env := ⟨tys, [], [], [(3, 0), (6, 1)], [], [], []⟩
/-! spec.l7Say -/
def c_spec_l7Say : Ent := ctr (α := (RxS) × (Bool)) (ρ := (Frm)) [] [] (rs rRx (rs1 rB)) (fun x_ => (fun (r : RxS) (f : Bool) => (True)) x_.1 x_.2) (fun x_ r_ => (fun x_ => (fun (r : RxS) (f : Bool) => ((fun r_ => (fun (g : Frm) => (g = sayF r (goWait r.busy) f)) r_))) x_.1 x_.2) x_ r_) (fun r_ => (fun (g : Frm) => ([rFrm.to g])) r_) (fun r_ => (fun (g : Frm) => ([])) r_)
def V_spec_l7Say : Env := ⟨tys, [], [], [(2, 0), (4, 1), (5, 2)], [], [], []⟩
end Go.Proofs.YtjladmhjpikdhaaE

/- Contracts: H. Conditions: none. -/
set_option linter.unusedVariables false
set_option maxHeartbeats 4000000
namespace Go.Proofs.YtjladmhjpikdhaaE
open Go
/-! laws.liBytes -/
def c_laws_liBytes : Ent := ctr (α := (List Int) × (List Int)) (ρ := (Bool)) [] [] (rs (rR .u8) (rs1 (rR .u8))) (fun x_ => (fun (a : List Int) (b : List Int) => (a.length ≤ LIM ∧ True)) x_.1 x_.2) (fun x_ r_ => (fun x_ => (fun (a : List Int) (b : List Int) => ((fun r_ => (fun (r : Bool) => (r = decide (a = b))) r_))) x_.1 x_.2) x_ r_) (fun r_ => (fun (r : Bool) => ([rB.to r])) r_) (fun r_ => (fun (r : Bool) => ([])) r_)
def l_laws_liBytes_0 : LoopD ((List Int) × (List Int) × (Int)) ((Unit)) ((Unit)) where
  head := ⟨[0, 1, 5], [], []⟩
  st := fun x_ => (fun (a : List Int) (b : List Int) (i : Int) => (⟨mkSlots 26 [(0, .v false [.d (.r .u8 a)]), (1, .v false [.d (.r .u8 b)]), (5, num .i64 i)], [], []⟩)) x_.1 x_.2.1 x_.2.2
  pre := fun x_ => (fun (a : List Int) (b : List Int) (i : Int) => (a.length = b.length ∧ i = 0 ∧ a.length ≤ LIM ∧ True)) x_.1 x_.2.1 x_.2.2
  nk := ⟨[], [], []⟩
  nst := fun r_ => (fun (u : Unit) => (⟨mkSlots 26 [], [], []⟩)) r_
  npost := fun x_ r_ => (fun x_ => (fun (a0 : List Int) (b0 : List Int) (i0 : Int) => ((fun r_ => (fun (u : Unit) => (a0 = b0)) r_))) x_.1 x_.2.1 x_.2.2) x_ r_
  rk := ⟨[4], [], []⟩
  rst := fun r_ => (fun (u : Unit) => (⟨mkSlots 26 [(4, boo false)], [], []⟩)) r_
  rpost := fun x_ r_ => (fun x_ => (fun (a0 : List Int) (b0 : List Int) (i0 : Int) => ((fun r_ => (fun (u : Unit) => (a0 ≠ b0)) r_))) x_.1 x_.2.1 x_.2.2) x_ r_
def i_laws_liBytes_0 (x : (List Int) × (List Int) × (Int)) (n : Nat) (s : (List Int) × (List Int) × (Int)) : Prop := (fun x_ => (fun (a0 : List Int) (b0 : List Int) (i0 : Int) => ((fun s_ => (fun (a : List Int) (b : List Int) (i : Int) => (a = a0 ∧ b = b0 ∧ a.length = b.length ∧ a.length ≤ LIM ∧ (True) ∧ 0 ≤ i ∧ i + n = a.length ∧ a.take i.toNat = b.take i.toNat)) s_.1 s_.2.1 s_.2.2))) x_.1 x_.2.1 x_.2.2) x s
def V_laws_liBytes : Env := ⟨tys, [], [], [], [], [(0, l_laws_liBytes_0.L)], []⟩
/-! laws.liJoin -/
def c_laws_liJoin : Ent := ctr (α := (JoinS) × (JoinS)) (ρ := (Bool)) [] [] (rs rJoin (rs1 rJoin)) (fun x_ => (fun (a : JoinS) (b : JoinS) => (a.got.length ≤ LIM)) x_.1 x_.2) (fun x_ r_ => (fun x_ => (fun (a : JoinS) (b : JoinS) => ((fun r_ => (fun (r : Bool) => (r = decide (a = b))) r_))) x_.1 x_.2) x_ r_) (fun r_ => (fun (r : Bool) => ([rB.to r])) r_) (fun r_ => (fun (r : Bool) => ([])) r_)
def V_laws_liJoin : Env := ⟨tys, [(53, c_laws_liBytes)], [], [(2, 0), (3, 1)], [], [], []⟩
/-! laws.liRx -/
def c_laws_liRx : Ent := ctr (α := (RxS) × (RxS)) (ρ := (Bool)) [] [] (rs rRx (rs1 rRx)) (fun x_ => (fun (a : RxS) (b : RxS) => (a.join.got.length ≤ LIM)) x_.1 x_.2) (fun x_ r_ => (fun x_ => (fun (a : RxS) (b : RxS) => ((fun r_ => (fun (r : Bool) => (r = decide (a = b))) r_))) x_.1 x_.2) x_ r_) (fun r_ => (fun (r : Bool) => ([rB.to r])) r_) (fun r_ => (fun (r : Bool) => ([])) r_)
def V_laws_liRx : Env := ⟨tys, [(26, c_laws_liJoin)], [], [(2, 0), (3, 1)], [], [], []⟩
/-! laws.liFrame -/
def c_laws_liFrame : Ent := ctr (α := (Frm) × (Frm)) (ρ := (Bool)) [] [] (rs rFrm (rs1 rFrm)) (fun x_ => (fun (a : Frm) (b : Frm) => (a.data.length ≤ LIM)) x_.1 x_.2) (fun x_ r_ => (fun x_ => (fun (a : Frm) (b : Frm) => ((fun r_ => (fun (r : Bool) => (r = decide (a = b))) r_))) x_.1 x_.2) x_ r_) (fun r_ => (fun (r : Bool) => ([rB.to r])) r_) (fun r_ => (fun (r : Bool) => ([])) r_)
def V_laws_liFrame : Env := ⟨tys, [(53, c_laws_liBytes)], [], [(2, 0), (3, 1)], [], [], []⟩
/-! laws.liFrames -/
def c_laws_liFrames : Ent := ctr (α := (List Frm) × (List Frm)) (ρ := (Bool)) [] [] (rs (rR .frm) (rs1 (rR .frm))) (fun x_ => (fun (a : List Frm) (b : List Frm) => (a.length ≤ LIM ∧ ∀ y ∈ a, y.data.length ≤ LIM)) x_.1 x_.2) (fun x_ r_ => (fun x_ => (fun (a : List Frm) (b : List Frm) => ((fun r_ => (fun (r : Bool) => (r = decide (a = b))) r_))) x_.1 x_.2) x_ r_) (fun r_ => (fun (r : Bool) => ([rB.to r])) r_) (fun r_ => (fun (r : Bool) => ([])) r_)
def l_laws_liFrames_0 : LoopD ((List Frm) × (List Frm) × (Int)) ((Unit)) ((Unit)) where
  head := ⟨[0, 1, 5], [], []⟩
  st := fun x_ => (fun (a : List Frm) (b : List Frm) (i : Int) => (⟨mkSlots 27 [(0, .v false [.d (.r .frm a)]), (1, .v false [.d (.r .frm b)]), (5, num .i64 i)], [], []⟩)) x_.1 x_.2.1 x_.2.2
  pre := fun x_ => (fun (a : List Frm) (b : List Frm) (i : Int) => (a.length = b.length ∧ i = 0 ∧ a.length ≤ LIM ∧ ∀ y ∈ a, y.data.length ≤ LIM)) x_.1 x_.2.1 x_.2.2
  nk := ⟨[], [], []⟩
  nst := fun r_ => (fun (u : Unit) => (⟨mkSlots 27 [], [], []⟩)) r_
  npost := fun x_ r_ => (fun x_ => (fun (a0 : List Frm) (b0 : List Frm) (i0 : Int) => ((fun r_ => (fun (u : Unit) => (a0 = b0)) r_))) x_.1 x_.2.1 x_.2.2) x_ r_
  rk := ⟨[4], [], []⟩
  rst := fun r_ => (fun (u : Unit) => (⟨mkSlots 27 [(4, boo false)], [], []⟩)) r_
  rpost := fun x_ r_ => (fun x_ => (fun (a0 : List Frm) (b0 : List Frm) (i0 : Int) => ((fun r_ => (fun (u : Unit) => (a0 ≠ b0)) r_))) x_.1 x_.2.1 x_.2.2) x_ r_
def i_laws_liFrames_0 (x : (List Frm) × (List Frm) × (Int)) (n : Nat) (s : (List Frm) × (List Frm) × (Int)) : Prop := (fun x_ => (fun (a0 : List Frm) (b0 : List Frm) (i0 : Int) => ((fun s_ => (fun (a : List Frm) (b : List Frm) (i : Int) => (a = a0 ∧ b = b0 ∧ a.length = b.length ∧ a.length ≤ LIM ∧ (∀ y ∈ a, y.data.length ≤ LIM) ∧ 0 ≤ i ∧ i + n = a.length ∧ a.take i.toNat = b.take i.toNat)) s_.1 s_.2.1 s_.2.2))) x_.1 x_.2.1 x_.2.2) x s
def V_laws_liFrames : Env := ⟨tys, [(15, c_laws_liFrame)], [], [], [], [(0, l_laws_liFrames_0.L)], []⟩
/-! laws.liOk -/
def c_laws_liOk : Ent := ctr (α := Unit) (ρ := (Bool)) [] [] rs0 (fun x_ => (True)) (fun x_ r_ => (fun x_ => ((fun r_ => (fun (r : Bool) => (r = true)) r_))) x_ r_) (fun r_ => (fun (r : Bool) => ([rB.to r])) r_) (fun r_ => (fun (r : Bool) => ([])) r_)
def V_laws_liOk : Env := ⟨tys, [(62, c_impl_CfgOk)], [], [], [], [], []⟩
/-! (impl.RxState).copyOf -/
def c_impl_RxState_copyOf : Ent := ctr (α := (RxS)) (ρ := (RxS)) [] [] (rs1 rRx) (fun x_ => (fun (r : RxS) => (r.join.got.length ≤ LIM)) x_) (fun x_ r_ => (fun x_ => (fun (r : RxS) => ((fun r_ => (fun (x : RxS) => (x = r)) r_))) x_) x_ r_) (fun r_ => (fun (x : RxS) => ([rRx.to x])) r_) (fun r_ => (fun (x : RxS) => ([])) r_)
def V_impl_RxState_copyOf : Env := ⟨tys, [(95, c_impl_clone_byte)], [], [(1, 0), (2, 1)], [], [], []⟩
/-! spec.l7Copy -/
def c_spec_l7Copy : Ent := ctr (α := (RxS)) (ρ := (RxS)) [] [] (rs1 rRx) (fun x_ => (fun (r : RxS) => (r.join.got.length ≤ LIM)) x_) (fun x_ r_ => (fun x_ => (fun (r : RxS) => ((fun r_ => (fun (x : RxS) => (x = r)) r_))) x_) x_ r_) (fun r_ => (fun (x : RxS) => ([rRx.to x])) r_) (fun r_ => (fun (x : RxS) => ([])) r_)
def V_spec_l7Copy : Env := ⟨tys, [], [(5, [0])], [(1, 0), (2, 1), (3, 2)], [], [], []⟩
/-! impl.RxAck -/
def c_impl_RxAck : Ent := ctr (α := (RxS)) (ρ := (Frm)) [] [] (rs1 rRx) (fun x_ => (fun (r : RxS) => (True)) x_) (fun x_ r_ => (fun x_ => (fun (r : RxS) => ((fun r_ => (fun (f : Frm) => (f = rxAck r)) r_))) x_) x_ r_) (fun r_ => (fun (f : Frm) => ([rFrm.to f])) r_) (fun r_ => (fun (f : Frm) => ([])) r_)
def V_impl_RxAck : Env := ⟨tys, [(25, c_impl_RxOk), (56, c_impl_RxState_say), (57, c_impl_goOrWait)], [], [(1, 0), (2, 1)], [(3, ([1], []))], [], []⟩
/-! impl.RxBusy -/
def c_impl_RxBusy : Ent := ctr (α := (RxS) × (Bool)) (ρ := (BusyR)) [] [] (rs rRx (rs1 rB)) (fun x_ => (fun (r : RxS) (b : Bool) => (r.join.got.length ≤ LIM)) x_.1 x_.2) (fun x_ r_ => (fun x_ => (fun (r : RxS) (b : Bool) => ((fun r_ => (fun (q : BusyR) => (q = rxBusy r b)) r_))) x_.1 x_.2) x_ r_) (fun r_ => (fun (q : BusyR) => ([rRx.to q.r, (rR .frm).to q.says])) r_) (fun r_ => (fun (q : BusyR) => ([])) r_)
def V_impl_RxBusy : Env := ⟨tys, [(25, c_impl_RxOk), (56, c_impl_RxState_say), (57, c_impl_goOrWait), (68, c_impl_RxState_copyOf)], [], [(2, 0), (4, 1), (6, 2)], [(7, ([1], []))], [], []⟩
/-! spec.RxAck -/
def c_spec_RxAck : Ent := ctr (α := (RxS)) (ρ := (Frm)) [] [] (rs1 rRx) (fun x_ => (fun (r : RxS) => (True)) x_) (fun x_ r_ => (fun x_ => (fun (r : RxS) => ((fun r_ => (fun (f : Frm) => (f = rxAck r)) r_))) x_) x_ r_) (fun r_ => (fun (f : Frm) => ([rFrm.to f])) r_) (fun r_ => (fun (f : Frm) => ([])) r_)
def V_spec_RxAck : Env := ⟨tys, [(17, c_spec_RxOk), (58, c_spec_l7Say)], [], [(1, 0), (2, 1)], [], [], []⟩
/-! spec.RxBusy -/
def c_spec_RxBusy : Ent := ctr (α := (RxS) × (Bool)) (ρ := (BusyR)) [] [] (rs rRx (rs1 rB)) (fun x_ => (fun (r : RxS) (b : Bool) => (r.join.got.length ≤ LIM)) x_.1 x_.2) (fun x_ r_ => (fun x_ => (fun (r : RxS) (b : Bool) => ((fun r_ => (fun (q : BusyR) => (q = rxBusy r b)) r_))) x_.1 x_.2) x_ r_) (fun r_ => (fun (q : BusyR) => ([rRx.to q.r, (rR .frm).to q.says])) r_) (fun r_ => (fun (q : BusyR) => ([])) r_)
def V_spec_RxBusy : Env := ⟨tys, [(17, c_spec_RxOk), (58, c_spec_l7Say), (69, c_spec_l7Copy)], [], [(2, 0), (4, 1), (6, 2)], [(8, ([1], []))], [], []⟩
end Go.Proofs.YtjladmhjpikdhaaE

/- Contracts: C. Conditions: none. -/
set_option linter.unusedVariables false
set_option maxHeartbeats 4000000
namespace Go.Proofs.YtjladmhjpikdhaaE
open Go
/-- Who reads stands well, at p at most. -/
def RdOk (r : RdS) (p : Int) : Prop := Bytes r.b ∧ r.b.length ≤ 2000 ∧ 0 ≤ r.p ∧ r.p ≤ p
/-- Who read on, n steps at most. -/
def RdOn (r q : RdS) (n : Int) : Prop := q.b = r.b ∧ r.p ≤ q.p ∧ q.p ≤ r.p + n

/-! spec.l20Open -/
def c_spec_l20Open : Ent := ctr (α := (List Int)) (ρ := (RdS)) [] [] (rs1 rBytes) (fun x_ => (fun (l : List Int) => (Bytes l)) x_) (fun x_ r_ => (fun x_ => (fun (l : List Int) => ((fun r_ => (fun (q : RdS) => (q = ⟨l.take 2000, 0⟩)) r_))) x_) x_ r_) (fun r_ => (fun (q : RdS) => ([rRd.to q])) r_) (fun r_ => (fun (q : RdS) => ([])) r_)
def V_spec_l20Open : Env := ⟨tys, [], [], [(10, 0)], [], [], []⟩
/-! (*spec.l20Rd).pick -/
def c_spec_l20Rd_pick : Ent := ctr (α := (RdS) × (Int)) (ρ := (Int) × (RdS)) [] [] (rs rRd (rs1 rInt)) (fun x_ => (fun (r : RdS) (n : Int) => (RdOk r 1000000000 ∧ n ≤ 1000000000)) x_.1 x_.2) (fun x_ r_ => (fun x_ => (fun (r : RdS) (n : Int) => ((fun r_ => (fun (x : Int) (q : RdS) => (q = ⟨r.b, r.p + 1⟩ ∧ 0 ≤ x ∧ (1 ≤ n → x < n) ∧ (n < 1 → x = 0))) r_.1 r_.2))) x_.1 x_.2) x_ r_) (fun r_ => (fun (x : Int) (q : RdS) => ([rInt.to x])) r_.1 r_.2) (fun r_ => (fun (x : Int) (q : RdS) => ([(rdC q).map .d])) r_.1 r_.2)
def V_spec_l20Rd_pick : Env := ⟨tys, [], [], [], [], [], []⟩
end Go.Proofs.YtjladmhjpikdhaaE

/- Contracts: D. Conditions: none. -/
set_option linter.unusedVariables false
set_option maxHeartbeats 4000000
namespace Go.Proofs.YtjladmhjpikdhaaE
open Go
/-! spec.l20Bytes -/
def c_spec_l20Bytes : Ent := ctr (α := (RdS) × (Int)) (ρ := (List Int) × (RdS)) [] [(0, 0)] (rs rRd (rs1 rInt)) (fun x_ => (fun (r : RdS) (n : Int) => (RdOk r 100000000 ∧ 0 ≤ n ∧ n ≤ 900)) x_.1 x_.2) (fun x_ r_ => (fun x_ => (fun (r : RdS) (n : Int) => ((fun r_ => (fun (l : List Int) (q : RdS) => (Bytes l ∧ (l.length : Int) ≤ n ∧ RdOn r q (1 + 3 * n))) r_.1 r_.2))) x_.1 x_.2) x_ r_) (fun r_ => (fun (l : List Int) (q : RdS) => ([(rO 5 .u8).to l])) r_.1 r_.2) (fun r_ => (fun (l : List Int) (q : RdS) => ([(rdC q).map .d])) r_.1 r_.2)
def l_spec_l20Bytes_0 : LoopD ((List Int) × (Int) × (RdS)) ((List Int) × (RdS)) ((Empty)) where
  head := ⟨[0, 5, 6], [0], [0]⟩
  st := fun x_ => (fun (o : List Int) (k : Int) (r : RdS) => (⟨mkSlots 30 [(0, .pb 0 0 0), (5, .v false [.ref 0 0]), (6, num .i64 k)], [⟨0, some ⟨5, .u8, o⟩⟩], [⟨0, some ((rdC r).map .d)⟩]⟩)) x_.1 x_.2.1 x_.2.2
  pre := fun x_ => (fun (o : List Int) (k : Int) (r : RdS) => (Bytes o ∧ o.length = 0 ∧ 0 ≤ k ∧ k ≤ 900 ∧ RdOk r 200000000)) x_.1 x_.2.1 x_.2.2
  nk := ⟨[0, 5], [0], [0]⟩
  nst := fun r_ => (fun (o : List Int) (r : RdS) => (⟨mkSlots 30 [(0, .pb 0 0 0), (5, .v false [.ref 0 0])], [⟨0, some ⟨5, .u8, o⟩⟩], [⟨0, some ((rdC r).map .d)⟩]⟩)) r_.1 r_.2
  npost := fun x_ r_ => (fun x_ => (fun (o0 : List Int) (k0 : Int) (r0 : RdS) => ((fun r_ => (fun (o : List Int) (r : RdS) => (Bytes o ∧ (o.length : Int) = k0 ∧ RdOn r0 r (3 * k0))) r_.1 r_.2))) x_.1 x_.2.1 x_.2.2) x_ r_
  rk := ⟨[], [], []⟩
  rst := fun _ => ⟨[], [], []⟩
  rpost := fun _ _ => False
def i_spec_l20Bytes_0 (x : (List Int) × (Int) × (RdS)) (n : Nat) (s : (List Int) × (Int) × (RdS)) : Prop := (fun x_ => (fun (o0 : List Int) (k0 : Int) (r0 : RdS) => ((fun s_ => (fun (o : List Int) (k : Int) (r : RdS) => (Bytes o ∧ (n : Int) = k ∧ (o.length : Int) = k0 - k ∧ k ≤ k0 ∧ k0 ≤ 900 ∧ RdOk r0 200000000 ∧ RdOn r0 r (3 * (k0 - k)))) s_.1 s_.2.1 s_.2.2))) x_.1 x_.2.1 x_.2.2) x s
def V_spec_l20Bytes : Env := ⟨tys, [(67, c_spec_l20Rd_pick)], [(7, [0])], [], [], [(0, l_spec_l20Bytes_0.L)], []⟩
end Go.Proofs.YtjladmhjpikdhaaE

/- Contracts: J. Conditions: none. -/
set_option linter.unusedVariables false
set_option maxHeartbeats 4000000
namespace Go.Proofs.YtjladmhjpikdhaaE
open Go
/-! (*spec.l20Rd).odd -/
def c_spec_l20Rd_odd : Ent := ctr (α := (RdS) × (Int)) (ρ := (Bool) × (RdS)) [] [] (rs rRd (rs1 rInt)) (fun x_ => (fun (r : RdS) (n : Int) => (RdOk r 900000000 ∧ n ≤ 1000000000)) x_.1 x_.2) (fun x_ r_ => (fun x_ => (fun (r : RdS) (n : Int) => ((fun r_ => (fun (b : Bool) (q : RdS) => (q.b = r.b ∧ r.p ≤ q.p ∧ q.p ≤ r.p + 1)) r_.1 r_.2))) x_.1 x_.2) x_ r_) (fun r_ => (fun (b : Bool) (q : RdS) => ([rB.to b])) r_.1 r_.2) (fun r_ => (fun (b : Bool) (q : RdS) => ([(rdC q).map .d])) r_.1 r_.2)
def V_spec_l20Rd_odd : Env := ⟨tys, [(67, c_spec_l20Rd_pick)], [], [], [], [], []⟩
/-! spec.l20Join -/
def c_spec_l20Join : Ent := ctr (α := (RdS) × (Int)) (ρ := (JoinS) × (RdS)) [] [] (rs rRd (rs1 rInt)) (fun x_ => (fun (r : RdS) (n : Int) => (RdOk r 50000000 ∧ n ≤ 1000)) x_.1 x_.2) (fun x_ r_ => (fun x_ => (fun (r : RdS) (n : Int) => ((fun r_ => (fun (j : JoinS) (q : RdS) => (Bytes j.got ∧ j.got.length ≤ 1000 ∧ RdOn r q 500)) r_.1 r_.2))) x_.1 x_.2) x_ r_) (fun r_ => (fun (j : JoinS) (q : RdS) => ([rJoin.to j])) r_.1 r_.2) (fun r_ => (fun (j : JoinS) (q : RdS) => ([(rdC q).map .d])) r_.1 r_.2)
def V_spec_l20Join : Env := ⟨tys, [(67, c_spec_l20Rd_pick), (92, c_spec_l20Rd_odd), (98, c_spec_l20Bytes)], [], [(4, 1), (5, 2)], [], [], []⟩
/-! spec.l20Rx -/
def c_spec_l20Rx : Ent := ctr (α := (RdS) × (Int)) (ρ := (RxS) × (RdS)) [] [] (rs rRd (rs1 rInt)) (fun x_ => (fun (r : RdS) (n : Int) => (RdOk r 40000000 ∧ n ≤ 1000)) x_.1 x_.2) (fun x_ r_ => (fun x_ => (fun (r : RdS) (n : Int) => ((fun r_ => (fun (x : RxS) (q : RdS) => (Bytes x.join.got ∧ x.join.got.length ≤ 1000 ∧ RdOn r q 2000)) r_.1 r_.2))) x_.1 x_.2) x_ r_) (fun r_ => (fun (x : RxS) (q : RdS) => ([rRx.to x])) r_.1 r_.2) (fun r_ => (fun (x : RxS) (q : RdS) => ([(rdC q).map .d])) r_.1 r_.2)
def V_spec_l20Rx : Env := ⟨tys, [(67, c_spec_l20Rd_pick), (91, c_spec_l20Join), (92, c_spec_l20Rd_odd), (93, c_spec_NumNext)], [], [(4, 1), (6, 2)], [(9, ([0, 2], []))], [], []⟩
/-! spec.DrawRxAck -/
def c_spec_DrawRxAck : Ent := ctr (α := (List Int)) (ρ := (RxS)) [] [] (rs1 rBytes) (fun x_ => (fun (l : List Int) => (Bytes l)) x_) (fun x_ r_ => (fun x_ => (fun (l : List Int) => ((fun r_ => (fun (x : RxS) => (Bytes x.join.got ∧ x.join.got.length ≤ 1000)) r_))) x_) x_ r_) (fun r_ => (fun (x : RxS) => ([rRx.to x])) r_) (fun r_ => (fun (x : RxS) => ([])) r_)
def V_spec_DrawRxAck : Env := ⟨tys, [(54, c_spec_l20Rx), (55, c_spec_l20Open)], [], [(2, 0), (4, 1)], [], [], []⟩
/-! spec.DrawRxBusy -/
def c_spec_DrawRxBusy : Ent := ctr (α := (List Int)) (ρ := (RxS) × (Bool)) [] [] (rs1 rBytes) (fun x_ => (fun (l : List Int) => (Bytes l)) x_) (fun x_ r_ => (fun x_ => (fun (l : List Int) => ((fun r_ => (fun (x : RxS) (b : Bool) => (Bytes x.join.got ∧ x.join.got.length ≤ 1000)) r_.1 r_.2))) x_) x_ r_) (fun r_ => (fun (x : RxS) (b : Bool) => ([rRx.to x, rB.to b])) r_.1 r_.2) (fun r_ => (fun (x : RxS) (b : Bool) => ([])) r_.1 r_.2)
def V_spec_DrawRxBusy : Env := ⟨tys, [(54, c_spec_l20Rx), (55, c_spec_l20Open), (67, c_spec_l20Rd_pick)], [], [(2, 0), (6, 1)], [], [], []⟩
end Go.Proofs.YtjladmhjpikdhaaE

/- Contracts: K. Conditions: none. -/
set_option linter.unusedVariables false
set_option maxHeartbeats 4000000
namespace Go.Proofs.YtjladmhjpikdhaaE
open Go
/-! spec.l4Bad -/
def c_spec_l4Bad : Ent := ctr (α := Unit) (ρ := (PutR)) [] [] rs0 (fun x_ => (True)) (fun x_ r_ => (fun x_ => ((fun r_ => (fun (q : PutR) => (q = ⟨zJoin, [], 3⟩)) r_))) x_ r_) (fun r_ => (fun (q : PutR) => ([rJoin.to q.j, rBytes.to q.sdu, rInt.to q.how])) r_) (fun r_ => (fun (q : PutR) => ([])) r_)
def V_spec_l4Bad : Env := ⟨tys, [], [], [(0, 0)], [], [], []⟩
/-! (impl.SegJoin).put -/
def c_impl_SegJoin_put : Ent := ctr (α := (JoinS) × (Part)) (ρ := (PutR)) [] [] (rs rJoin (rs1 rPart)) (fun x_ => (fun (j : JoinS) (p : Part) => (JoinP j ∧ 0 ≤ p.seg ∧ p.seg ≤ 3 ∧ p.data.length ≤ 1000000000)) x_.1 x_.2) (fun x_ r_ => (fun x_ => (fun (j : JoinS) (p : Part) => ((fun r_ => (fun (q : PutR) => (q = segPut j p)) r_))) x_.1 x_.2) x_ r_) (fun r_ => (fun (q : PutR) => ([rJoin.to q.j, rBytes.to q.sdu, rInt.to q.how])) r_) (fun r_ => (fun (q : PutR) => ([])) r_)
def V_impl_SegJoin_put : Env := ⟨tys, [(95, c_impl_clone_byte)], [(10, [0])], [(2, 0), (3, 1), (4, 2)], [(1, ([], [0]))], [], []⟩
/-! spec.l4Put -/
def c_spec_l4Put : Ent := ctr (α := (JoinS) × (Part)) (ρ := (PutR)) [] [] (rs rJoin (rs1 rPart)) (fun x_ => (fun (j : JoinS) (p : Part) => (JoinP j ∧ 0 ≤ p.seg ∧ p.seg ≤ 3 ∧ p.data.length ≤ 1000000000)) x_.1 x_.2) (fun x_ r_ => (fun x_ => (fun (j : JoinS) (p : Part) => ((fun r_ => (fun (q : PutR) => (q = segPut j p)) r_))) x_.1 x_.2) x_ r_) (fun r_ => (fun (q : PutR) => ([rJoin.to q.j, rBytes.to q.sdu, rInt.to q.how])) r_) (fun r_ => (fun (q : PutR) => ([])) r_)
def V_spec_l4Put : Env := ⟨tys, [(104, c_spec_l4Bad)], [(12, [0])], [(2, 0), (3, 1), (4, 2)], [(2, ([], [0]))], [], []⟩
theorem segPut_got (j : JoinS) (p : Part) : (segPut j p).j.got.length ≤ j.got.length + p.data.length ∧ (segPut j p).sdu.length ≤ j.got.length + p.data.length := by
  unfold segPut
  repeat' split
  all_goals simp [zJoin]
theorem SegP.seg {s l n : Int} (h : SegP s l n) : 0 ≤ s ∧ s ≤ 3 := by unfold SegP at h; omega
theorem RxIn.seg {c : Cfg} {r : RxS} {f : Frm} (h : RxIn c r f) : 0 ≤ f.seg ∧ f.seg ≤ 3 := by
  obtain ⟨_, _, h, hk⟩ := h
  unfold FrmP at h
  rcases h with h | h | h | h
  · exact h.2.2.2.2.2.seg
  · omega
  · exact h.2.2.2.2.2.2.seg
  · omega
theorem RxIn.num {c : Cfg} {r : RxS} {f : Frm} (h : RxIn c r f) (hk : f.kind = 1) : 0 ≤ r.expect ∧ r.expect ≤ 7 ∧ 0 ≤ f.seq ∧ f.seq ≤ 7 := by
  obtain ⟨_, h1, h, _⟩ := h
  unfold FrmP at h
  obtain ⟨⟨h2, h3⟩, _⟩ := h1
  omega
theorem RxIn.num2 {c : Cfg} {r : RxS} {f : Frm} (h : RxIn c r f) (hk : ¬ (f.kind == 2) = true) : 0 ≤ r.expect ∧ r.expect ≤ 7 ∧ 0 ≤ f.seq ∧ f.seq ≤ 7 := h.num (by have := h.2.2.2; simp at hk; omega)
theorem take_got (c : Cfg) (r : RxS) (f : Frm) : (rxTake c r f).r.join.got.length ≤ r.join.got.length + f.data.length ∧ (rxTake c r f).sdus.length ≤ 1 ∧ ∀ y ∈ (rxTake c r f).sdus, y.length ≤ r.join.got.length + f.data.length := by
  have h := segPut_got r.join ⟨f.seg, f.len, f.data⟩
  unfold rxTake
  dsimp only at h ⊢
  repeat' split
  all_goals simp
  all_goals omega
theorem take_says (c : Cfg) (r : RxS) (f : Frm) : (rxTake c r f).says = [] := by
  unfold rxTake
  dsimp only
  repeat' split
  all_goals rfl
theorem hear_got (c : Cfg) (r : RxS) (f : Frm) : (rxHear1 c r f).r.join.got.length ≤ r.join.got.length + f.data.length ∧ (rxHear1 c r f).sdus.length ≤ 1 ∧ ∀ y ∈ (rxHear1 c r f).sdus, y.length ≤ r.join.got.length + f.data.length := by
  have h := take_got c r f
  unfold rxHear1 rxData
  repeat' split
  all_goals first | exact h | simp

/-! spec.l7Take -/
def c_spec_l7Take : Ent := ctr (α := (Cfg) × (RxS) × (Frm)) (ρ := (HearR)) [] [] (rs rCfg (rs rRx (rs1 rFrm))) (fun x_ => (fun (c : Cfg) (r : RxS) (f : Frm) => (RxIn c r f ∧ f.data.length ≤ 1000000000)) x_.1 x_.2.1 x_.2.2) (fun x_ r_ => (fun x_ => (fun (c : Cfg) (r : RxS) (f : Frm) => ((fun r_ => (fun (q : HearR) => (q = rxTake c r f)) r_))) x_.1 x_.2.1 x_.2.2) x_ r_) (fun r_ => (fun (q : HearR) => ([rRx.to q.r, (rR .byr).to q.sdus])) r_) (fun r_ => (fun (q : HearR) => ([])) r_)
def V_spec_l7Take : Env := ⟨tys, [(93, c_spec_NumNext), (103, c_spec_l4Put)], [], [(3, 0), (4, 1), (5, 2), (6, 3), (8, 4), (9, 5)], [], [], []⟩
/-! spec.l7Data -/
def c_spec_l7Data : Ent := ctr (α := (Cfg) × (RxS) × (Frm)) (ρ := (HearR)) [] [] (rs rCfg (rs rRx (rs1 rFrm))) (fun x_ => (fun (c : Cfg) (r : RxS) (f : Frm) => (RxIn c r f ∧ f.data.length ≤ 1000000000 ∧ f.kind = 1)) x_.1 x_.2.1 x_.2.2) (fun x_ r_ => (fun x_ => (fun (c : Cfg) (r : RxS) (f : Frm) => ((fun r_ => (fun (q : HearR) => (q = rxData c r f)) r_))) x_.1 x_.2.1 x_.2.2) x_ r_) (fun r_ => (fun (q : HearR) => ([rRx.to q.r, (rR .byr).to q.sdus, (rR .frm).to q.says])) r_) (fun r_ => (fun (q : HearR) => ([])) r_)
def V_spec_l7Data : Env := ⟨tys, [(58, c_spec_l7Say), (101, c_spec_NumFar), (102, c_spec_l7Take)], [], [(3, 0), (4, 1), (5, 2), (6, 3), (10, 4)], [(2, ([3], [])), (9, ([3], []))], [], []⟩
/-! spec.l7Hear -/
def c_spec_l7Hear : Ent := ctr (α := (Cfg) × (RxS) × (Frm)) (ρ := (HearR)) [] [] (rs rCfg (rs rRx (rs1 rFrm))) (fun x_ => (fun (c : Cfg) (r : RxS) (f : Frm) => (RxIn c r f ∧ f.data.length ≤ 1000000000)) x_.1 x_.2.1 x_.2.2) (fun x_ r_ => (fun x_ => (fun (c : Cfg) (r : RxS) (f : Frm) => ((fun r_ => (fun (q : HearR) => (q = rxHear1 c r f)) r_))) x_.1 x_.2.1 x_.2.2) x_ r_) (fun r_ => (fun (q : HearR) => ([rRx.to q.r, (rR .byr).to q.sdus, (rR .frm).to q.says])) r_) (fun r_ => (fun (q : HearR) => ([])) r_)
def V_spec_l7Hear : Env := ⟨tys, [(58, c_spec_l7Say), (96, c_spec_l7Data)], [], [(3, 0), (4, 1), (5, 2), (6, 3)], [(7, ([3], []))], [], []⟩
/-! (*impl.RxState).hear -/
def c_impl_RxState_hear : Ent := ctr (α := (RxS) × (Cfg) × (Frm)) (ρ := (HearR)) [] [] (rs rPRx (rs rCfg (rs1 rFrm))) (fun x_ => (fun (r : RxS) (c : Cfg) (f : Frm) => (RxIn c r f ∧ f.data.length ≤ 1000000000)) x_.1 x_.2.1 x_.2.2) (fun x_ r_ => (fun x_ => (fun (r : RxS) (c : Cfg) (f : Frm) => ((fun r_ => (fun (q : HearR) => (q = rxHear1 c r f)) r_))) x_.1 x_.2.1 x_.2.2) x_ r_) (fun r_ => (fun (q : HearR) => ([(rR .byr).to q.sdus, (rR .frm).to q.says])) r_) (fun r_ => (fun (q : HearR) => ([(rxC q.r).map .d])) r_)
def V_impl_RxState_hear : Env := ⟨tys, [(52, c_impl_NumNext), (56, c_impl_RxState_say), (57, c_impl_goOrWait), (88, c_impl_far), (90, c_impl_SegJoin_put)], [], [(4, 1), (5, 2), (8, 3)], [(12, ([3], []))], [], []⟩
/-! spec.l7Sdus -/
def c_spec_l7Sdus : Ent := ctr (α := (List (List Int))) (ρ := (List (List Int))) [] [] (rs1 (rR .byr)) (fun x_ => (fun (l : List (List Int)) => (l.length ≤ 1000 ∧ ∀ y ∈ l, y.length ≤ LIM)) x_) (fun x_ r_ => (fun x_ => (fun (l : List (List Int)) => ((fun r_ => (fun (o : List (List Int)) => (o = l)) r_))) x_) x_ r_) (fun r_ => (fun (o : List (List Int)) => ([(rR .byr).to o])) r_) (fun r_ => (fun (o : List (List Int)) => ([])) r_)
def l_spec_l7Sdus_0 : LoopD ((List (List Int)) × (List (List Int)) × (Int)) ((List (List Int))) ((Empty)) where
  head := ⟨[0, 3, 4], [], [1]⟩
  st := fun x_ => (fun (l : List (List Int)) (o : List (List Int)) (i : Int) => (⟨mkSlots 22 [(0, .v false [.d (.r .byr l)]), (3, .v false [.ref 1 0]), (4, num .i64 i)], [⟨0, none⟩, ⟨0, some ⟨22, .byr, o⟩⟩], []⟩)) x_.1 x_.2.1 x_.2.2
  pre := fun x_ => (fun (l : List (List Int)) (o : List (List Int)) (i : Int) => (l.length ≤ 1000 ∧ (∀ y ∈ l, y.length ≤ LIM) ∧ o = [] ∧ i = 0)) x_.1 x_.2.1 x_.2.2
  nk := ⟨[3], [], [1]⟩
  nst := fun r_ => (fun (o : List (List Int)) => (⟨mkSlots 22 [(3, .v false [.ref 1 0])], [⟨0, none⟩, ⟨0, some ⟨22, .byr, o⟩⟩], []⟩)) r_
  npost := fun x_ r_ => (fun x_ => (fun (l0 : List (List Int)) (o0 : List (List Int)) (i0 : Int) => ((fun r_ => (fun (o : List (List Int)) => (o = l0)) r_))) x_.1 x_.2.1 x_.2.2) x_ r_
  rk := ⟨[], [], []⟩
  rst := fun _ => ⟨[], [], []⟩
  rpost := fun _ _ => False
def i_spec_l7Sdus_0 (x : (List (List Int)) × (List (List Int)) × (Int)) (n : Nat) (s : (List (List Int)) × (List (List Int)) × (Int)) : Prop := (fun x_ => (fun (l0 : List (List Int)) (o0 : List (List Int)) (i0 : Int) => ((fun s_ => (fun (l : List (List Int)) (o : List (List Int)) (i : Int) => (l = l0 ∧ l.length ≤ 1000 ∧ (∀ y ∈ l, y.length ≤ LIM) ∧ 0 ≤ i ∧ i + n = l.length ∧ o = l.take i.toNat)) s_.1 s_.2.1 s_.2.2))) x_.1 x_.2.1 x_.2.2) x s
def V_spec_l7Sdus : Env := ⟨tys, [], [(13, [0]), (5, [1])], [], [], [(0, l_spec_l7Sdus_0.L)], [18]⟩
end Go.Proofs.YtjladmhjpikdhaaE

/- Contracts: M. Conditions: none. -/
set_option linter.unusedVariables false
set_option maxHeartbeats 4000000
namespace Go.Proofs.YtjladmhjpikdhaaE
open Go
theorem rxHear_got (c : Cfg) (r : RxS) (f : Frm) : (rxHear1 c r f).sdus.length ≤ 1000 := by have := (hear_got c r f).2.1; omega
theorem Bytes.k9 : Bytes [1, 2, 3, 4, 5, 6, 7, 8, 9] := by simp [Bytes]
theorem Bytes.k8 : Bytes [1, 2, 3, 4, 5, 6, 7, 8] := by simp [Bytes]
theorem RxIn.got {c : Cfg} {r : RxS} {f : Frm} (h : RxIn c r f) : r.join.got.length ≤ 24 := by
  have := h.2.1.2.2.2
  unfold JoinP at this
  omega
theorem hear_len {c : Cfg} {r : RxS} {f : Frm} {y : List Int} (h : RxIn c r f) (hf : f.data.length ≤ 1000000000) (hy : List.Mem y (rxHear1 c r f).sdus) : y.length ≤ 137438953472 := by
  have h1 := (hear_got c r f).2.2 y hy
  have h2 := h.got
  omega

/-! impl.RxHear -/
def c_impl_RxHear : Ent := ctr (α := (Cfg) × (RxS) × (Frm)) (ρ := (HearR)) [] [] (rs rCfg (rs rRx (rs1 rFrm))) (fun x_ => (fun (c : Cfg) (r : RxS) (f : Frm) => (f.data.length ≤ 1000000000)) x_.1 x_.2.1 x_.2.2) (fun x_ r_ => (fun x_ => (fun (c : Cfg) (r : RxS) (f : Frm) => ((fun r_ => (fun (q : HearR) => (q = rxHear c r f)) r_))) x_.1 x_.2.1 x_.2.2) x_ r_) (fun r_ => (fun (q : HearR) => ([rRx.to q.r, (rR .byr).to q.sdus, (rR .frm).to q.says])) r_) (fun r_ => (fun (q : HearR) => ([])) r_)
def V_impl_RxHear : Env := ⟨tys, [(19, c_impl_FrmOk), (25, c_impl_RxOk), (62, c_impl_CfgOk), (68, c_impl_RxState_copyOf), (84, c_impl_RxState_hear)], [], [(3, 0), (4, 1), (5, 2), (6, 3), (9, 4)], [], [], []⟩
/-! spec.RxHear -/
def c_spec_RxHear : Ent := ctr (α := (Cfg) × (RxS) × (Frm)) (ρ := (HearR)) [] [] (rs rCfg (rs rRx (rs1 rFrm))) (fun x_ => (fun (c : Cfg) (r : RxS) (f : Frm) => (f.data.length ≤ 1000000000)) x_.1 x_.2.1 x_.2.2) (fun x_ r_ => (fun x_ => (fun (c : Cfg) (r : RxS) (f : Frm) => ((fun r_ => (fun (q : HearR) => (q = rxHear c r f)) r_))) x_.1 x_.2.1 x_.2.2) x_ r_) (fun r_ => (fun (q : HearR) => ([rRx.to q.r, (rR .byr).to q.sdus, (rR .frm).to q.says])) r_) (fun r_ => (fun (q : HearR) => ([])) r_)
def V_spec_RxHear : Env := ⟨tys, [(17, c_spec_RxOk), (47, c_spec_CfgOk), (48, c_spec_FrmOk), (69, c_spec_l7Copy), (81, c_spec_l7Hear), (82, c_spec_l7Sdus)], [], [(3, 0), (4, 1), (5, 2), (6, 3), (9, 4)], [(3, ([4], []))], [], []⟩
/-! spec.l20Cfg -/
def c_spec_l20Cfg : Ent := ctr (α := (RdS) × (Int)) (ρ := (Cfg) × (RdS)) [] [] (rs rRd (rs1 rInt)) (fun x_ => (fun (r : RdS) (n : Int) => (RdOk r 40000000 ∧ n ≤ 1000)) x_.1 x_.2) (fun x_ r_ => (fun x_ => (fun (r : RdS) (n : Int) => ((fun r_ => (fun (c : Cfg) (q : RdS) => (RdOn r q 20)) r_.1 r_.2))) x_.1 x_.2) x_ r_) (fun r_ => (fun (c : Cfg) (q : RdS) => ([rCfg.to c])) r_.1 r_.2) (fun r_ => (fun (c : Cfg) (q : RdS) => ([(rdC q).map .d])) r_.1 r_.2)
def V_spec_l20Cfg : Env := ⟨tys, [(67, c_spec_l20Rd_pick), (92, c_spec_l20Rd_odd)], [], [(4, 1), (5, 2)], [(1, ([0, 2], []))], [], []⟩
/-! spec.l20Part -/
def c_spec_l20Part : Ent := ctr (α := (RdS)) (ρ := (Part) × (RdS)) [] [(0, 2)] (rs1 rRd) (fun x_ => (fun (r : RdS) => (RdOk r 45000000)) x_) (fun x_ r_ => (fun x_ => (fun (r : RdS) => ((fun r_ => (fun (p : Part) (q : RdS) => (Bytes p.data ∧ p.data.length ≤ 100 ∧ RdOn r q 50)) r_.1 r_.2))) x_) x_ r_) (fun r_ => (fun (p : Part) (q : RdS) => ([.v true [.d (.i .i64 p.seg), .d (.i .i64 p.len), .own ⟨5, .u8, p.data⟩]])) r_.1 r_.2) (fun r_ => (fun (p : Part) (q : RdS) => ([(rdC q).map .d])) r_.1 r_.2)
def V_spec_l20Part : Env := ⟨tys, [(67, c_spec_l20Rd_pick), (98, c_spec_l20Bytes)], [(7, [0]), (18, [0])], [(2, 1), (3, 2)], [(7, ([0, 2], []))], [], []⟩
/-! spec.l20Frame -/
def c_spec_l20Frame : Ent := ctr (α := (RdS) × (Int)) (ρ := (Frm) × (RdS)) [] [] (rs rRd (rs1 rInt)) (fun x_ => (fun (r : RdS) (n : Int) => (RdOk r 44000000 ∧ n ≤ 1000)) x_.1 x_.2) (fun x_ r_ => (fun x_ => (fun (r : RdS) (n : Int) => ((fun r_ => (fun (f : Frm) (q : RdS) => (Bytes f.data ∧ f.data.length ≤ 200 ∧ RdOn r q 100)) r_.1 r_.2))) x_.1 x_.2) x_ r_) (fun r_ => (fun (f : Frm) (q : RdS) => ([rFrm.to f])) r_.1 r_.2) (fun r_ => (fun (f : Frm) (q : RdS) => ([(rdC q).map .d])) r_.1 r_.2)
def V_spec_l20Frame : Env := ⟨tys, [(67, c_spec_l20Rd_pick), (92, c_spec_l20Rd_odd), (97, c_spec_l20Part)], [(11, [0]), (26, [0]), (65, [0])], [(4, 1), (5, 2), (6, 3), (7, 4)], [(6, ([0, 2], []))], [], []⟩
/-! laws.liSdus -/
def c_laws_liSdus : Ent := ctr (α := (List (List Int)) × (List (List Int))) (ρ := (Bool)) [] [] (rs (rR .byr) (rs1 (rR .byr))) (fun x_ => (fun (a : List (List Int)) (b : List (List Int)) => (a.length ≤ LIM ∧ ∀ y ∈ a, y.length ≤ LIM)) x_.1 x_.2) (fun x_ r_ => (fun x_ => (fun (a : List (List Int)) (b : List (List Int)) => ((fun r_ => (fun (r : Bool) => (r = decide (a = b))) r_))) x_.1 x_.2) x_ r_) (fun r_ => (fun (r : Bool) => ([rB.to r])) r_) (fun r_ => (fun (r : Bool) => ([])) r_)
def l_laws_liSdus_0 : LoopD ((List (List Int)) × (List (List Int)) × (Int)) ((Unit)) ((Unit)) where
  head := ⟨[0, 1, 5], [], []⟩
  st := fun x_ => (fun (a : List (List Int)) (b : List (List Int)) (i : Int) => (⟨mkSlots 27 [(0, .v false [.d (.r .byr a)]), (1, .v false [.d (.r .byr b)]), (5, num .i64 i)], [], []⟩)) x_.1 x_.2.1 x_.2.2
  pre := fun x_ => (fun (a : List (List Int)) (b : List (List Int)) (i : Int) => (a.length = b.length ∧ i = 0 ∧ a.length ≤ LIM ∧ ∀ y ∈ a, y.length ≤ LIM)) x_.1 x_.2.1 x_.2.2
  nk := ⟨[], [], []⟩
  nst := fun r_ => (fun (u : Unit) => (⟨mkSlots 27 [], [], []⟩)) r_
  npost := fun x_ r_ => (fun x_ => (fun (a0 : List (List Int)) (b0 : List (List Int)) (i0 : Int) => ((fun r_ => (fun (u : Unit) => (a0 = b0)) r_))) x_.1 x_.2.1 x_.2.2) x_ r_
  rk := ⟨[4], [], []⟩
  rst := fun r_ => (fun (u : Unit) => (⟨mkSlots 27 [(4, boo false)], [], []⟩)) r_
  rpost := fun x_ r_ => (fun x_ => (fun (a0 : List (List Int)) (b0 : List (List Int)) (i0 : Int) => ((fun r_ => (fun (u : Unit) => (a0 ≠ b0)) r_))) x_.1 x_.2.1 x_.2.2) x_ r_
def i_laws_liSdus_0 (x : (List (List Int)) × (List (List Int)) × (Int)) (n : Nat) (s : (List (List Int)) × (List (List Int)) × (Int)) : Prop := (fun x_ => (fun (a0 : List (List Int)) (b0 : List (List Int)) (i0 : Int) => ((fun s_ => (fun (a : List (List Int)) (b : List (List Int)) (i : Int) => (a = a0 ∧ b = b0 ∧ a.length = b.length ∧ a.length ≤ LIM ∧ (∀ y ∈ a, y.length ≤ LIM) ∧ 0 ≤ i ∧ i + n = a.length ∧ a.take i.toNat = b.take i.toNat)) s_.1 s_.2.1 s_.2.2))) x_.1 x_.2.1 x_.2.2) x s
def V_laws_liSdus : Env := ⟨tys, [(53, c_laws_liBytes)], [], [], [], [(0, l_laws_liSdus_0.L)], []⟩
/-! spec.DrawRxHear -/
def c_spec_DrawRxHear : Ent := ctr (α := (List Int)) (ρ := (Cfg) × (RxS) × (Frm)) [] [] (rs1 rBytes) (fun x_ => (fun (l : List Int) => (Bytes l)) x_) (fun x_ r_ => (fun x_ => (fun (l : List Int) => ((fun r_ => (fun (c : Cfg) (x : RxS) (f : Frm) => ((Bytes x.join.got ∧ x.join.got.length ≤ 1000) ∧ Bytes f.data ∧ f.data.length ≤ 1000)) r_.1 r_.2.1 r_.2.2))) x_) x_ r_) (fun r_ => (fun (c : Cfg) (x : RxS) (f : Frm) => ([rCfg.to c, rRx.to x, rFrm.to f])) r_.1 r_.2.1 r_.2.2) (fun r_ => (fun (c : Cfg) (x : RxS) (f : Frm) => ([])) r_.1 r_.2.1 r_.2.2)
def V_spec_DrawRxHear : Env := ⟨tys, [(54, c_spec_l20Rx), (55, c_spec_l20Open), (59, c_spec_l1In), (67, c_spec_l20Rd_pick), (85, c_spec_l20Cfg), (86, c_spec_l20Frame)], [], [(2, 0), (3, 1), (4, 2), (10, 3), (6, 4), (7, 5), (8, 6)], [(6, ([3, 6], [])), (7, ([0, 1, 2], []))], [], []⟩
def segPut2 (j : JoinS) (p : Part) : PutR := if JoinP j ∧ PartP p then segPut j p else ⟨zJoin, [], 0⟩

/-! impl.SegPut -/
def c_impl_SegPut : Ent := ctr (α := (JoinS) × (Part)) (ρ := (PutR)) [] [] (rs rJoin (rs1 rPart)) (fun x_ => (fun (j : JoinS) (p : Part) => (p.data.length ≤ 1000000000)) x_.1 x_.2) (fun x_ r_ => (fun x_ => (fun (j : JoinS) (p : Part) => ((fun r_ => (fun (q : PutR) => (q = segPut2 j p)) r_))) x_.1 x_.2) x_ r_) (fun r_ => (fun (q : PutR) => ([rJoin.to q.j, rBytes.to q.sdu, rInt.to q.how])) r_) (fun r_ => (fun (q : PutR) => ([])) r_)
def V_impl_SegPut : Env := ⟨tys, [(71, c_impl_JoinOk), (89, c_impl_PartOk), (90, c_impl_SegJoin_put)], [], [(2, 0), (3, 1), (4, 2)], [], [], []⟩
end Go.Proofs.YtjladmhjpikdhaaE

/- Contracts: LawRx2. Conditions: none. -/
set_option linter.unusedVariables false
set_option maxHeartbeats 4000000
namespace Go.Proofs.YtjladmhjpikdhaaE
open Go
theorem at_frm0 (x : Frm) (l : List Frm) : at_frm (x :: l) 0 = x := rfl
theorem at_byr0 (x : List Int) (l : List (List Int)) : at_byr (x :: l) 0 = x := rfl
theorem hear1_says (c : Cfg) (r : RxS) (f : Frm) : (rxHear1 c r f).says = [] ∨ ∃ w b, (rxHear1 c r f).says = [sayF r w b] := by
  unfold rxHear1 rxData
  repeat' split
  all_goals first | exact .inl rfl | exact .inr ⟨_, _, rfl⟩ | exact .inl (take_says c r f)
theorem hear_says (c : Cfg) (r : RxS) (f : Frm) : (rxHear c r f).says = [] ∨ ∃ w b, (rxHear c r f).says = [sayF r w b] := by
  unfold rxHear
  split
  · exact hear1_says c r f
  · exact .inl rfl
theorem says_len (c : Cfg) (r : RxS) (f : Frm) : (rxHear c r f).says.length ≤ 1 := by
  rcases hear_says c r f with h | ⟨w, b, h⟩ <;> simp [h]
theorem says_data {c : Cfg} {r : RxS} {f : Frm} {y : Frm} (h : List.Mem y (rxHear c r f).says) : y.data.length ≤ 137438953472 := by
  have h' : y ∈ (rxHear c r f).says := h
  rcases hear_says c r f with h | ⟨w, b, h⟩
  · rw [h] at h'; simp at h'
  · rw [h] at h'; simp at h'; subst h'; simp [sayF]
theorem sdus_len (c : Cfg) (r : RxS) (f : Frm) : (rxHear c r f).sdus.length ≤ 1 := by
  unfold rxHear
  split
  · exact (hear_got c r f).2.1
  · simp
theorem sdus_data {c : Cfg} {r : RxS} {f : Frm} {y : List Int} (hf : f.data.length ≤ 1000) (h : List.Mem y (rxHear c r f).sdus) : y.length ≤ 137438953472 := by
  unfold rxHear at h
  split at h
  · exact hear_len ‹_› (by omega) h
  · cases h
theorem hear_join (c : Cfg) (r : RxS) (f : Frm) (hf : f.data.length ≤ 1000) : (rxHear c r f).r.join.got.length ≤ 137438953472 := by
  unfold rxHear
  split
  · rename_i h
    have := (hear_got c r f).1
    have := h.got
    omega
  · simp [zRx, zJoin]

/-! laws.FnRxSays -/
def c_laws_FnRxSays : Ent := ctr (α := (List Int)) (ρ := (Bool)) [] [] (rs1 rBytes) (fun x_ => (fun (l : List Int) => (Bytes l)) x_) (fun x_ r_ => (fun x_ => (fun (l : List Int) => ((fun r_ => (fun (r : Bool) => (r = true)) r_))) x_) x_ r_) (fun r_ => (fun (r : Bool) => ([rB.to r])) r_) (fun r_ => (fun (r : Bool) => ([])) r_)
def V_laws_FnRxSays : Env := ⟨tys, [(17, c_spec_RxOk), (18, c_laws_liOk), (24, c_laws_liFrames), (39, c_spec_RxHear), (42, c_impl_RxHear), (46, c_spec_DrawRxHear), (47, c_spec_CfgOk), (48, c_spec_FrmOk), (50, c_impl_NumFar)], [], [(3, 0), (4, 1), (5, 2), (6, 3), (9, 4)], [], [], []⟩
end Go.Proofs.YtjladmhjpikdhaaE

/- Calls answer what is promised: A. Conditions: none. -/
set_option linter.unusedVariables false
set_option maxHeartbeats 4000000
namespace Go.Proofs.YtjladmhjpikdhaaE
open Go
theorem vF_impl_in (a : Int) (b : Int) (c : Int) (K : List Arg → List (List AC) → Prop) (hp : True) (hk : ∀ (r : Bool), (r = decide (b ≤ a ∧ a ≤ c)) → K ([rB.to r]) ([])) :
if ((decide (a ≥ b)) = true) then
   ((true = true) ∧
   (K [(aB (decide (a ≤ c)))] []))
  else
   ((true = true) ∧
   (K [(aB false)] [])) := by
  simp only [decide_eq_true_eq]
  split
  · exact ⟨trivial, hk _ (by simp_all)⟩
  · exact ⟨trivial, hk _ (by simp; omega)⟩
theorem w_impl_in : Valid Try.prog 65 c_impl_in :=
  valid_ctr2 (V := V_impl_in) (tysB_ok tys_ok) (CallsL.nil _) mixed 0 0 Try.func65 rfl (by kernel_rfl)
    (fun c hc => by
      obtain rfl := Option.some.inj hc
      exact ⟨trivial, ⟨trivial, trivial⟩⟩)
    (fun x K hp hk => ⟨_, by kernel_rfl, vF_impl_in x.1 x.2.1 x.2.2 K hp (fun r h => hk r h)⟩)
theorem vF_spec_l1In (a : Int) (b : Int) (c : Int) (K : List Arg → List (List AC) → Prop) (hp : True) (hk : ∀ (r : Bool), (r = decide (b ≤ a ∧ a ≤ c)) → K ([rB.to r]) ([])) :
if ((decide (a ≥ b)) = true) then
   ((true = true) ∧
   (K [(aB (decide (a ≤ c)))] []))
  else
   ((true = true) ∧
   (K [(aB false)] [])) := by
  simp only [decide_eq_true_eq]
  split
  · exact ⟨trivial, hk _ (by simp_all)⟩
  · exact ⟨trivial, hk _ (by simp; omega)⟩
theorem w_spec_l1In : Valid Try.prog 59 c_spec_l1In :=
  valid_ctr2 (V := V_spec_l1In) (tysB_ok tys_ok) (CallsL.nil _) mixed 0 0 Try.func59 rfl (by kernel_rfl)
    (fun c hc => by
      obtain rfl := Option.some.inj hc
      exact ⟨trivial, ⟨trivial, trivial⟩⟩)
    (fun x K hp hk => ⟨_, by kernel_rfl, vF_spec_l1In x.1 x.2.1 x.2.2 K hp (fun r h => hk r h)⟩)
end Go.Proofs.YtjladmhjpikdhaaE

/- Calls answer what is promised: B. Conditions: none. -/
set_option linter.unusedVariables false
set_option maxHeartbeats 4000000
namespace Go.Proofs.YtjladmhjpikdhaaE
open Go
theorem vF_slices_Clone_byte_byte (l : List Int) (K : List Arg → List (List AC) → Prop) (hp : l.length ≤ LIM) (hk : ∀ (r : List Int), (r = l) → K ([(rO 5 .u8).to r]) ([])) :
∀ b : Bool,
  ((b = true) → (l = ([] : (List Int)))) →
  if (b = true) then
   ((true = true) ∧
   (K [(Arg.v false [(AC.own (RC.mk (5 : Nat) RK.u8 ([] : (List Int))))])] []))
  else
   ((((0 : Nat) + (List.length l)) ≤ (137438953472 : Nat)) ∧
   ((true = true) ∧
    (K [(Arg.v false [(AC.own (RC.mk (5 : Nat) RK.u8 (([] : (List Int)) ++ l : (List Int))))])] []))) := by
  intro b hb
  have hL : l.length ≤ 137438953472 := hp
  split
  · rename_i h
    exact ⟨rfl, hk _ (hb h).symm⟩
  · exact ⟨by omega, rfl, hk _ rfl⟩
theorem w_slices_Clone_byte_byte : Valid Try.prog 100 c_slices_Clone_byte_byte :=
  valid_ctr2 (V := V_slices_Clone_byte_byte) (tysB_ok tys_ok) (CallsL.nil _) mixed 2 0 Try.func100 rfl (by kernel_rfl)
    (fun c hc => by
      obtain rfl := Option.some.inj hc
      exact ⟨trivial, ⟨⟨trivial, ⟨⟨trivial, trivial⟩, trivial⟩⟩, ⟨trivial, trivial⟩⟩⟩)
    (fun x K hp hk => ⟨_, by kernel_rfl, vF_slices_Clone_byte_byte x K hp (fun r h => hk r h)⟩)
theorem vF_slices_Clip_byte_byte (l : List Int) (K : List Arg → List (List AC) → Prop) (hp : True) (hk : ∀ (r : List Int), (r = l) → K ([(rO 5 .u8).to r]) ([])) :
(((((List.length l) : Nat) : Int) = (((List.length l) : Nat) : Int)) ∧
   ((((List.length l) : Nat) : Int) = (((List.length l) : Nat) : Int))) ∧
  ((true = true) ∧
   (K [(Arg.v false [(AC.own (RC.mk (5 : Nat) RK.u8 l))])] [])) := by
  exact ⟨⟨rfl, rfl⟩, rfl, hk _ rfl⟩
theorem w_slices_Clip_byte_byte : Valid Try.prog 99 c_slices_Clip_byte_byte :=
  valid_ctr2 (V := V_slices_Clip_byte_byte) (tysB_ok tys_ok) (CallsL.nil _) mixed 0 0 Try.func99 rfl (by kernel_rfl)
    (fun c hc => by
      obtain rfl := Option.some.inj hc
      exact ⟨trivial, ⟨trivial, trivial⟩⟩)
    (fun x K hp hk => ⟨_, by kernel_rfl, vF_slices_Clip_byte_byte x K hp (fun r h => hk r h)⟩)
theorem vF_impl_clone_byte (l : List Int) (K : List Arg → List (List AC) → Prop) (hp : l.length ≤ LIM) (hk : ∀ (r : List Int), (r = l) → K ([(rO 5 .u8).to r]) ([])) :
(true = true) ∧
  (((List.length l) ≤ (137438953472 : Nat)) ∧
   (∀ r : (List Int),
    (r = l) →
    (true = true) ∧
    ((true = true) ∧
     (True ∧
      (∀ r1 : (List Int),
       (r1 = r) →
       (true = true) ∧
       ((true = true) ∧
        (K [(Arg.v false [(AC.own (RC.mk (5 : Nat) RK.u8 r1))])] []))))))) := by
  exact ⟨rfl, hp, fun r hr => ⟨rfl, rfl, trivial, fun r1 hr1 => ⟨rfl, rfl, hk r1 (hr1.trans hr)⟩⟩⟩
theorem w_impl_clone_byte : Valid Try.prog 95 c_impl_clone_byte :=
  valid_ctr2 (V := V_impl_clone_byte) (tysB_ok tys_ok) (CallsL.cons w_slices_Clip_byte_byte (CallsL.cons w_slices_Clone_byte_byte (CallsL.nil _))) mixed 2 0 Try.func95 rfl (by kernel_rfl)
    (fun c hc => by
      obtain rfl := Option.some.inj hc
      exact ⟨trivial, ⟨trivial, trivial⟩⟩)
    (fun x K hp hk => ⟨_, by kernel_rfl, vF_impl_clone_byte x K hp (fun r h => hk r h)⟩)
end Go.Proofs.YtjladmhjpikdhaaE

/- Calls answer what is promised: F. Conditions: none. -/
set_option linter.unusedVariables false
set_option maxHeartbeats 4000000
namespace Go.Proofs.YtjladmhjpikdhaaE
open Go
theorem vF_impl_isNumber (n : Int) (K : List Arg → List (List AC) → Prop) (hp : True) (hk : ∀ (r : Bool), (r = decide (0 ≤ n ∧ n ≤ 7)) → K ([rB.to r]) ([])) :
(true = true) ∧
  (True ∧
   (∀ r : Bool,
    (r = (decide (((0 : Int) ≤ n) ∧ (n ≤ (7 : Int))))) →
    (true = true) ∧
    ((true = true) ∧
     (K [(aB r)] [])))) := by
  exact ⟨rfl, trivial, fun r hr => ⟨rfl, rfl, hk r hr⟩⟩
theorem w_impl_isNumber : Valid Try.prog 63 c_impl_isNumber :=
  valid_ctr2 (V := V_impl_isNumber) (tysB_ok tys_ok) (CallsL.cons w_impl_in (CallsL.nil _)) mixed 0 0 Try.func63 rfl (by kernel_rfl)
    (fun c hc => by
      obtain rfl := Option.some.inj hc
      exact ⟨trivial, ⟨trivial, trivial⟩⟩)
    (fun x K hp hk => ⟨_, by kernel_rfl, vF_impl_isNumber x K hp (fun r h => hk r h)⟩)
theorem vF_slices_Equal_byte_byte (a : List Int) (b : List Int) (K : List Arg → List (List AC) → Prop) (hp : a.length ≤ LIM) (hk : ∀ (r : Bool), (r = decide (a = b)) → K ([rB.to r]) ([])) :
if (((((List.length a) : Nat) : Int) != (((List.length b) : Nat) : Int)) = true) then
   ((true = true) ∧
   (K [(aB false)] []))
  else
   (∃ s : (Prod (List Int) (Prod (List Int) Int)),
   ((St.mk (mkSlots 26 [(0, (T.v false [(Cm.d (D.r RK.u8 a))])), (1, (T.v false [(Cm.d (D.r RK.u8 b))])), (12, (num IntKind.i64 (((List.length a) : Nat) : Int))), (13, (num IntKind.i64 (0 : Int)))]) [] []) = (St.mk (mkSlots 26 [(0, (T.v false [(Cm.d (D.r RK.u8 s.fst))])), (1, (T.v false [(Cm.d (D.r RK.u8 s.snd.fst))])), (12, (num IntKind.i64 (((List.length s.fst) : Nat) : Int))), (13, (num IntKind.i64 s.snd.snd))]) [] [])) ∧
   ((((List.length s.fst) = (List.length s.snd.fst)) ∧
     ((s.snd.snd = (0 : Int)) ∧
      ((List.length s.fst) ≤ (137438953472 : Nat)))) ∧
    ((∀ r : Unit,
      (s.fst = s.snd.fst) →
      (true = true) ∧
      (K [(aB true)] [])) ∧
     (∀ r : Unit,
      (s.fst ≠ s.snd.fst) →
      (true = true) ∧
      (K [(aB false)] []))))) := by
  refine iteI (fun h => ?_) (fun h => ?_)
  · refine ⟨by trivial, hk false ?_⟩
    symm; rw [decide_eq_false_iff_not]; rintro rfl; simp at h
  · have h1 : a.length = b.length := by simp at h; omega
    refine ⟨(a, b, 0), rfl, ⟨h1, rfl, hp⟩, fun _ hr => ⟨by trivial, hk true (by simp; exact hr)⟩, fun _ hr => ⟨by trivial, hk false (by simp; exact hr)⟩⟩
theorem vL_slices_Equal_byte_byte_0 (a0 : List Int) (b0 : List Int) (i0 : Int) (a : List Int) (b : List Int) (i : Int) (n : Nat) (hp : (fun (a : List Int) (b : List Int) (i : Int) => (a.length = b.length ∧ i = 0 ∧ a.length ≤ LIM)) a0 b0 i0) (hi : a = a0 ∧ b = b0 ∧ a.length = b.length ∧ a.length ≤ LIM ∧ 0 ≤ i ∧ i + n = a.length ∧ a.take i.toNat = b.take i.toNat) :
if ((decide (i < (((List.length a) : Nat) : Int))) = true) then
   ((((0 : Int) ≤ i) ∧
    (i < (((List.length a) : Nat) : Int))) ∧
   ((((0 : Int) ≤ i) ∧
     (i < (((List.length b) : Nat) : Int))) ∧
    (if (((at_u8 a (Int.toNat i)) != (at_u8 b (Int.toNat i))) = true) then
      (∃ r : Unit,
      ((St.mk (mkSlots 26 [(4, (boo false))]) [] []) = (St.mk (mkSlots 26 [(4, (boo false))]) [] [])) ∧
      (a0 ≠ b0))
     else
      (∃ s : (Prod (List Int) (Prod (List Int) Int)),
      ((St.mk (mkSlots 26 [(0, (T.v false [(Cm.d (D.r RK.u8 a))])), (1, (T.v false [(Cm.d (D.r RK.u8 b))])), (12, (num IntKind.i64 (((List.length a) : Nat) : Int))), (13, (num IntKind.i64 (IntKind.wrap IntKind.i64 (i + (1 : Int)))))]) [] []) = (St.mk (mkSlots 26 [(0, (T.v false [(Cm.d (D.r RK.u8 s.fst))])), (1, (T.v false [(Cm.d (D.r RK.u8 s.snd.fst))])), (12, (num IntKind.i64 (((List.length s.fst) : Nat) : Int))), (13, (num IntKind.i64 s.snd.snd))]) [] [])) ∧
      (∃ m : Nat,
       (m < n) ∧
       ((s.fst = a0) ∧
        ((s.snd.fst = b0) ∧
         (((List.length s.fst) = (List.length s.snd.fst)) ∧
          (((List.length s.fst) ≤ (137438953472 : Nat)) ∧
           (((0 : Int) ≤ s.snd.snd) ∧
            (((s.snd.snd + ((m : Nat) : Int)) = (((List.length s.fst) : Nat) : Int)) ∧
             ((List.take (Int.toNat s.snd.snd) s.fst) = (List.take (Int.toNat s.snd.snd) s.snd.fst)))))))))))))
  else
   (∃ r : Unit,
   ((St.mk (mkSlots 26 []) [] []) = (St.mk (mkSlots 26 []) [] [])) ∧
   (a0 = b0)) := by
  try dsimp only at hp
  obtain ⟨rfl, rfl, h1, h2, h3, h4, h5⟩ := hi
  have hL : a.length ≤ 137438953472 := h2
  obtain ⟨i, rfl⟩ : ∃ m : Nat, i = m := ⟨i.toNat, by omega⟩
  rw [wr (x := (i : Int) + 1) (by omega) (by omega)]
  simp only [Int.toNat_natCast] at h5 ⊢
  refine iteI (fun h => ?_) (fun h => ?_)
  · have hi : i < a.length := by simp at h; omega
    refine ⟨⟨by omega, by omega⟩, ⟨by omega, by omega⟩, ?_⟩
    have ea : a.take (i + 1) = a.take i ++ [at_u8 a i] := by
      rw [List.take_succ_eq_append_getElem hi]; congr 2; show _ = a.getD i 0; rw [List.getD_eq_getElem?_getD, List.getElem?_eq_getElem hi]; rfl
    have eb : b.take (i + 1) = b.take i ++ [at_u8 b i] := by
      rw [List.take_succ_eq_append_getElem (by omega)]; congr 2; show _ = b.getD i 0; rw [List.getD_eq_getElem?_getD, List.getElem?_eq_getElem (by omega)]; rfl
    refine iteI (fun hx => ?_) (fun hx => ?_)
    · refine ⟨(), by trivial, fun he => ?_⟩
      simp [he] at hx
    · refine ⟨(a, b, (i : Int) + 1), rfl, n - 1, by omega, rfl, rfl, h1, h2, by dsimp only; omega, by dsimp only; omega, ?_⟩
      dsimp only
      rw [show ((i : Int) + 1).toNat = i + 1 by omega, ea, eb, h5]
      simp at hx
      rw [hx]
  · have hi : i = a.length := by simp at h; omega
    subst hi
    refine ⟨(), by trivial, ?_⟩
    rw [List.take_length, h1, List.take_length] at h5
    exact h5
theorem vS_slices_Equal_byte_byte_0 (a0 : List Int) (b0 : List Int) (i0 : Int) (hp : (fun (a : List Int) (b : List Int) (i : Int) => (a.length = b.length ∧ i = 0 ∧ a.length ≤ LIM)) a0 b0 i0) : ∃ n : Nat, (fun (a : List Int) (b : List Int) (i : Int) => (a = a0 ∧ b = b0 ∧ a.length = b.length ∧ a.length ≤ LIM ∧ 0 ≤ i ∧ i + n = a.length ∧ a.take i.toNat = b.take i.toNat)) a0 b0 i0 := by
  try dsimp only at hp
  try dsimp only
  obtain ⟨h1, h2, h3⟩ := hp
  exact ⟨a0.length, rfl, rfl, h1, h3, by omega, by omega, by subst h2; simp⟩
theorem w_slices_Equal_byte_byte : Valid Try.prog 94 c_slices_Equal_byte_byte :=
  valid_ctr2 (V := V_slices_Equal_byte_byte) (tysB_ok tys_ok) (CallsL.nil _) mixed 0 0 Try.func94 rfl (by kernel_rfl)
    (fun c hc => by
      obtain rfl := Option.some.inj hc
      exact ⟨trivial, ⟨⟨trivial, ⟨⟨trivial, trivial⟩, trivial⟩⟩, ⟨⟨trivial, ⟨LoopD.ok2 (V := V_slices_Equal_byte_byte) l_slices_Equal_byte_byte_0 (LoopsM.cons 0 l_slices_Equal_byte_byte_0 LoopsM.nil) 0 _ i_slices_Equal_byte_byte_0 (fun x hx => vS_slices_Equal_byte_byte_0 x.1 x.2.1 x.2.2 hx) (fun x hx n s hi => ⟨_, by kernel_rfl, vL_slices_Equal_byte_byte_0 x.1 x.2.1 x.2.2 s.1 s.2.1 s.2.2 n hx hi⟩), ⟨trivial, ⟨⟨trivial, trivial⟩, ⟨⟨trivial, ⟨trivial, ⟨⟨trivial, trivial⟩, trivial⟩⟩⟩, trivial⟩⟩⟩⟩⟩, ⟨trivial, trivial⟩⟩⟩⟩)
    (fun x K hp hk => ⟨_, by kernel_rfl, vF_slices_Equal_byte_byte x.1 x.2 K hp (fun r h => hk r h)⟩)
theorem vF_impl_CfgOk (c : Cfg) (K : List Arg → List (List AC) → Prop) (hp : True) (hk : ∀ (r : Bool), (r = decide (CfgP c)) → K ([rB.to r]) ([])) :
(true = true) ∧
  (True ∧
   (∀ r : Bool,
    (r = (decide (((1 : Int) ≤ c.mode) ∧ (c.mode ≤ (2 : Int))))) →
    (true = true) ∧
    (if (r = true) then
      ((true = true) ∧
      (True ∧
       (∀ r1 : Bool,
        (r1 = (decide (((1 : Int) ≤ c.win) ∧ (c.win ≤ (4 : Int))))) →
        (true = true) ∧
        (if (r1 = true) then
          ((true = true) ∧
          (True ∧
           (∀ r2 : Bool,
            (r2 = (decide (((1 : Int) ≤ c.mps) ∧ (c.mps ≤ (8 : Int))))) →
            (true = true) ∧
            (if (r2 = true) then
              ((true = true) ∧
              (True ∧
               (∀ r3 : Bool,
                (r3 = (decide (((1 : Int) ≤ c.mtu) ∧ (c.mtu ≤ (24 : Int))))) →
                (true = true) ∧
                (if (r3 = true) then
                  ((true = true) ∧
                  (True ∧
                   (∀ r4 : Bool,
                    (r4 = (decide (((1 : Int) ≤ c.try_) ∧ (c.try_ ≤ (5 : Int))))) →
                    (true = true) ∧
                    ((true = true) ∧
                     (K [(aB r4)] [])))))
                 else
                  ((true = true) ∧
                  (K [(aB false)] []))))))
             else
              ((true = true) ∧
              (K [(aB false)] []))))))
         else
          ((true = true) ∧
          (K [(aB false)] []))))))
     else
      ((true = true) ∧
      (K [(aB false)] []))))) := by
  repeat' first
    | exact rfl
    | trivial
    | apply And.intro
    | (intro r hr; subst hr)
    | intro r
    | exact hp
    | (refine iteI (fun h => ?_) (fun h => ?_))
  all_goals first
    | exact hk _ (by grind [CfgP, IntKind.wrap_i64])
    | omega
theorem w_impl_CfgOk : Valid Try.prog 62 c_impl_CfgOk :=
  valid_ctr2 (V := V_impl_CfgOk) (tysB_ok tys_ok) (CallsL.cons w_impl_in (CallsL.nil _)) mixed 0 1 Try.func62 rfl (by kernel_rfl)
    (fun c hc => by
      obtain rfl := Option.some.inj hc
      exact ⟨trivial, ⟨trivial, trivial⟩⟩)
    (fun x K hp hk => ⟨_, by kernel_rfl, vF_impl_CfgOk x K hp (fun r h => hk r h)⟩)
theorem vF_spec_CfgOk (c : Cfg) (K : List Arg → List (List AC) → Prop) (hp : True) (hk : ∀ (r : Bool), (r = decide (CfgP c)) → K ([rB.to r]) ([])) :
(true = true) ∧
  (True ∧
   (∀ r : Bool,
    (r = (decide (((1 : Int) ≤ c.mode) ∧ (c.mode ≤ (2 : Int))))) →
    (true = true) ∧
    (if (r = true) then
      ((true = true) ∧
      (True ∧
       (∀ r1 : Bool,
        (r1 = (decide (((1 : Int) ≤ c.win) ∧ (c.win ≤ (4 : Int))))) →
        (true = true) ∧
        (if (r1 = true) then
          ((true = true) ∧
          (True ∧
           (∀ r2 : Bool,
            (r2 = (decide (((1 : Int) ≤ c.mps) ∧ (c.mps ≤ (8 : Int))))) →
            (true = true) ∧
            (if (r2 = true) then
              ((true = true) ∧
              (True ∧
               (∀ r3 : Bool,
                (r3 = (decide (((1 : Int) ≤ c.mtu) ∧ (c.mtu ≤ (24 : Int))))) →
                (true = true) ∧
                (if (r3 = true) then
                  ((true = true) ∧
                  (True ∧
                   (∀ r4 : Bool,
                    (r4 = (decide (((1 : Int) ≤ c.try_) ∧ (c.try_ ≤ (5 : Int))))) →
                    (true = true) ∧
                    ((true = true) ∧
                     (K [(aB r4)] [])))))
                 else
                  ((true = true) ∧
                  (K [(aB false)] []))))))
             else
              ((true = true) ∧
              (K [(aB false)] []))))))
         else
          ((true = true) ∧
          (K [(aB false)] []))))))
     else
      ((true = true) ∧
      (K [(aB false)] []))))) := by
  repeat' first
    | exact rfl
    | trivial
    | apply And.intro
    | (intro r hr; subst hr)
    | intro r
    | exact hp
    | (refine iteI (fun h => ?_) (fun h => ?_))
  all_goals first
    | exact hk _ (by grind [CfgP, IntKind.wrap_i64])
    | omega
theorem w_spec_CfgOk : Valid Try.prog 47 c_spec_CfgOk :=
  valid_ctr2 (V := V_spec_CfgOk) (tysB_ok tys_ok) (CallsL.cons w_spec_l1In (CallsL.nil _)) mixed 0 1 Try.func47 rfl (by kernel_rfl)
    (fun c hc => by
      obtain rfl := Option.some.inj hc
      exact ⟨trivial, ⟨trivial, trivial⟩⟩)
    (fun x K hp hk => ⟨_, by kernel_rfl, vF_spec_CfgOk x K hp (fun r h => hk r h)⟩)
theorem vF_impl_pieceOk (s : Int) (n : Int) (d : List Int) (K : List Arg → List (List AC) → Prop) (hp : True) (hk : ∀ (r : Bool), (r = decide (SegP s n d.length)) → K ([rB.to r]) ([])) :
if ((s == (0 : Int)) = true) then
   (if ((decide ((((List.length d) : Nat) : Int) ≤ (8 : Int))) = true) then
    ((true = true) ∧
    (K [(aB (n == (((List.length d) : Nat) : Int)))] []))
   else
    ((true = true) ∧
    (K [(aB false)] [])))
  else
   (if ((s == (1 : Int)) = true) then
    ((true = true) ∧
    (True ∧
     (∀ r : Bool,
      (r = (decide (((1 : Int) ≤ (((List.length d) : Nat) : Int)) ∧ ((((List.length d) : Nat) : Int) ≤ (8 : Int))))) →
      (true = true) ∧
      (if (r = true) then
        ((true = true) ∧
        (True ∧
         (∀ r1 : Bool,
          (r1 = (decide (((IntKind.wrap IntKind.i64 ((((List.length d) : Nat) : Int) + (1 : Int))) ≤ n) ∧ (n ≤ (24 : Int))))) →
          (true = true) ∧
          ((true = true) ∧
           (K [(aB r1)] [])))))
       else
        ((true = true) ∧
        (K [(aB false)] []))))))
   else
    (if ((s == (2 : Int)) = true) then
     (if ((s == (2 : Int)) = true) then
      ((true = true) ∧
      (True ∧
       (∀ r : Bool,
        (r = (decide (((1 : Int) ≤ (((List.length d) : Nat) : Int)) ∧ ((((List.length d) : Nat) : Int) ≤ (8 : Int))))) →
        (true = true) ∧
        (if (r = true) then
          ((true = true) ∧
          (K [(aB (n == (0 : Int)))] []))
         else
          ((true = true) ∧
          (K [(aB false)] []))))))
     else
      ((true = true) ∧
      (K [(aB false)] [])))
    else
     (if ((s == (3 : Int)) = true) then
      ((true = true) ∧
      (True ∧
       (∀ r : Bool,
        (r = (decide (((1 : Int) ≤ (((List.length d) : Nat) : Int)) ∧ ((((List.length d) : Nat) : Int) ≤ (8 : Int))))) →
        (true = true) ∧
        (if (r = true) then
          ((true = true) ∧
          (K [(aB (n == (0 : Int)))] []))
         else
          ((true = true) ∧
          (K [(aB false)] []))))))
     else
      ((true = true) ∧
      (K [(aB false)] []))))) := by
  repeat' first
    | exact rfl
    | trivial
    | apply And.intro
    | (intro r hr; subst hr)
    | intro r
    | exact hp
    | (refine iteI (fun h => ?_) (fun h => ?_))
  all_goals first
    | exact hk _ (by grind [SegP, IntKind.wrap_i64])
    | omega
theorem w_impl_pieceOk : Valid Try.prog 64 c_impl_pieceOk :=
  valid_ctr2 (V := V_impl_pieceOk) (tysB_ok tys_ok) (CallsL.cons w_impl_in (CallsL.nil _)) mixed 0 0 Try.func64 rfl (by kernel_rfl)
    (fun c hc => by
      obtain rfl := Option.some.inj hc
      exact ⟨trivial, ⟨trivial, ⟨⟨trivial, ⟨trivial, ⟨⟨trivial, trivial⟩, ⟨trivial, ⟨⟨trivial, trivial⟩, ⟨⟨trivial, ⟨trivial, trivial⟩⟩, ⟨⟨trivial, trivial⟩, trivial⟩⟩⟩⟩⟩⟩⟩, ⟨trivial, trivial⟩⟩⟩⟩)
    (fun x K hp hk => ⟨_, by kernel_rfl, vF_impl_pieceOk x.1 x.2.1 x.2.2 K hp (fun r h => hk r h)⟩)
theorem vF_spec_l2Seg (f : Frm) (K : List Arg → List (List AC) → Prop) (hp : True) (hk : ∀ (r : Bool), (r = decide (SegP f.seg f.len f.data.length)) → K ([rB.to r]) ([])) :
(true = true) ∧
  (True ∧
   (∀ r : Bool,
    (r = (decide (((0 : Int) ≤ f.seg) ∧ (f.seg ≤ (3 : Int))))) →
    (true = true) ∧
    (if ((!r) = true) then
      ((true = true) ∧
      (K [(aB false)] []))
     else
      (if (((((List.length f.data) : Nat) : Int) == (0 : Int)) = true) then
       (if ((f.len != (0 : Int)) = true) then
        ((true = true) ∧
        (K [(aB false)] []))
       else
        (if ((decide ((((List.length f.data) : Nat) : Int) > (8 : Int))) = true) then
         ((true = true) ∧
         (K [(aB false)] []))
        else
         (if ((f.seg == (0 : Int)) = true) then
          ((true = true) ∧
          (K [(aB (f.len == (((List.length f.data) : Nat) : Int)))] []))
         else
          (if ((f.seg == (1 : Int)) = true) then
           ((true = true) ∧
           (True ∧
            (∀ r1 : Bool,
             (r1 = (decide (((IntKind.wrap IntKind.i64 ((((List.length f.data) : Nat) : Int) + (1 : Int))) ≤ f.len) ∧ (f.len ≤ (24 : Int))))) →
             (true = true) ∧
             (if (r1 = true) then
               ((true = true) ∧
               (K [(aB (decide ((((List.length f.data) : Nat) : Int) > (0 : Int))))] []))
              else
               ((true = true) ∧
               (K [(aB false)] []))))))
          else
           (if ((f.len == (0 : Int)) = true) then
            ((true = true) ∧
            (K [(aB (decide ((((List.length f.data) : Nat) : Int) > (0 : Int))))] []))
           else
            ((true = true) ∧
            (K [(aB false)] [])))))))
      else
       (if ((decide ((((List.length f.data) : Nat) : Int) > (8 : Int))) = true) then
        ((true = true) ∧
        (K [(aB false)] []))
       else
        (if ((f.seg == (0 : Int)) = true) then
         ((true = true) ∧
         (K [(aB (f.len == (((List.length f.data) : Nat) : Int)))] []))
        else
         (if ((f.seg == (1 : Int)) = true) then
          ((true = true) ∧
          (True ∧
           (∀ r1 : Bool,
            (r1 = (decide (((IntKind.wrap IntKind.i64 ((((List.length f.data) : Nat) : Int) + (1 : Int))) ≤ f.len) ∧ (f.len ≤ (24 : Int))))) →
            (true = true) ∧
            (if (r1 = true) then
              ((true = true) ∧
              (K [(aB (decide ((((List.length f.data) : Nat) : Int) > (0 : Int))))] []))
             else
              ((true = true) ∧
              (K [(aB false)] []))))))
         else
          (if ((f.len == (0 : Int)) = true) then
           ((true = true) ∧
           (K [(aB (decide ((((List.length f.data) : Nat) : Int) > (0 : Int))))] []))
          else
           ((true = true) ∧
           (K [(aB false)] [])))))))))) := by
  repeat' first
    | exact rfl
    | trivial
    | apply And.intro
    | (intro r hr; subst hr)
    | intro r
    | exact hp
    | (refine iteI (fun h => ?_) (fun h => ?_))
  all_goals first
    | exact hk _ (by grind [SegP, IntKind.wrap_i64])
    | omega
theorem w_spec_l2Seg : Valid Try.prog 87 c_spec_l2Seg :=
  valid_ctr2 (V := V_spec_l2Seg) (tysB_ok tys_ok) (CallsL.cons w_spec_l1In (CallsL.nil _)) mixed 0 1 Try.func87 rfl (by kernel_rfl)
    (fun c hc => by
      obtain rfl := Option.some.inj hc
      exact ⟨trivial, ⟨⟨trivial, ⟨⟨trivial, trivial⟩, trivial⟩⟩, ⟨⟨trivial, ⟨trivial, ⟨⟨trivial, trivial⟩, ⟨trivial, ⟨⟨trivial, trivial⟩, trivial⟩⟩⟩⟩⟩, ⟨trivial, trivial⟩⟩⟩⟩)
    (fun x K hp hk => ⟨_, by kernel_rfl, vF_spec_l2Seg x K hp (fun r h => hk r h)⟩)
theorem vF_impl_FrmFrame_same (f : Frm) (g : Frm) (K : List Arg → List (List AC) → Prop) (hp : f.data.length ≤ LIM) (hk : ∀ (r : Bool), (r = decide (f = g)) → K ([rB.to r]) ([])) :
if ((f.kind == g.kind) = true) then
   (if ((f.seq == g.seq) = true) then
    (if ((f.ack == g.ack) = true) then
     (if ((f.poll == g.poll) = true) then
      (if ((f.final == g.final) = true) then
       (if ((f.say == g.say) = true) then
        (if ((f.seg == g.seg) = true) then
         (if ((f.len == g.len) = true) then
          ((true = true) ∧
          (((List.length f.data) ≤ (137438953472 : Nat)) ∧
           (∀ r : Bool,
            (r = (decide (f.data = g.data))) →
            (true = true) ∧
            ((true = true) ∧
             (K [(aB r)] [])))))
         else
          ((true = true) ∧
          (K [(aB false)] [])))
        else
         ((true = true) ∧
         (K [(aB false)] [])))
       else
        ((true = true) ∧
        (K [(aB false)] [])))
      else
       ((true = true) ∧
       (K [(aB false)] [])))
     else
      ((true = true) ∧
      (K [(aB false)] [])))
    else
     ((true = true) ∧
     (K [(aB false)] [])))
   else
    ((true = true) ∧
    (K [(aB false)] [])))
  else
   ((true = true) ∧
   (K [(aB false)] [])) := by
  obtain ⟨_, _, _, _, _, _, _, _, _⟩ := f
  obtain ⟨_, _, _, _, _, _, _, _, _⟩ := g

  repeat' first
    | exact rfl
    | trivial
    | apply And.intro
    | (intro r hr; subst hr)
    | intro r
    | exact hp
    | (refine iteI (fun h => ?_) (fun h => ?_))
  all_goals first
    | exact hk _ (by grind [IntKind.wrap_i64])
    | omega
theorem w_impl_FrmFrame_same : Valid Try.prog 66 c_impl_FrmFrame_same :=
  valid_ctr2 (V := V_impl_FrmFrame_same) (tysB_ok tys_ok) (CallsL.cons w_slices_Equal_byte_byte (CallsL.nil _)) mixed 0 2 Try.func66 rfl (by kernel_rfl)
    (fun c hc => by
      obtain rfl := Option.some.inj hc
      exact ⟨trivial, ⟨trivial, trivial⟩⟩)
    (fun x K hp hk => ⟨_, by kernel_rfl, vF_impl_FrmFrame_same x.1 x.2 K hp (fun r h => hk r h)⟩)
theorem vF_impl_FrmOk (f : Frm) (K : List Arg → List (List AC) → Prop) (hp : f.data.length ≤ LIM) (hk : ∀ (r : Bool), (r = decide (FrmP f)) → K ([rB.to r]) ([])) :
if ((f.kind == (1 : Int)) = true) then
   ((true = true) ∧
   ((true = true) ∧
    ((true = true) ∧
     ((true = true) ∧
      ((true = true) ∧
       ((true = true) ∧
        ((true = true) ∧
         ((true = true) ∧
          ((true = true) ∧
           ((true = true) ∧
            ((true = true) ∧
             ((true = true) ∧
              ((true = true) ∧
               (True ∧
                (∀ r : Bool,
                 (r = (decide (((0 : Int) ≤ f.seq) ∧ (f.seq ≤ (7 : Int))))) →
                 (true = true) ∧
                 (if (r = true) then
                   ((true = true) ∧
                   (True ∧
                    (∀ r1 : Bool,
                     (r1 = (decide (((0 : Int) ≤ f.ack) ∧ (f.ack ≤ (7 : Int))))) →
                     (true = true) ∧
                     (if (r1 = true) then
                       ((true = true) ∧
                       (True ∧
                        (∀ r2 : Bool,
                         (r2 = (decide (SegP f.seg f.len (((List.length f.data) : Nat) : Int)))) →
                         (true = true) ∧
                         (if (r2 = true) then
                           ((true = true) ∧
                           (((List.length f.data) ≤ (137438953472 : Nat)) ∧
                            (∀ r3 : Bool,
                             (r3 = (decide ((Frm.mk f.kind f.seq f.ack false f.final (0 : Int) f.seg f.len f.data) = f))) →
                             (true = true) ∧
                             ((true = true) ∧
                              (K [(aB r3)] [])))))
                          else
                           ((true = true) ∧
                           (K [(aB false)] []))))))
                      else
                       ((true = true) ∧
                       (K [(aB false)] []))))))
                  else
                   ((true = true) ∧
                   (K [(aB false)] []))))))))))))))))))
  else
   (if ((f.kind == (2 : Int)) = true) then
    ((true = true) ∧
    ((true = true) ∧
     ((true = true) ∧
      ((true = true) ∧
       ((true = true) ∧
        ((true = true) ∧
         ((true = true) ∧
          ((true = true) ∧
           ((true = true) ∧
            (True ∧
             (∀ r : Bool,
              (r = (decide (((0 : Int) ≤ f.ack) ∧ (f.ack ≤ (7 : Int))))) →
              (true = true) ∧
              (if (r = true) then
                (if (f.poll = true) then
                 (if ((!f.final) = true) then
                  ((true = true) ∧
                  (True ∧
                   (∀ r1 : Bool,
                    (r1 = (decide (((0 : Int) ≤ f.say) ∧ (f.say ≤ (2 : Int))))) →
                    (true = true) ∧
                    (if (r1 = true) then
                      ((true = true) ∧
                      (((List.length ([] : (List Int))) ≤ (137438953472 : Nat)) ∧
                       (∀ r2 : Bool,
                        (r2 = (decide ((Frm.mk f.kind (0 : Int) f.ack f.poll f.final f.say (0 : Int) (0 : Int) ([] : (List Int))) = f))) →
                        (true = true) ∧
                        ((true = true) ∧
                         (K [(aB r2)] [])))))
                     else
                      ((true = true) ∧
                      (K [(aB false)] []))))))
                 else
                  ((true = true) ∧
                  (K [(aB false)] [])))
                else
                 ((true = true) ∧
                 (True ∧
                  (∀ r1 : Bool,
                   (r1 = (decide (((0 : Int) ≤ f.say) ∧ (f.say ≤ (2 : Int))))) →
                   (true = true) ∧
                   (if (r1 = true) then
                     ((true = true) ∧
                     (((List.length ([] : (List Int))) ≤ (137438953472 : Nat)) ∧
                      (∀ r2 : Bool,
                       (r2 = (decide ((Frm.mk f.kind (0 : Int) f.ack f.poll f.final f.say (0 : Int) (0 : Int) ([] : (List Int))) = f))) →
                       (true = true) ∧
                       ((true = true) ∧
                        (K [(aB r2)] [])))))
                    else
                     ((true = true) ∧
                     (K [(aB false)] [])))))))
               else
                ((true = true) ∧
                (K [(aB false)] []))))))))))))))
   else
    (if ((f.kind == (3 : Int)) = true) then
     ((true = true) ∧
     ((true = true) ∧
      ((true = true) ∧
       ((true = true) ∧
        ((true = true) ∧
         ((true = true) ∧
          ((true = true) ∧
           (True ∧
            (∀ r : Bool,
             (r = (decide (SegP f.seg f.len (((List.length f.data) : Nat) : Int)))) →
             (true = true) ∧
             (if (r = true) then
               ((true = true) ∧
               (((List.length f.data) ≤ (137438953472 : Nat)) ∧
                (∀ r1 : Bool,
                 (r1 = (decide ((Frm.mk f.kind (0 : Int) (0 : Int) false false (0 : Int) f.seg f.len f.data) = f))) →
                 (true = true) ∧
                 ((true = true) ∧
                  (K [(aB r1)] [])))))
              else
               ((true = true) ∧
               (K [(aB false)] []))))))))))))
    else
     (if ((f.kind == (4 : Int)) = true) then
      ((true = true) ∧
      (True ∧
       (∀ r : Bool,
        (r = (decide (((1 : Int) ≤ f.len) ∧ (f.len ≤ (255 : Int))))) →
        (true = true) ∧
        (if (r = true) then
          ((true = true) ∧
          (((List.length ([] : (List Int))) ≤ (137438953472 : Nat)) ∧
           (∀ r1 : Bool,
            (r1 = (decide ((Frm.mk f.kind (0 : Int) (0 : Int) false false (0 : Int) (0 : Int) f.len ([] : (List Int))) = f))) →
            (true = true) ∧
            ((true = true) ∧
             (K [(aB r1)] [])))))
         else
          ((true = true) ∧
          (K [(aB false)] []))))))
     else
      ((true = true) ∧
      (K [(aB false)] []))))) := by
  obtain ⟨_, _, _, _, _, _, _, _, _⟩ := f

  repeat' first
    | exact rfl
    | trivial
    | apply And.intro
    | (intro r hr; subst hr)
    | intro r
    | exact hp
    | (refine iteI (fun h => ?_) (fun h => ?_))
  all_goals first
    | exact hk _ (by grind [FrmP, IntKind.wrap_i64])
    | omega
theorem w_impl_FrmOk : Valid Try.prog 19 c_impl_FrmOk :=
  valid_ctr2 (V := V_impl_FrmOk) (tysB_ok tys_ok) (CallsL.cons w_impl_isNumber (CallsL.cons w_impl_pieceOk (CallsL.cons w_impl_in (CallsL.cons w_impl_FrmFrame_same (CallsL.nil _))))) mixed 0 2 Try.func19 rfl (by kernel_rfl)
    (fun c hc => by
      obtain rfl := Option.some.inj hc
      exact ⟨trivial, ⟨trivial, ⟨trivial, ⟨⟨trivial, ⟨trivial, ⟨⟨trivial, trivial⟩, ⟨trivial, ⟨⟨trivial, trivial⟩, ⟨trivial, ⟨⟨trivial, trivial⟩, ⟨trivial, ⟨⟨trivial, trivial⟩, trivial⟩⟩⟩⟩⟩⟩⟩⟩⟩, ⟨trivial, trivial⟩⟩⟩⟩⟩)
    (fun x K hp hk => ⟨_, by kernel_rfl, vF_impl_FrmOk x K hp (fun r h => hk r h)⟩)
theorem vF_spec_FrmOk (f : Frm) (K : List Arg → List (List AC) → Prop) (hp : True) (hk : ∀ (r : Bool), (r = decide (FrmP f)) → K ([rB.to r]) ([])) :
if ((f.kind == (1 : Int)) = true) then
   ((true = true) ∧
   (True ∧
    (∀ r : Bool,
     (r = (decide (((0 : Int) ≤ f.seq) ∧ (f.seq ≤ (7 : Int))))) →
     (true = true) ∧
     (if (r = true) then
       ((true = true) ∧
       (True ∧
        (∀ r1 : Bool,
         (r1 = (decide (((0 : Int) ≤ f.ack) ∧ (f.ack ≤ (7 : Int))))) →
         (true = true) ∧
         (if (r1 = true) then
           (if ((!f.poll) = true) then
            (if ((f.say == (0 : Int)) = true) then
             ((true = true) ∧
             (True ∧
              (∀ r2 : Bool,
               (r2 = (decide (SegP f.seg f.len (((List.length f.data) : Nat) : Int)))) →
               (true = true) ∧
               ((true = true) ∧
                (K [(aB r2)] [])))))
            else
             ((true = true) ∧
             (K [(aB false)] [])))
           else
            ((true = true) ∧
            (K [(aB false)] [])))
          else
           ((true = true) ∧
           (K [(aB false)] []))))))
      else
       ((true = true) ∧
       (K [(aB false)] []))))))
  else
   (if ((f.kind == (2 : Int)) = true) then
    (if ((f.seq == (0 : Int)) = true) then
     ((true = true) ∧
     (True ∧
      (∀ r : Bool,
       (r = (decide (((0 : Int) ≤ f.ack) ∧ (f.ack ≤ (7 : Int))))) →
       (true = true) ∧
       (if (r = true) then
         (if (f.poll = true) then
          (if ((!f.final) = true) then
           ((true = true) ∧
           (True ∧
            (∀ r1 : Bool,
             (r1 = (decide (((0 : Int) ≤ f.say) ∧ (f.say ≤ (2 : Int))))) →
             (true = true) ∧
             (if (r1 = true) then
               (if ((f.seg == (0 : Int)) = true) then
                (if ((f.len == (0 : Int)) = true) then
                 ((true = true) ∧
                 (K [(aB ((((List.length f.data) : Nat) : Int) == (0 : Int)))] []))
                else
                 ((true = true) ∧
                 (K [(aB false)] [])))
               else
                ((true = true) ∧
                (K [(aB false)] [])))
              else
               ((true = true) ∧
               (K [(aB false)] []))))))
          else
           ((true = true) ∧
           (K [(aB false)] [])))
         else
          ((true = true) ∧
          (True ∧
           (∀ r1 : Bool,
            (r1 = (decide (((0 : Int) ≤ f.say) ∧ (f.say ≤ (2 : Int))))) →
            (true = true) ∧
            (if (r1 = true) then
              (if ((f.seg == (0 : Int)) = true) then
               (if ((f.len == (0 : Int)) = true) then
                ((true = true) ∧
                (K [(aB ((((List.length f.data) : Nat) : Int) == (0 : Int)))] []))
               else
                ((true = true) ∧
                (K [(aB false)] [])))
              else
               ((true = true) ∧
               (K [(aB false)] [])))
             else
              ((true = true) ∧
              (K [(aB false)] [])))))))
        else
         ((true = true) ∧
         (K [(aB false)] []))))))
    else
     ((true = true) ∧
     (K [(aB false)] [])))
   else
    (if ((f.kind == (3 : Int)) = true) then
     (if ((f.seq == (0 : Int)) = true) then
      (if ((f.ack == (0 : Int)) = true) then
       (if ((!f.poll) = true) then
        (if ((!f.final) = true) then
         (if ((f.say == (0 : Int)) = true) then
          ((true = true) ∧
          (True ∧
           (∀ r : Bool,
            (r = (decide (SegP f.seg f.len (((List.length f.data) : Nat) : Int)))) →
            (true = true) ∧
            ((true = true) ∧
             (K [(aB r)] [])))))
         else
          ((true = true) ∧
          (K [(aB false)] [])))
        else
         ((true = true) ∧
         (K [(aB false)] [])))
       else
        ((true = true) ∧
        (K [(aB false)] [])))
      else
       ((true = true) ∧
       (K [(aB false)] [])))
     else
      ((true = true) ∧
      (K [(aB false)] [])))
    else
     (if ((f.kind == (4 : Int)) = true) then
      (if ((f.seq == (0 : Int)) = true) then
       (if ((f.ack == (0 : Int)) = true) then
        (if ((!f.poll) = true) then
         (if ((!f.final) = true) then
          (if ((f.say == (0 : Int)) = true) then
           (if ((f.seg == (0 : Int)) = true) then
            ((true = true) ∧
            (True ∧
             (∀ r : Bool,
              (r = (decide (((1 : Int) ≤ f.len) ∧ (f.len ≤ (255 : Int))))) →
              (true = true) ∧
              (if (r = true) then
                ((true = true) ∧
                (K [(aB ((((List.length f.data) : Nat) : Int) == (0 : Int)))] []))
               else
                ((true = true) ∧
                (K [(aB false)] []))))))
           else
            ((true = true) ∧
            (K [(aB false)] [])))
          else
           ((true = true) ∧
           (K [(aB false)] [])))
         else
          ((true = true) ∧
          (K [(aB false)] [])))
        else
         ((true = true) ∧
         (K [(aB false)] [])))
       else
        ((true = true) ∧
        (K [(aB false)] [])))
      else
       ((true = true) ∧
       (K [(aB false)] [])))
     else
      ((true = true) ∧
      (K [(aB false)] []))))) := by
  repeat' first
    | exact rfl
    | trivial
    | apply And.intro
    | (intro r hr; subst hr)
    | intro r
    | exact hp
    | (refine iteI (fun h => ?_) (fun h => ?_))
  all_goals first
    | exact hk _ (by grind [FrmP, IntKind.wrap_i64])
    | omega
theorem w_spec_FrmOk : Valid Try.prog 48 c_spec_FrmOk :=
  valid_ctr2 (V := V_spec_FrmOk) (tysB_ok tys_ok) (CallsL.cons w_spec_l1In (CallsL.cons w_spec_l2Seg (CallsL.nil _))) mixed 0 1 Try.func48 rfl (by kernel_rfl)
    (fun c hc => by
      obtain rfl := Option.some.inj hc
      exact ⟨trivial, ⟨⟨trivial, ⟨trivial, ⟨⟨trivial, trivial⟩, ⟨trivial, ⟨⟨trivial, trivial⟩, ⟨trivial, ⟨⟨trivial, trivial⟩, trivial⟩⟩⟩⟩⟩⟩⟩, ⟨trivial, trivial⟩⟩⟩)
    (fun x K hp hk => ⟨_, by kernel_rfl, vF_spec_FrmOk x K hp (fun r h => hk r h)⟩)
end Go.Proofs.YtjladmhjpikdhaaE

/- Calls answer what is promised: G. Conditions: none. -/
set_option linter.unusedVariables false
set_option maxHeartbeats 4000000
namespace Go.Proofs.YtjladmhjpikdhaaE
open Go
theorem vF_impl_PartOk (p : Part) (K : List Arg → List (List AC) → Prop) (hp : True) (hk : ∀ (v : Bool), (v = decide (PartP p)) → K ([rB.to v]) ([])) :
(true = true) ∧
  (True ∧
   (∀ r : Bool,
    (r = (decide (SegP p.seg p.len (((List.length p.data) : Nat) : Int)))) →
    (true = true) ∧
    ((true = true) ∧
     (K [(aB r)] [])))) := by
  repeat' first
    | exact rfl
    | trivial
    | apply And.intro
    | (intro r hr; subst hr)
    | intro r
    | exact hp
    | (refine iteI (fun h => ?_) (fun h => ?_))
  all_goals first
    | exact hk _ (by grind [PartP, SegP, IntKind.wrap_i64])
    | omega
    | grind [PartP, SegP, IntKind.wrap_i64]
theorem w_impl_PartOk : Valid Try.prog 89 c_impl_PartOk :=
  valid_ctr2 (V := V_impl_PartOk) (tysB_ok tys_ok) (CallsL.cons w_impl_pieceOk (CallsL.nil _)) mixed 0 1 Try.func89 rfl (by kernel_rfl)
    (fun c hc => by
      obtain rfl := Option.some.inj hc
      exact ⟨trivial, ⟨trivial, trivial⟩⟩)
    (fun x K hp hk => ⟨_, by kernel_rfl, vF_impl_PartOk x K hp (fun v h => hk v h)⟩)
theorem vF_impl_JoinOk (j : JoinS) (K : List Arg → List (List AC) → Prop) (hp : True) (hk : ∀ (v : Bool), (v = decide (JoinP j)) → K ([rB.to v]) ([])) :
if ((j.len == (0 : Int)) = true) then
   (if (((((List.length j.got) : Nat) : Int) == (0 : Int)) = true) then
    ((true = true) ∧
    (K [(aB true)] []))
   else
    ((true = true) ∧
    (True ∧
     (∀ r : Bool,
      (r = (decide (((2 : Int) ≤ j.len) ∧ (j.len ≤ (24 : Int))))) →
      (true = true) ∧
      (if (r = true) then
        ((true = true) ∧
        (True ∧
         (∀ r1 : Bool,
          (r1 = (decide (((1 : Int) ≤ (((List.length j.got) : Nat) : Int)) ∧ ((((List.length j.got) : Nat) : Int) ≤ (IntKind.wrap IntKind.i64 (j.len - (1 : Int))))))) →
          (true = true) ∧
          ((true = true) ∧
           (K [(aB r1)] [])))))
       else
        ((true = true) ∧
        (K [(aB false)] [])))))))
  else
   ((true = true) ∧
   (True ∧
    (∀ r : Bool,
     (r = (decide (((2 : Int) ≤ j.len) ∧ (j.len ≤ (24 : Int))))) →
     (true = true) ∧
     (if (r = true) then
       ((true = true) ∧
       (True ∧
        (∀ r1 : Bool,
         (r1 = (decide (((1 : Int) ≤ (((List.length j.got) : Nat) : Int)) ∧ ((((List.length j.got) : Nat) : Int) ≤ (IntKind.wrap IntKind.i64 (j.len - (1 : Int))))))) →
         (true = true) ∧
         ((true = true) ∧
          (K [(aB r1)] [])))))
      else
       ((true = true) ∧
       (K [(aB false)] [])))))) := by
  repeat' first
    | exact rfl
    | trivial
    | apply And.intro
    | (intro r hr; subst hr)
    | intro r
    | exact hp
    | (refine iteI (fun h => ?_) (fun h => ?_))
  all_goals first
    | exact hk _ (by grind [JoinP, IntKind.wrap_i64])
    | omega
    | grind [JoinP, IntKind.wrap_i64]
theorem w_impl_JoinOk : Valid Try.prog 71 c_impl_JoinOk :=
  valid_ctr2 (V := V_impl_JoinOk) (tysB_ok tys_ok) (CallsL.cons w_impl_in (CallsL.nil _)) mixed 0 1 Try.func71 rfl (by kernel_rfl)
    (fun c hc => by
      obtain rfl := Option.some.inj hc
      exact ⟨trivial, ⟨trivial, trivial⟩⟩)
    (fun x K hp hk => ⟨_, by kernel_rfl, vF_impl_JoinOk x K hp (fun v h => hk v h)⟩)
theorem vF_spec_JoinOk (j : JoinS) (K : List Arg → List (List AC) → Prop) (hp : True) (hk : ∀ (v : Bool), (v = decide (JoinP j)) → K ([rB.to v]) ([])) :
if ((j.len == (0 : Int)) = true) then
   (if (((((List.length j.got) : Nat) : Int) == (0 : Int)) = true) then
    ((true = true) ∧
    (K [(aB true)] []))
   else
    ((true = true) ∧
    (True ∧
     (∀ r : Bool,
      (r = (decide (((2 : Int) ≤ j.len) ∧ (j.len ≤ (24 : Int))))) →
      (true = true) ∧
      (if (r = true) then
        ((true = true) ∧
        (True ∧
         (∀ r1 : Bool,
          (r1 = (decide (((1 : Int) ≤ (((List.length j.got) : Nat) : Int)) ∧ ((((List.length j.got) : Nat) : Int) ≤ (IntKind.wrap IntKind.i64 (j.len - (1 : Int))))))) →
          (true = true) ∧
          ((true = true) ∧
           (K [(aB r1)] [])))))
       else
        ((true = true) ∧
        (K [(aB false)] [])))))))
  else
   ((true = true) ∧
   (True ∧
    (∀ r : Bool,
     (r = (decide (((2 : Int) ≤ j.len) ∧ (j.len ≤ (24 : Int))))) →
     (true = true) ∧
     (if (r = true) then
       ((true = true) ∧
       (True ∧
        (∀ r1 : Bool,
         (r1 = (decide (((1 : Int) ≤ (((List.length j.got) : Nat) : Int)) ∧ ((((List.length j.got) : Nat) : Int) ≤ (IntKind.wrap IntKind.i64 (j.len - (1 : Int))))))) →
         (true = true) ∧
         ((true = true) ∧
          (K [(aB r1)] [])))))
      else
       ((true = true) ∧
       (K [(aB false)] [])))))) := by
  repeat' first
    | exact rfl
    | trivial
    | apply And.intro
    | (intro r hr; subst hr)
    | intro r
    | exact hp
    | (refine iteI (fun h => ?_) (fun h => ?_))
  all_goals first
    | exact hk _ (by grind [JoinP, IntKind.wrap_i64])
    | omega
    | grind [JoinP, IntKind.wrap_i64]
theorem w_spec_JoinOk : Valid Try.prog 61 c_spec_JoinOk :=
  valid_ctr2 (V := V_spec_JoinOk) (tysB_ok tys_ok) (CallsL.cons w_spec_l1In (CallsL.nil _)) mixed 0 1 Try.func61 rfl (by kernel_rfl)
    (fun c hc => by
      obtain rfl := Option.some.inj hc
      exact ⟨trivial, ⟨trivial, trivial⟩⟩)
    (fun x K hp hk => ⟨_, by kernel_rfl, vF_spec_JoinOk x K hp (fun v h => hk v h)⟩)
theorem vF_impl_far (a : Int) (b : Int) (K : List Arg → List (List AC) → Prop) (hp : 0 ≤ a ∧ a ≤ 7 ∧ 0 ≤ b ∧ b ≤ 7) (hk : ∀ (x : Int), (x = (b - a + 8) % 8) → K ([rInt.to x]) ([])) :
((8 : Int) ≠ (0 : Int)) ∧
  ((true = true) ∧
   (K [(aI IntKind.i64 (Int.tmod (IntKind.wrap IntKind.i64 ((IntKind.wrap IntKind.i64 (b - a)) + (8 : Int))) (8 : Int)))] [])) := by
  refine ⟨by decide, by trivial, hk _ ?_⟩
  rw [wr (x := b - a) (by omega) (by omega), wr (by omega) (by omega), Int.tmod_eq_emod_of_nonneg (by omega)]
theorem w_impl_far : Valid Try.prog 88 c_impl_far :=
  valid_ctr2 (V := V_impl_far) (tysB_ok tys_ok) (CallsL.nil _) mixed 0 0 Try.func88 rfl (by kernel_rfl)
    (fun c hc => by
      obtain rfl := Option.some.inj hc
      exact ⟨trivial, ⟨trivial, trivial⟩⟩)
    (fun x K hp hk => ⟨_, by kernel_rfl, vF_impl_far x.1 x.2 K hp (fun x h => hk x h)⟩)
theorem vF_impl_NumFar (a : Int) (b : Int) (K : List Arg → List (List AC) → Prop) (hp : True) (hk : ∀ (x : Int), (x = if 0 ≤ a ∧ a ≤ 7 ∧ 0 ≤ b ∧ b ≤ 7 then (b - a + 8) % 8 else -1) → K ([rInt.to x]) ([])) :
(true = true) ∧
  (True ∧
   (∀ r : Bool,
    (r = (decide (((0 : Int) ≤ a) ∧ (a ≤ (7 : Int))))) →
    (true = true) ∧
    (if ((!r) = true) then
      ((true = true) ∧
      (K [(aI IntKind.i64 (-1 : Int))] []))
     else
      ((true = true) ∧
      (True ∧
       (∀ r1 : Bool,
        (r1 = (decide (((0 : Int) ≤ b) ∧ (b ≤ (7 : Int))))) →
        (true = true) ∧
        (if ((!r1) = true) then
          ((true = true) ∧
          (K [(aI IntKind.i64 (-1 : Int))] []))
         else
          ((true = true) ∧
          ((((0 : Int) ≤ a) ∧
            ((a ≤ (7 : Int)) ∧
             (((0 : Int) ≤ b) ∧
              (b ≤ (7 : Int))))) ∧
           (∀ r2 : Int,
            (r2 = (((b - a) + (8 : Int)) % (8 : Int))) →
            (true = true) ∧
            ((true = true) ∧
             (K [(aI IntKind.i64 r2)] [])))))))))))) := by
  repeat' first
    | exact rfl
    | trivial
    | apply And.intro
    | (intro r hr; subst hr)
    | intro r
    | exact hp
    | (refine iteI (fun h => ?_) (fun h => ?_))
  all_goals first
    | exact hk _ (by grind [Int.tmod_eq_emod_of_nonneg, IntKind.wrap_i64])
    | omega
    | grind [Int.tmod_eq_emod_of_nonneg, IntKind.wrap_i64]
theorem w_impl_NumFar : Valid Try.prog 50 c_impl_NumFar :=
  valid_ctr2 (V := V_impl_NumFar) (tysB_ok tys_ok) (CallsL.cons w_impl_isNumber (CallsL.cons w_impl_far (CallsL.nil _))) mixed 0 0 Try.func50 rfl (by kernel_rfl)
    (fun c hc => by
      obtain rfl := Option.some.inj hc
      exact ⟨trivial, ⟨⟨trivial, ⟨⟨trivial, trivial⟩, trivial⟩⟩, ⟨trivial, trivial⟩⟩⟩)
    (fun x K hp hk => ⟨_, by kernel_rfl, vF_impl_NumFar x.1 x.2 K hp (fun x h => hk x h)⟩)
theorem vF_spec_NumFar (a : Int) (b : Int) (K : List Arg → List (List AC) → Prop) (hp : True) (hk : ∀ (x : Int), (x = if 0 ≤ a ∧ a ≤ 7 ∧ 0 ≤ b ∧ b ≤ 7 then (b - a + 8) % 8 else -1) → K ([rInt.to x]) ([])) :
(true = true) ∧
  (True ∧
   (∀ r : Bool,
    (r = (decide (((0 : Int) ≤ a) ∧ (a ≤ (7 : Int))))) →
    (true = true) ∧
    (if ((!r) = true) then
      ((true = true) ∧
      (K [(aI IntKind.i64 (-1 : Int))] []))
     else
      ((true = true) ∧
      (True ∧
       (∀ r1 : Bool,
        (r1 = (decide (((0 : Int) ≤ b) ∧ (b ≤ (7 : Int))))) →
        (true = true) ∧
        (if ((!r1) = true) then
          ((true = true) ∧
          (K [(aI IntKind.i64 (-1 : Int))] []))
         else
          (((8 : Int) ≠ (0 : Int)) ∧
          ((true = true) ∧
           (K [(aI IntKind.i64 (Int.tmod (IntKind.wrap IntKind.i64 ((IntKind.wrap IntKind.i64 (b - a)) + (8 : Int))) (8 : Int)))] [])))))))))) := by
  refine ⟨by trivial, trivial, fun r hr => ⟨by trivial, iteI (fun h => ?_) (fun h => ?_)⟩⟩
  · exact ⟨by trivial, hk _ (by subst hr; rw [if_neg]; simp at h; omega)⟩
  · refine ⟨by trivial, trivial, fun r1 hr1 => ⟨by trivial, iteI (fun h1 => ?_) (fun h1 => ?_)⟩⟩
    · exact ⟨by trivial, hk _ (by subst hr1; rw [if_neg]; simp at h1; omega)⟩
    · subst hr; subst hr1
      simp at h h1
      refine ⟨by decide, by trivial, hk _ ?_⟩
      rw [if_pos (by omega), wr (x := b - a) (by omega) (by omega), wr (by omega) (by omega), Int.tmod_eq_emod_of_nonneg (by omega)]
theorem w_spec_NumFar : Valid Try.prog 101 c_spec_NumFar :=
  valid_ctr2 (V := V_spec_NumFar) (tysB_ok tys_ok) (CallsL.cons w_spec_l1In (CallsL.nil _)) mixed 0 0 Try.func101 rfl (by kernel_rfl)
    (fun c hc => by
      obtain rfl := Option.some.inj hc
      exact ⟨trivial, ⟨⟨trivial, ⟨⟨trivial, trivial⟩, trivial⟩⟩, ⟨trivial, trivial⟩⟩⟩)
    (fun x K hp hk => ⟨_, by kernel_rfl, vF_spec_NumFar x.1 x.2 K hp (fun x h => hk x h)⟩)
theorem vF_impl_NumNext (n : Int) (K : List Arg → List (List AC) → Prop) (hp : 0 ≤ n ∧ n ≤ 100000) (hk : ∀ (x : Int), (x = (n + 1) % 8) → K ([rInt.to x]) ([])) :
((8 : Int) ≠ (0 : Int)) ∧
  ((true = true) ∧
   (K [(aI IntKind.i64 (Int.tmod (IntKind.wrap IntKind.i64 (n + (1 : Int))) (8 : Int)))] [])) := by
  repeat' first
    | exact rfl
    | trivial
    | apply And.intro
    | (intro r hr; subst hr)
    | intro r
    | exact hp
    | (refine iteI (fun h => ?_) (fun h => ?_))
  all_goals first
    | exact hk _ (by grind [Int.tmod_eq_emod_of_nonneg, IntKind.wrap_i64])
    | omega
    | grind [Int.tmod_eq_emod_of_nonneg, IntKind.wrap_i64]
theorem w_impl_NumNext : Valid Try.prog 52 c_impl_NumNext :=
  valid_ctr2 (V := V_impl_NumNext) (tysB_ok tys_ok) (CallsL.nil _) mixed 0 0 Try.func52 rfl (by kernel_rfl)
    (fun c hc => by
      obtain rfl := Option.some.inj hc
      exact ⟨trivial, ⟨trivial, trivial⟩⟩)
    (fun x K hp hk => ⟨_, by kernel_rfl, vF_impl_NumNext x K hp (fun x h => hk x h)⟩)
theorem vF_impl_NumOf (n : Int) (K : List Arg → List (List AC) → Prop) (hp : True) (hk : ∀ (x : Int), (x = if n < 0 then -1 else n % 8) → K ([rInt.to x]) ([])) :
if ((decide (n < (0 : Int))) = true) then
   ((true = true) ∧
   (K [(aI IntKind.i64 (-1 : Int))] []))
  else
   (((8 : Int) ≠ (0 : Int)) ∧
   ((true = true) ∧
    (K [(aI IntKind.i64 (Int.tmod n (8 : Int)))] []))) := by
  repeat' first
    | exact rfl
    | trivial
    | apply And.intro
    | (intro r hr; subst hr)
    | intro r
    | exact hp
    | (refine iteI (fun h => ?_) (fun h => ?_))
  all_goals first
    | exact hk _ (by grind [Int.tmod_eq_emod_of_nonneg, IntKind.wrap_i64])
    | omega
    | grind [Int.tmod_eq_emod_of_nonneg, IntKind.wrap_i64]
theorem w_impl_NumOf : Valid Try.prog 70 c_impl_NumOf :=
  valid_ctr2 (V := V_impl_NumOf) (tysB_ok tys_ok) (CallsL.nil _) mixed 0 0 Try.func70 rfl (by kernel_rfl)
    (fun c hc => by
      obtain rfl := Option.some.inj hc
      exact ⟨trivial, ⟨⟨trivial, ⟨⟨trivial, trivial⟩, trivial⟩⟩, ⟨trivial, trivial⟩⟩⟩)
    (fun x K hp hk => ⟨_, by kernel_rfl, vF_impl_NumOf x K hp (fun x h => hk x h)⟩)
theorem vF_spec_NumNext (n : Int) (K : List Arg → List (List AC) → Prop) (hp : 0 ≤ n ∧ n ≤ 100000) (hk : ∀ (x : Int), (x = (n + 1) % 8) → K ([rInt.to x]) ([])) :
((8 : Int) ≠ (0 : Int)) ∧
  ((true = true) ∧
   (K [(aI IntKind.i64 (Int.tmod (IntKind.wrap IntKind.i64 (n + (1 : Int))) (8 : Int)))] [])) := by
  repeat' first
    | exact rfl
    | trivial
    | apply And.intro
    | (intro r hr; subst hr)
    | intro r
    | exact hp
    | (refine iteI (fun h => ?_) (fun h => ?_))
  all_goals first
    | exact hk _ (by grind [Int.tmod_eq_emod_of_nonneg, IntKind.wrap_i64])
    | omega
    | grind [Int.tmod_eq_emod_of_nonneg, IntKind.wrap_i64]
theorem w_spec_NumNext : Valid Try.prog 93 c_spec_NumNext :=
  valid_ctr2 (V := V_spec_NumNext) (tysB_ok tys_ok) (CallsL.nil _) mixed 0 0 Try.func93 rfl (by kernel_rfl)
    (fun c hc => by
      obtain rfl := Option.some.inj hc
      exact ⟨trivial, ⟨trivial, trivial⟩⟩)
    (fun x K hp hk => ⟨_, by kernel_rfl, vF_spec_NumNext x K hp (fun x h => hk x h)⟩)
theorem vF_spec_NumOf (n : Int) (K : List Arg → List (List AC) → Prop) (hp : True) (hk : ∀ (x : Int), (x = if n < 0 then -1 else n % 8) → K ([rInt.to x]) ([])) :
if ((decide (n < (0 : Int))) = true) then
   ((true = true) ∧
   (K [(aI IntKind.i64 (-1 : Int))] []))
  else
   (((8 : Int) ≠ (0 : Int)) ∧
   ((true = true) ∧
    (K [(aI IntKind.i64 (Int.tmod n (8 : Int)))] []))) := by
  repeat' first
    | exact rfl
    | trivial
    | apply And.intro
    | (intro r hr; subst hr)
    | intro r
    | exact hp
    | (refine iteI (fun h => ?_) (fun h => ?_))
  all_goals first
    | exact hk _ (by grind [Int.tmod_eq_emod_of_nonneg, IntKind.wrap_i64])
    | omega
    | grind [Int.tmod_eq_emod_of_nonneg, IntKind.wrap_i64]
theorem w_spec_NumOf : Valid Try.prog 60 c_spec_NumOf :=
  valid_ctr2 (V := V_spec_NumOf) (tysB_ok tys_ok) (CallsL.nil _) mixed 0 0 Try.func60 rfl (by kernel_rfl)
    (fun c hc => by
      obtain rfl := Option.some.inj hc
      exact ⟨trivial, ⟨⟨trivial, ⟨⟨trivial, trivial⟩, trivial⟩⟩, ⟨trivial, trivial⟩⟩⟩)
    (fun x K hp hk => ⟨_, by kernel_rfl, vF_spec_NumOf x K hp (fun x h => hk x h)⟩)
theorem vF_impl_goOrWait (b : Bool) (K : List Arg → List (List AC) → Prop) (hp : True) (hk : ∀ (x : Int), (x = goWait b) → K ([rInt.to x]) ([])) :
if (b = true) then
   ((true = true) ∧
   (K [(aI IntKind.i64 (2 : Int))] []))
  else
   ((true = true) ∧
   (K [(aI IntKind.i64 (0 : Int))] [])) := by
  repeat' first
    | exact rfl
    | trivial
    | apply And.intro
    | (intro r hr; subst hr)
    | intro r
    | exact hp
    | (refine iteI (fun h => ?_) (fun h => ?_))
  all_goals first
    | exact hk _ (by grind [goWait, Int.tmod_eq_emod_of_nonneg, IntKind.wrap_i64])
    | omega
    | grind [goWait, Int.tmod_eq_emod_of_nonneg, IntKind.wrap_i64]
theorem w_impl_goOrWait : Valid Try.prog 57 c_impl_goOrWait :=
  valid_ctr2 (V := V_impl_goOrWait) (tysB_ok tys_ok) (CallsL.nil _) mixed 0 0 Try.func57 rfl (by kernel_rfl)
    (fun c hc => by
      obtain rfl := Option.some.inj hc
      exact ⟨trivial, ⟨⟨trivial, ⟨⟨trivial, trivial⟩, trivial⟩⟩, ⟨trivial, trivial⟩⟩⟩)
    (fun x K hp hk => ⟨_, by kernel_rfl, vF_impl_goOrWait x K hp (fun x h => hk x h)⟩)
theorem vF_impl_RxOk (r : RxS) (K : List Arg → List (List AC) → Prop) (hp : True) (hk : ∀ (v : Bool), (v = decide (RxP r)) → K ([rB.to v]) ([])) :
(true = true) ∧
  (True ∧
   (∀ r1 : Bool,
    (r1 = (decide (((0 : Int) ≤ r.expect) ∧ (r.expect ≤ (7 : Int))))) →
    (true = true) ∧
    ((true = true) ∧
     (if (r1 = true) then
       ((true = true) ∧
       (True ∧
        (∀ r2 : Bool,
         (r2 = (decide (((0 : Int) ≤ r.count) ∧ (r.count ≤ (9999 : Int))))) →
         (true = true) ∧
         ((true = true) ∧
          (if (r2 = true) then
            ((true = true) ∧
            (True ∧
             (∀ r3 : Int,
              (r3 = (if (r.count < (0 : Int)) then (-1 : Int) else (r.count % (8 : Int)))) →
              (true = true) ∧
              ((true = true) ∧
               (if ((r3 == r.expect) = true) then
                 ((true = true) ∧
                 (True ∧
                  (∀ r4 : Bool,
                   (r4 = (decide (JoinP r.join))) →
                   (true = true) ∧
                   ((true = true) ∧
                    ((true = true) ∧
                     (K [(aB r4)] []))))))
                else
                 ((true = true) ∧
                 (K [(aB false)] [])))))))
           else
            ((true = true) ∧
            (K [(aB false)] [])))))))
      else
       ((true = true) ∧
       (K [(aB false)] [])))))) := by
  repeat' first
    | exact rfl
    | trivial
    | apply And.intro
    | (intro r hr; subst hr)
    | intro r
    | exact hp
    | (refine iteI (fun h => ?_) (fun h => ?_))
  all_goals first
    | exact hk _ (by grind [RxP, JoinP, IntKind.wrap_i64])
    | omega
    | grind [RxP, JoinP, IntKind.wrap_i64]
theorem w_impl_RxOk : Valid Try.prog 25 c_impl_RxOk :=
  valid_ctr2 (V := V_impl_RxOk) (tysB_ok tys_ok) (CallsL.cons w_impl_isNumber (CallsL.cons w_impl_in (CallsL.cons w_impl_NumOf (CallsL.cons w_impl_JoinOk (CallsL.nil _))))) mixed 0 1 Try.func25 rfl (by kernel_rfl)
    (fun c hc => by
      obtain rfl := Option.some.inj hc
      exact ⟨trivial, ⟨trivial, trivial⟩⟩)
    (fun x K hp hk => ⟨_, by kernel_rfl, vF_impl_RxOk x K hp (fun v h => hk v h)⟩)
theorem vF_spec_RxOk (r : RxS) (K : List Arg → List (List AC) → Prop) (hp : True) (hk : ∀ (v : Bool), (v = decide (RxP r)) → K ([rB.to v]) ([])) :
(true = true) ∧
  (True ∧
   (∀ r1 : Bool,
    (r1 = (decide (((0 : Int) ≤ r.expect) ∧ (r.expect ≤ (7 : Int))))) →
    (true = true) ∧
    ((true = true) ∧
     (if (r1 = true) then
       ((true = true) ∧
       (True ∧
        (∀ r2 : Bool,
         (r2 = (decide (((0 : Int) ≤ r.count) ∧ (r.count ≤ (9999 : Int))))) →
         (true = true) ∧
         ((true = true) ∧
          (if (r2 = true) then
            ((true = true) ∧
            (True ∧
             (∀ r3 : Int,
              (r3 = (if (r.count < (0 : Int)) then (-1 : Int) else (r.count % (8 : Int)))) →
              (true = true) ∧
              ((true = true) ∧
               (if ((r3 == r.expect) = true) then
                 ((true = true) ∧
                 (True ∧
                  (∀ r4 : Bool,
                   (r4 = (decide (JoinP r.join))) →
                   (true = true) ∧
                   ((true = true) ∧
                    ((true = true) ∧
                     (K [(aB r4)] []))))))
                else
                 ((true = true) ∧
                 (K [(aB false)] [])))))))
           else
            ((true = true) ∧
            (K [(aB false)] [])))))))
      else
       ((true = true) ∧
       (K [(aB false)] [])))))) := by
  repeat' first
    | exact rfl
    | trivial
    | apply And.intro
    | (intro r hr; subst hr)
    | intro r
    | exact hp
    | (refine iteI (fun h => ?_) (fun h => ?_))
  all_goals first
    | exact hk _ (by grind [RxP, JoinP, IntKind.wrap_i64])
    | omega
    | grind [RxP, JoinP, IntKind.wrap_i64]
theorem w_spec_RxOk : Valid Try.prog 17 c_spec_RxOk :=
  valid_ctr2 (V := V_spec_RxOk) (tysB_ok tys_ok) (CallsL.cons w_spec_l1In (CallsL.cons w_spec_NumOf (CallsL.cons w_spec_JoinOk (CallsL.nil _)))) mixed 0 1 Try.func17 rfl (by kernel_rfl)
    (fun c hc => by
      obtain rfl := Option.some.inj hc
      exact ⟨trivial, ⟨trivial, trivial⟩⟩)
    (fun x K hp hk => ⟨_, by kernel_rfl, vF_spec_RxOk x K hp (fun v h => hk v h)⟩)
theorem vF_impl_RxState_say (r : RxS) (w : Int) (f : Bool) (K : List Arg → List (List AC) → Prop) (hp : True) (hk : ∀ (g : Frm), (g = sayF r w f) → K ([rFrm.to g]) ([])) :
(true = true) ∧
  (K [(Arg.v true [(AC.d (D.i IntKind.i64 (2 : Int))), (AC.d (D.i IntKind.i64 (0 : Int))), (AC.d (D.i IntKind.i64 r.expect)), (AC.d (D.b false)), (AC.d (D.b f)), (AC.d (D.i IntKind.i64 w)), (AC.d (D.i IntKind.i64 (0 : Int))), (AC.d (D.i IntKind.i64 (0 : Int))), (AC.d (D.r RK.u8 ([] : (List Int))))])] []) := by
  exact ⟨by trivial, hk _ rfl⟩
theorem w_impl_RxState_say : Valid Try.prog 56 c_impl_RxState_say :=
  valid_ctr2 (V := V_impl_RxState_say) (tysB_ok tys_ok) (CallsL.nil _) mixed 0 2 Try.func56 rfl (by kernel_rfl)
    (fun c hc => by
      obtain rfl := Option.some.inj hc
      exact ⟨trivial, ⟨trivial, trivial⟩⟩)
    (fun x K hp hk => ⟨_, by kernel_rfl, vF_impl_RxState_say x.1 x.2.1 x.2.2 K hp (fun g h => hk g h)⟩)
theorem vF_spec_l7Say (r : RxS) (f : Bool) (K : List Arg → List (List AC) → Prop) (hp : True) (hk : ∀ (g : Frm), (g = sayF r (goWait r.busy) f) → K ([rFrm.to g]) ([])) :
if (r.busy = true) then
   ((true = true) ∧
   (K [(Arg.v true [(AC.d (D.i IntKind.i64 (2 : Int))), (AC.d (D.i IntKind.i64 (0 : Int))), (AC.d (D.i IntKind.i64 r.expect)), (AC.d (D.b false)), (AC.d (D.b f)), (AC.d (D.i IntKind.i64 (2 : Int))), (AC.d (D.i IntKind.i64 (0 : Int))), (AC.d (D.i IntKind.i64 (0 : Int))), (AC.d (D.r RK.u8 ([] : (List Int))))])] []))
  else
   ((true = true) ∧
   (K [(Arg.v true [(AC.d (D.i IntKind.i64 (2 : Int))), (AC.d (D.i IntKind.i64 (0 : Int))), (AC.d (D.i IntKind.i64 r.expect)), (AC.d (D.b false)), (AC.d (D.b f)), (AC.d (D.i IntKind.i64 (0 : Int))), (AC.d (D.i IntKind.i64 (0 : Int))), (AC.d (D.i IntKind.i64 (0 : Int))), (AC.d (D.r RK.u8 ([] : (List Int))))])] [])) := by
  refine iteI (fun h => ?_) (fun h => ?_)
  · have e : goWait r.busy = 2 := by simp [goWait, h]
    have h := hk _ rfl; rw [e] at h; exact ⟨by trivial, h⟩
  · have e : goWait r.busy = 0 := by simp [goWait, h]
    have h := hk _ rfl; rw [e] at h; exact ⟨by trivial, h⟩
theorem w_spec_l7Say : Valid Try.prog 58 c_spec_l7Say :=
  valid_ctr2 (V := V_spec_l7Say) (tysB_ok tys_ok) (CallsL.nil _) mixed 0 3 Try.func58 rfl (by kernel_rfl)
    (fun c hc => by
      obtain rfl := Option.some.inj hc
      exact ⟨trivial, ⟨trivial, ⟨⟨trivial, ⟨trivial, trivial⟩⟩, ⟨trivial, trivial⟩⟩⟩⟩)
    (fun x K hp hk => ⟨_, by kernel_rfl, vF_spec_l7Say x.1 x.2 K hp (fun g h => hk g h)⟩)
end Go.Proofs.YtjladmhjpikdhaaE

/- Calls answer what is promised: H. Conditions: none. -/
set_option linter.unusedVariables false
set_option maxHeartbeats 4000000
namespace Go.Proofs.YtjladmhjpikdhaaE
open Go
theorem vF_laws_liBytes (a : List Int) (b : List Int) (K : List Arg → List (List AC) → Prop) (hp : a.length ≤ LIM ∧ True) (hk : ∀ (r : Bool), (r = decide (a = b)) → K ([rB.to r]) ([])) :
if (((((List.length a) : Nat) : Int) != (((List.length b) : Nat) : Int)) = true) then
   ((true = true) ∧
   (K [(aB false)] []))
  else
   (∃ s : (Prod (List Int) (Prod (List Int) Int)),
   ((St.mk (mkSlots 26 [(0, (T.v false [(Cm.d (D.r RK.u8 a))])), (1, (T.v false [(Cm.d (D.r RK.u8 b))])), (5, (num IntKind.i64 (0 : Int)))]) [] []) = (St.mk (mkSlots 26 [(0, (T.v false [(Cm.d (D.r RK.u8 s.fst))])), (1, (T.v false [(Cm.d (D.r RK.u8 s.snd.fst))])), (5, (num IntKind.i64 s.snd.snd))]) [] [])) ∧
   ((((List.length s.fst) = (List.length s.snd.fst)) ∧
     ((s.snd.snd = (0 : Int)) ∧
      (((List.length s.fst) ≤ (137438953472 : Nat)) ∧
       True))) ∧
    ((∀ r : Unit,
      (s.fst = s.snd.fst) →
      (true = true) ∧
      (K [(aB true)] [])) ∧
     (∀ r : Unit,
      (s.fst ≠ s.snd.fst) →
      (true = true) ∧
      (K [(aB false)] []))))) := by
  refine iteI (fun h => ?_) (fun h => ?_)
  · refine ⟨by trivial, hk false ?_⟩
    symm; rw [decide_eq_false_iff_not]; rintro rfl; simp at h
  · have h1 : a.length = b.length := by simp at h; omega
    refine ⟨(a, b, 0), rfl, ⟨h1, rfl, hp.1, hp.2⟩, fun _ hr => ⟨by trivial, hk true (by simp; exact hr)⟩, fun _ hr => ⟨by trivial, hk false (by simp; exact hr)⟩⟩
theorem vL_laws_liBytes_0 (a0 : List Int) (b0 : List Int) (i0 : Int) (a : List Int) (b : List Int) (i : Int) (n : Nat) (hp : (fun (a : List Int) (b : List Int) (i : Int) => (a.length = b.length ∧ i = 0 ∧ a.length ≤ LIM ∧ True)) a0 b0 i0) (hi : a = a0 ∧ b = b0 ∧ a.length = b.length ∧ a.length ≤ LIM ∧ (True) ∧ 0 ≤ i ∧ i + n = a.length ∧ a.take i.toNat = b.take i.toNat) :
if ((decide (i < (((List.length a) : Nat) : Int))) = true) then
   ((((0 : Int) ≤ i) ∧
    (i < (((List.length a) : Nat) : Int))) ∧
   ((((0 : Int) ≤ i) ∧
     (i < (((List.length b) : Nat) : Int))) ∧
    (if (((at_u8 a (Int.toNat i)) != (at_u8 b (Int.toNat i))) = true) then
      (∃ r : Unit,
      ((St.mk (mkSlots 26 [(4, (boo false))]) [] []) = (St.mk (mkSlots 26 [(4, (boo false))]) [] [])) ∧
      (a0 ≠ b0))
     else
      (∃ s : (Prod (List Int) (Prod (List Int) Int)),
      ((St.mk (mkSlots 26 [(0, (T.v false [(Cm.d (D.r RK.u8 a))])), (1, (T.v false [(Cm.d (D.r RK.u8 b))])), (5, (num IntKind.i64 (IntKind.wrap IntKind.i64 (i + (1 : Int)))))]) [] []) = (St.mk (mkSlots 26 [(0, (T.v false [(Cm.d (D.r RK.u8 s.fst))])), (1, (T.v false [(Cm.d (D.r RK.u8 s.snd.fst))])), (5, (num IntKind.i64 s.snd.snd))]) [] [])) ∧
      (∃ m : Nat,
       (m < n) ∧
       ((s.fst = a0) ∧
        ((s.snd.fst = b0) ∧
         (((List.length s.fst) = (List.length s.snd.fst)) ∧
          (((List.length s.fst) ≤ (137438953472 : Nat)) ∧
           (True ∧
            (((0 : Int) ≤ s.snd.snd) ∧
             (((s.snd.snd + ((m : Nat) : Int)) = (((List.length s.fst) : Nat) : Int)) ∧
              ((List.take (Int.toNat s.snd.snd) s.fst) = (List.take (Int.toNat s.snd.snd) s.snd.fst))))))))))))))
  else
   (∃ r : Unit,
   ((St.mk (mkSlots 26 []) [] []) = (St.mk (mkSlots 26 []) [] [])) ∧
   (a0 = b0)) := by
  try dsimp only at hp
  obtain ⟨rfl, rfl, h1, h2, hw, h3, h4, h5⟩ := hi
  have hL : a.length ≤ 137438953472 := h2
  obtain ⟨i, rfl⟩ : ∃ m : Nat, i = m := ⟨i.toNat, by omega⟩
  rw [wr (x := (i : Int) + 1) (by omega) (by omega)]
  simp only [Int.toNat_natCast] at h5 ⊢
  refine iteI (fun h => ?_) (fun h => ?_)
  · have hi : i < a.length := by simp at h; omega
    refine ⟨⟨by omega, by omega⟩, ⟨by omega, by omega⟩, ?_⟩
    have ea : a.take (i + 1) = a.take i ++ [at_u8 a i] := take_at .u8 a i hi
    have eb : b.take (i + 1) = b.take i ++ [at_u8 b i] := take_at .u8 b i (show i < b.length by omega)
    
    refine iteI (fun hx => ?_) (fun hx => ?_)
    · refine ⟨(), by trivial, fun he => ?_⟩
      simp [he] at hx
    · refine ⟨(a, b, (i : Int) + 1), rfl, n - 1, by omega, rfl, rfl, h1, h2, hw, by dsimp only; omega, by dsimp only; omega, ?_⟩
      dsimp only
      rw [show ((i : Int) + 1).toNat = i + 1 by omega, ea, eb, h5]
      simp at hx
      exact congrArg (fun z => List.take i b ++ [z]) hx
  · have hi : i = a.length := by simp at h; omega
    subst hi
    refine ⟨(), by trivial, ?_⟩
    rw [List.take_length, h1, List.take_length] at h5
    exact h5
theorem vS_laws_liBytes_0 (a0 : List Int) (b0 : List Int) (i0 : Int) (hp : (fun (a : List Int) (b : List Int) (i : Int) => (a.length = b.length ∧ i = 0 ∧ a.length ≤ LIM ∧ True)) a0 b0 i0) : ∃ n : Nat, (fun (a : List Int) (b : List Int) (i : Int) => (a = a0 ∧ b = b0 ∧ a.length = b.length ∧ a.length ≤ LIM ∧ (True) ∧ 0 ≤ i ∧ i + n = a.length ∧ a.take i.toNat = b.take i.toNat)) a0 b0 i0 := by
  try dsimp only at hp
  try dsimp only
  obtain ⟨h1, h2, h3, hw⟩ := hp
  exact ⟨a0.length, rfl, rfl, h1, h3, hw, by omega, by omega, by subst h2; simp⟩
theorem w_laws_liBytes : Valid Try.prog 53 c_laws_liBytes :=
  valid_ctr2 (V := V_laws_liBytes) (tysB_ok tys_ok) (CallsL.nil _) mixed 0 0 Try.func53 rfl (by kernel_rfl)
    (fun c hc => by
      obtain rfl := Option.some.inj hc
      exact ⟨trivial, ⟨⟨trivial, ⟨⟨trivial, trivial⟩, trivial⟩⟩, ⟨⟨trivial, ⟨LoopD.ok2 (V := V_laws_liBytes) l_laws_liBytes_0 (LoopsM.cons 0 l_laws_liBytes_0 LoopsM.nil) 0 _ i_laws_liBytes_0 (fun x hx => vS_laws_liBytes_0 x.1 x.2.1 x.2.2 hx) (fun x hx n s hi => ⟨_, by kernel_rfl, vL_laws_liBytes_0 x.1 x.2.1 x.2.2 s.1 s.2.1 s.2.2 n hx hi⟩), ⟨⟨trivial, ⟨trivial, trivial⟩⟩, ⟨⟨trivial, ⟨⟨trivial, trivial⟩, trivial⟩⟩, trivial⟩⟩⟩⟩, ⟨trivial, trivial⟩⟩⟩⟩)
    (fun x K hp hk => ⟨_, by kernel_rfl, vF_laws_liBytes x.1 x.2 K hp (fun r h => hk r h)⟩)
theorem vF_laws_liJoin (a : JoinS) (b : JoinS) (K : List Arg → List (List AC) → Prop) (hp : a.got.length ≤ LIM) (hk : ∀ (r : Bool), (r = decide (a = b)) → K ([rB.to r]) ([])) :
if ((a.len == b.len) = true) then
   ((true = true) ∧
   ((((List.length a.got) ≤ (137438953472 : Nat)) ∧
     True) ∧
    (∀ r : Bool,
     (r = (decide (a.got = b.got))) →
     (true = true) ∧
     ((true = true) ∧
      (K [(aB r)] [])))))
  else
   ((true = true) ∧
   (K [(aB false)] [])) := by
  obtain ⟨_, _⟩ := a
  obtain ⟨_, _⟩ := b

  repeat' first
    | exact rfl
    | trivial
    | apply And.intro
    | (intro r hr; subst hr)
    | intro r
    | exact hp
    | (refine iteI (fun h => ?_) (fun h => ?_))
  all_goals first
    | exact ⟨hp, trivial⟩
    | exact hk _ (by grind [IntKind.wrap_i64])
    | omega
    | (simp only [LIM] at *; omega)
    | grind [IntKind.wrap_i64]
theorem w_laws_liJoin : Valid Try.prog 26 c_laws_liJoin :=
  valid_ctr2 (V := V_laws_liJoin) (tysB_ok tys_ok) (CallsL.cons w_laws_liBytes (CallsL.nil _)) mixed 0 2 Try.func26 rfl (by kernel_rfl)
    (fun c hc => by
      obtain rfl := Option.some.inj hc
      exact ⟨trivial, ⟨trivial, trivial⟩⟩)
    (fun x K hp hk => ⟨_, by kernel_rfl, vF_laws_liJoin x.1 x.2 K hp (fun r h => hk r h)⟩)
theorem vF_laws_liRx (a : RxS) (b : RxS) (K : List Arg → List (List AC) → Prop) (hp : a.join.got.length ≤ LIM) (hk : ∀ (r : Bool), (r = decide (a = b)) → K ([rB.to r]) ([])) :
if ((a.expect == b.expect) = true) then
   (if ((a.count == b.count) = true) then
    ((true = true) ∧
    (((List.length a.join.got) ≤ (137438953472 : Nat)) ∧
     (∀ r : Bool,
      (r = (decide (a.join = b.join))) →
      (true = true) ∧
      (if (r = true) then
        (if ((a.again == b.again) = true) then
         (if ((a.busy == b.busy) = true) then
          ((true = true) ∧
          (K [(aB (a.dead == b.dead))] []))
         else
          ((true = true) ∧
          (K [(aB false)] [])))
        else
         ((true = true) ∧
         (K [(aB false)] [])))
       else
        ((true = true) ∧
        (K [(aB false)] []))))))
   else
    ((true = true) ∧
    (K [(aB false)] [])))
  else
   ((true = true) ∧
   (K [(aB false)] [])) := by
  obtain ⟨_, _, ⟨_, _⟩, _, _, _⟩ := a
  obtain ⟨_, _, ⟨_, _⟩, _, _, _⟩ := b

  repeat' first
    | exact rfl
    | trivial
    | apply And.intro
    | (intro r hr; subst hr)
    | intro r
    | exact hp
    | (refine iteI (fun h => ?_) (fun h => ?_))
  all_goals first
    | exact hk _ (by grind [IntKind.wrap_i64])
    | omega
    | (simp only [LIM] at *; omega)
    | grind [IntKind.wrap_i64]
theorem w_laws_liRx : Valid Try.prog 23 c_laws_liRx :=
  valid_ctr2 (V := V_laws_liRx) (tysB_ok tys_ok) (CallsL.cons w_laws_liJoin (CallsL.nil _)) mixed 0 2 Try.func23 rfl (by kernel_rfl)
    (fun c hc => by
      obtain rfl := Option.some.inj hc
      exact ⟨trivial, ⟨trivial, trivial⟩⟩)
    (fun x K hp hk => ⟨_, by kernel_rfl, vF_laws_liRx x.1 x.2 K hp (fun r h => hk r h)⟩)
theorem vF_laws_liFrame (a : Frm) (b : Frm) (K : List Arg → List (List AC) → Prop) (hp : a.data.length ≤ LIM) (hk : ∀ (r : Bool), (r = decide (a = b)) → K ([rB.to r]) ([])) :
if ((a.kind == b.kind) = true) then
   (if ((a.seq == b.seq) = true) then
    (if ((a.ack == b.ack) = true) then
     (if ((a.poll == b.poll) = true) then
      (if ((a.final == b.final) = true) then
       (if ((a.say == b.say) = true) then
        (if ((a.seg == b.seg) = true) then
         (if ((a.len == b.len) = true) then
          ((true = true) ∧
          ((((List.length a.data) ≤ (137438953472 : Nat)) ∧
            True) ∧
           (∀ r : Bool,
            (r = (decide (a.data = b.data))) →
            (true = true) ∧
            ((true = true) ∧
             (K [(aB r)] [])))))
         else
          ((true = true) ∧
          (K [(aB false)] [])))
        else
         ((true = true) ∧
         (K [(aB false)] [])))
       else
        ((true = true) ∧
        (K [(aB false)] [])))
      else
       ((true = true) ∧
       (K [(aB false)] [])))
     else
      ((true = true) ∧
      (K [(aB false)] [])))
    else
     ((true = true) ∧
     (K [(aB false)] [])))
   else
    ((true = true) ∧
    (K [(aB false)] [])))
  else
   ((true = true) ∧
   (K [(aB false)] [])) := by
  obtain ⟨_, _, _, _, _, _, _, _, _⟩ := a
  obtain ⟨_, _, _, _, _, _, _, _, _⟩ := b

  repeat' first
    | exact rfl
    | trivial
    | apply And.intro
    | (intro r hr; subst hr)
    | intro r
    | exact hp
    | (refine iteI (fun h => ?_) (fun h => ?_))
  all_goals first
    | exact ⟨hp, trivial⟩
    | exact hk _ (by grind [IntKind.wrap_i64])
    | omega
    | (simp only [LIM] at *; omega)
    | grind [IntKind.wrap_i64]
theorem w_laws_liFrame : Valid Try.prog 15 c_laws_liFrame :=
  valid_ctr2 (V := V_laws_liFrame) (tysB_ok tys_ok) (CallsL.cons w_laws_liBytes (CallsL.nil _)) mixed 0 2 Try.func15 rfl (by kernel_rfl)
    (fun c hc => by
      obtain rfl := Option.some.inj hc
      exact ⟨trivial, ⟨trivial, trivial⟩⟩)
    (fun x K hp hk => ⟨_, by kernel_rfl, vF_laws_liFrame x.1 x.2 K hp (fun r h => hk r h)⟩)
theorem vF_laws_liFrames (a : List Frm) (b : List Frm) (K : List Arg → List (List AC) → Prop) (hp : a.length ≤ LIM ∧ ∀ y ∈ a, y.data.length ≤ LIM) (hk : ∀ (r : Bool), (r = decide (a = b)) → K ([rB.to r]) ([])) :
if (((((List.length a) : Nat) : Int) != (((List.length b) : Nat) : Int)) = true) then
   ((true = true) ∧
   (K [(aB false)] []))
  else
   (∃ s : (Prod (List Frm) (Prod (List Frm) Int)),
   ((St.mk (mkSlots 27 [(0, (T.v false [(Cm.d (D.r RK.frm a))])), (1, (T.v false [(Cm.d (D.r RK.frm b))])), (5, (num IntKind.i64 (0 : Int)))]) [] []) = (St.mk (mkSlots 27 [(0, (T.v false [(Cm.d (D.r RK.frm s.fst))])), (1, (T.v false [(Cm.d (D.r RK.frm s.snd.fst))])), (5, (num IntKind.i64 s.snd.snd))]) [] [])) ∧
   ((((List.length s.fst) = (List.length s.snd.fst)) ∧
     ((s.snd.snd = (0 : Int)) ∧
      (((List.length s.fst) ≤ (137438953472 : Nat)) ∧
       (∀ y : Frm,
        (List.Mem y s.fst) →
        ((List.length y.data) ≤ (137438953472 : Nat)))))) ∧
    ((∀ r : Unit,
      (s.fst = s.snd.fst) →
      (true = true) ∧
      (K [(aB true)] [])) ∧
     (∀ r : Unit,
      (s.fst ≠ s.snd.fst) →
      (true = true) ∧
      (K [(aB false)] []))))) := by
  refine iteI (fun h => ?_) (fun h => ?_)
  · refine ⟨by trivial, hk false ?_⟩
    symm; rw [decide_eq_false_iff_not]; rintro rfl; simp at h
  · have h1 : a.length = b.length := by simp at h; omega
    refine ⟨(a, b, 0), rfl, ⟨h1, rfl, hp.1, hp.2⟩, fun _ hr => ⟨by trivial, hk true (by simp; exact hr)⟩, fun _ hr => ⟨by trivial, hk false (by simp; exact hr)⟩⟩
theorem vL_laws_liFrames_0 (a0 : List Frm) (b0 : List Frm) (i0 : Int) (a : List Frm) (b : List Frm) (i : Int) (n : Nat) (hp : (fun (a : List Frm) (b : List Frm) (i : Int) => (a.length = b.length ∧ i = 0 ∧ a.length ≤ LIM ∧ ∀ y ∈ a, y.data.length ≤ LIM)) a0 b0 i0) (hi : a = a0 ∧ b = b0 ∧ a.length = b.length ∧ a.length ≤ LIM ∧ (∀ y ∈ a, y.data.length ≤ LIM) ∧ 0 ≤ i ∧ i + n = a.length ∧ a.take i.toNat = b.take i.toNat) :
if ((decide (i < (((List.length a) : Nat) : Int))) = true) then
   ((((0 : Int) ≤ i) ∧
    (i < (((List.length a) : Nat) : Int))) ∧
   ((((0 : Int) ≤ i) ∧
     (i < (((List.length b) : Nat) : Int))) ∧
    ((true = true) ∧
     (((List.length (at_frm a (Int.toNat i)).data) ≤ (137438953472 : Nat)) ∧
      (∀ r : Bool,
       (r = (decide ((at_frm a (Int.toNat i)) = (at_frm b (Int.toNat i))))) →
       (true = true) ∧
       ((true = true) ∧
        (if ((!r) = true) then
          (∃ r1 : Unit,
          ((St.mk (mkSlots 27 [(4, (boo false))]) [] []) = (St.mk (mkSlots 27 [(4, (boo false))]) [] [])) ∧
          (a0 ≠ b0))
         else
          (∃ s : (Prod (List Frm) (Prod (List Frm) Int)),
          ((St.mk (mkSlots 27 [(0, (T.v false [(Cm.d (D.r RK.frm a))])), (1, (T.v false [(Cm.d (D.r RK.frm b))])), (5, (num IntKind.i64 (IntKind.wrap IntKind.i64 (i + (1 : Int)))))]) [] []) = (St.mk (mkSlots 27 [(0, (T.v false [(Cm.d (D.r RK.frm s.fst))])), (1, (T.v false [(Cm.d (D.r RK.frm s.snd.fst))])), (5, (num IntKind.i64 s.snd.snd))]) [] [])) ∧
          (∃ m : Nat,
           (m < n) ∧
           ((s.fst = a0) ∧
            ((s.snd.fst = b0) ∧
             (((List.length s.fst) = (List.length s.snd.fst)) ∧
              (((List.length s.fst) ≤ (137438953472 : Nat)) ∧
               ((∀ y : Frm,
                 (List.Mem y s.fst) →
                 ((List.length y.data) ≤ (137438953472 : Nat))) ∧
                (((0 : Int) ≤ s.snd.snd) ∧
                 (((s.snd.snd + ((m : Nat) : Int)) = (((List.length s.fst) : Nat) : Int)) ∧
                  ((List.take (Int.toNat s.snd.snd) s.fst) = (List.take (Int.toNat s.snd.snd) s.snd.fst))))))))))))))))))
  else
   (∃ r : Unit,
   ((St.mk (mkSlots 27 []) [] []) = (St.mk (mkSlots 27 []) [] [])) ∧
   (a0 = b0)) := by
  try dsimp only at hp
  obtain ⟨rfl, rfl, h1, h2, hw, h3, h4, h5⟩ := hi
  have hL : a.length ≤ 137438953472 := h2
  obtain ⟨i, rfl⟩ : ∃ m : Nat, i = m := ⟨i.toNat, by omega⟩
  rw [wr (x := (i : Int) + 1) (by omega) (by omega)]
  simp only [Int.toNat_natCast] at h5 ⊢
  refine iteI (fun h => ?_) (fun h => ?_)
  · have hi : i < a.length := by simp at h; omega
    refine ⟨⟨by omega, by omega⟩, ⟨by omega, by omega⟩, by trivial, ?_⟩
    have ea : a.take (i + 1) = a.take i ++ [at_frm a i] := take_at .frm a i hi
    have eb : b.take (i + 1) = b.take i ++ [at_frm b i] := take_at .frm b i (show i < b.length by omega)
    refine ⟨hw _ (at_mem .frm a i hi), fun r hr => ?_⟩
    subst hr
    repeat refine ⟨by trivial, ?_⟩
    refine iteI (fun hx => ?_) (fun hx => ?_)
    · refine ⟨(), by trivial, fun he => ?_⟩
      simp [he] at hx
    · refine ⟨(a, b, (i : Int) + 1), rfl, n - 1, by omega, rfl, rfl, h1, h2, hw, by dsimp only; omega, by dsimp only; omega, ?_⟩
      dsimp only
      rw [show ((i : Int) + 1).toNat = i + 1 by omega, ea, eb, h5]
      simp at hx
      exact congrArg (fun z => List.take i b ++ [z]) hx
  · have hi : i = a.length := by simp at h; omega
    subst hi
    refine ⟨(), by trivial, ?_⟩
    rw [List.take_length, h1, List.take_length] at h5
    exact h5
theorem vS_laws_liFrames_0 (a0 : List Frm) (b0 : List Frm) (i0 : Int) (hp : (fun (a : List Frm) (b : List Frm) (i : Int) => (a.length = b.length ∧ i = 0 ∧ a.length ≤ LIM ∧ ∀ y ∈ a, y.data.length ≤ LIM)) a0 b0 i0) : ∃ n : Nat, (fun (a : List Frm) (b : List Frm) (i : Int) => (a = a0 ∧ b = b0 ∧ a.length = b.length ∧ a.length ≤ LIM ∧ (∀ y ∈ a, y.data.length ≤ LIM) ∧ 0 ≤ i ∧ i + n = a.length ∧ a.take i.toNat = b.take i.toNat)) a0 b0 i0 := by
  try dsimp only at hp
  try dsimp only
  obtain ⟨h1, h2, h3, hw⟩ := hp
  exact ⟨a0.length, rfl, rfl, h1, h3, hw, by omega, by omega, by subst h2; simp⟩
theorem w_laws_liFrames : Valid Try.prog 24 c_laws_liFrames :=
  valid_ctr2 (V := V_laws_liFrames) (tysB_ok tys_ok) (CallsL.cons w_laws_liFrame (CallsL.nil _)) mixed 0 0 Try.func24 rfl (by kernel_rfl)
    (fun c hc => by
      obtain rfl := Option.some.inj hc
      exact ⟨trivial, ⟨⟨trivial, ⟨⟨trivial, trivial⟩, trivial⟩⟩, ⟨⟨trivial, ⟨LoopD.ok2 (V := V_laws_liFrames) l_laws_liFrames_0 (LoopsM.cons 0 l_laws_liFrames_0 LoopsM.nil) 0 _ i_laws_liFrames_0 (fun x hx => vS_laws_liFrames_0 x.1 x.2.1 x.2.2 hx) (fun x hx n s hi => ⟨_, by kernel_rfl, vL_laws_liFrames_0 x.1 x.2.1 x.2.2 s.1 s.2.1 s.2.2 n hx hi⟩), ⟨⟨trivial, ⟨trivial, trivial⟩⟩, ⟨⟨trivial, ⟨⟨trivial, trivial⟩, trivial⟩⟩, trivial⟩⟩⟩⟩, ⟨trivial, trivial⟩⟩⟩⟩)
    (fun x K hp hk => ⟨_, by kernel_rfl, vF_laws_liFrames x.1 x.2 K hp (fun r h => hk r h)⟩)
theorem vF_laws_liOk  (K : List Arg → List (List AC) → Prop) (hp : True) (hk : ∀ (r : Bool), (r = true) → K ([rB.to r]) ([])) :
(true = true) ∧
  (True ∧
   (∀ r : Bool,
    (r = true) →
    (true = true) ∧
    ((true = true) ∧
     (K [(aB r)] [])))) := by
  exact ⟨by trivial, trivial, fun r hr => ⟨by trivial, by trivial, hk r hr⟩⟩
theorem w_laws_liOk : Valid Try.prog 18 c_laws_liOk :=
  valid_ctr2 (V := V_laws_liOk) (tysB_ok tys_ok) (CallsL.cons w_impl_CfgOk (CallsL.nil _)) mixed 0 0 Try.func18 rfl (by kernel_rfl)
    (fun c hc => by
      obtain rfl := Option.some.inj hc
      exact ⟨trivial, ⟨trivial, trivial⟩⟩)
    (fun x K hp hk => ⟨_, by kernel_rfl, vF_laws_liOk  K hp (fun r h => hk r h)⟩)
theorem vF_impl_RxState_copyOf (r : RxS) (K : List Arg → List (List AC) → Prop) (hp : r.join.got.length ≤ LIM) (hk : ∀ (x : RxS), (x = r) → K ([rRx.to x]) ([])) :
(true = true) ∧
  (((List.length r.join.got) ≤ (137438953472 : Nat)) ∧
   (∀ r1 : (List Int),
    (r1 = r.join.got) →
    (true = true) ∧
    ((true = true) ∧
     (K [(Arg.v true [(AC.d (D.i IntKind.i64 r.expect)), (AC.d (D.i IntKind.i64 r.count)), (AC.d (D.i IntKind.i64 r.join.len)), (AC.d (D.r RK.u8 r1)), (AC.d (D.b r.again)), (AC.d (D.b r.busy)), (AC.d (D.b r.dead))])] [])))) := by
  repeat' first
    | exact rfl
    | trivial
    | apply And.intro
    | (intro r hr; subst hr)
    | intro r
    | exact hp
    | (refine iteI (fun h => ?_) (fun h => ?_))
  all_goals first
    | exact hk r rfl
    | exact hk _ (by grind [IntKind.wrap_i64])
    | omega
    | (simp only [LIM] at *; omega)
    | grind [IntKind.wrap_i64]
theorem w_impl_RxState_copyOf : Valid Try.prog 68 c_impl_RxState_copyOf :=
  valid_ctr2 (V := V_impl_RxState_copyOf) (tysB_ok tys_ok) (CallsL.cons w_impl_clone_byte (CallsL.nil _)) mixed 0 2 Try.func68 rfl (by kernel_rfl)
    (fun c hc => by
      obtain rfl := Option.some.inj hc
      exact ⟨trivial, ⟨trivial, ⟨trivial, trivial⟩⟩⟩)
    (fun x K hp hk => ⟨_, by kernel_rfl, vF_impl_RxState_copyOf x K hp (fun x h => hk x h)⟩)
theorem vF_spec_l7Copy (r : RxS) (K : List Arg → List (List AC) → Prop) (hp : r.join.got.length ≤ LIM) (hk : ∀ (x : RxS), (x = r) → K ([rRx.to x]) ([])) :
(((0 : Nat) + (List.length r.join.got)) ≤ (137438953472 : Nat)) ∧
  ((true = true) ∧
   (K [(Arg.v true [(AC.d (D.i IntKind.i64 r.expect)), (AC.d (D.i IntKind.i64 r.count)), (AC.d (D.i IntKind.i64 r.join.len)), (AC.d (D.r RK.u8 (([] : (List Int)) ++ r.join.got : (List Int)))), (AC.d (D.b r.again)), (AC.d (D.b r.busy)), (AC.d (D.b r.dead))])] [])) := by
  repeat' first
    | exact rfl
    | trivial
    | apply And.intro
    | (intro r hr; subst hr)
    | intro r
    | exact hp
    | (refine iteI (fun h => ?_) (fun h => ?_))
  all_goals first
    | exact hk r rfl
    | exact hk _ (by grind [IntKind.wrap_i64])
    | omega
    | (simp only [LIM] at *; omega)
    | grind [IntKind.wrap_i64]
theorem w_spec_l7Copy : Valid Try.prog 69 c_spec_l7Copy :=
  valid_ctr2 (V := V_spec_l7Copy) (tysB_ok tys_ok) (CallsL.nil _) mixed 1 3 Try.func69 rfl (by kernel_rfl)
    (fun c hc => by
      obtain rfl := Option.some.inj hc
      exact ⟨trivial, ⟨trivial, ⟨trivial, ⟨trivial, trivial⟩⟩⟩⟩)
    (fun x K hp hk => ⟨_, by kernel_rfl, vF_spec_l7Copy x K hp (fun x h => hk x h)⟩)
theorem vF_impl_RxAck (r : RxS) (K : List Arg → List (List AC) → Prop) (hp : True) (hk : ∀ (f : Frm), (f = rxAck r) → K ([rFrm.to f]) ([])) :
(true = true) ∧
  (True ∧
   (∀ r1 : Bool,
    (r1 = (decide (RxP r))) →
    (true = true) ∧
    (if ((!r1) = true) then
      ((true = true) ∧
      (K [(Arg.v true [(AC.d (D.i IntKind.i64 (0 : Int))), (AC.d (D.i IntKind.i64 (0 : Int))), (AC.d (D.i IntKind.i64 (0 : Int))), (AC.d (D.b false)), (AC.d (D.b false)), (AC.d (D.i IntKind.i64 (0 : Int))), (AC.d (D.i IntKind.i64 (0 : Int))), (AC.d (D.i IntKind.i64 (0 : Int))), (AC.d (D.r RK.u8 ([] : (List Int))))])] []))
     else
      ((true = true) ∧
      (True ∧
       (∀ r2 : Int,
        (r2 = (goWait r.busy)) →
        (true = true) ∧
        ((true = true) ∧
         ((true = true) ∧
          (True ∧
           (∀ r3 : Frm,
            (r3 = (sayF r r2 false)) →
            (true = true) ∧
            ((true = true) ∧
             ((true = true) ∧
              ((true = true) ∧
               (K [(Arg.v true [(AC.d (D.i IntKind.i64 r3.kind)), (AC.d (D.i IntKind.i64 r3.seq)), (AC.d (D.i IntKind.i64 r3.ack)), (AC.d (D.b r3.poll)), (AC.d (D.b r3.final)), (AC.d (D.i IntKind.i64 r3.say)), (AC.d (D.i IntKind.i64 r3.seg)), (AC.d (D.i IntKind.i64 r3.len)), (AC.d (D.r RK.u8 r3.data))])] [])))))))))))))) := by
  repeat' first
    | exact rfl
    | trivial
    | apply And.intro
    | (intro r hr; subst hr)
    | intro r
    | exact hp
    | (refine iteI (fun h => ?_) (fun h => ?_))
  all_goals first
    | (have h := hk _ rfl
       unfold rxAck at h
       repeat' split at h
       all_goals first | exact h | (exfalso; grind []))
    | exact hk _ (by grind [rxAck, IntKind.wrap_i64])
    | omega
    | (simp only [LIM] at *; omega)
    | grind [rxAck, IntKind.wrap_i64]
theorem w_impl_RxAck : Valid Try.prog 14 c_impl_RxAck :=
  valid_ctr2 (V := V_impl_RxAck) (tysB_ok tys_ok) (CallsL.cons w_impl_RxOk (CallsL.cons w_impl_RxState_say (CallsL.cons w_impl_goOrWait (CallsL.nil _)))) mixed 0 2 Try.func14 rfl (by kernel_rfl)
    (fun c hc => by
      obtain rfl := Option.some.inj hc
      exact ⟨trivial, ⟨⟨trivial, ⟨⟨trivial, trivial⟩, trivial⟩⟩, ⟨trivial, trivial⟩⟩⟩)
    (fun x K hp hk => ⟨_, by kernel_rfl, vF_impl_RxAck x K hp (fun f h => hk f h)⟩)
theorem vF_impl_RxBusy (r : RxS) (b : Bool) (K : List Arg → List (List AC) → Prop) (hp : r.join.got.length ≤ LIM) (hk : ∀ (q : BusyR), (q = rxBusy r b) → K ([rRx.to q.r, (rR .frm).to q.says]) ([])) :
(true = true) ∧
  (True ∧
   (∀ r1 : Bool,
    (r1 = (decide (RxP r))) →
    (true = true) ∧
    (if ((!r1) = true) then
      ((true = true) ∧
      (K [(Arg.v true [(AC.d (D.i IntKind.i64 (0 : Int))), (AC.d (D.i IntKind.i64 (0 : Int))), (AC.d (D.i IntKind.i64 (0 : Int))), (AC.d (D.r RK.u8 ([] : (List Int)))), (AC.d (D.b false)), (AC.d (D.b false)), (AC.d (D.b false))]), (aR RK.frm ([] : (List Frm)))] []))
     else
      ((true = true) ∧
      (((List.length r.join.got) ≤ (137438953472 : Nat)) ∧
       (∀ r2 : RxS,
        (r2 = r) →
        (true = true) ∧
        (if ((r.busy == b) = true) then
          ((true = true) ∧
          (K [(Arg.v true [(AC.d (D.i IntKind.i64 r2.expect)), (AC.d (D.i IntKind.i64 r2.count)), (AC.d (D.i IntKind.i64 r2.join.len)), (AC.d (D.r RK.u8 r2.join.got)), (AC.d (D.b r2.again)), (AC.d (D.b r2.busy)), (AC.d (D.b r2.dead))]), (aR RK.frm ([] : (List Frm)))] []))
         else
          (if (r.dead = true) then
           ((true = true) ∧
           (K [(Arg.v true [(AC.d (D.i IntKind.i64 r2.expect)), (AC.d (D.i IntKind.i64 r2.count)), (AC.d (D.i IntKind.i64 r2.join.len)), (AC.d (D.r RK.u8 r2.join.got)), (AC.d (D.b r2.again)), (AC.d (D.b r2.busy)), (AC.d (D.b r2.dead))]), (aR RK.frm ([] : (List Frm)))] []))
          else
           ((true = true) ∧
           (True ∧
            (∀ r3 : Int,
             (r3 = (goWait b)) →
             (true = true) ∧
             ((true = true) ∧
              ((true = true) ∧
               (True ∧
                (∀ r4 : Frm,
                 (r4 = (sayF (RxS.mk r2.expect r2.count r2.join false b r2.dead) r3 false)) →
                 (true = true) ∧
                 ((true = true) ∧
                  ((true = true) ∧
                   ((true = true) ∧
                    (K [(Arg.v true [(AC.d (D.i IntKind.i64 r2.expect)), (AC.d (D.i IntKind.i64 r2.count)), (AC.d (D.i IntKind.i64 r2.join.len)), (AC.d (D.r RK.u8 r2.join.got)), (AC.d (D.b false)), (AC.d (D.b b)), (AC.d (D.b r2.dead))]), (aR RK.frm (r4 :: ([] : (List Frm)) : (List Frm)))] []))))))))))))))))))) := by
  repeat' first
    | exact rfl
    | trivial
    | apply And.intro
    | (intro r hr; subst hr)
    | intro r
    | exact hp
    | (refine iteI (fun h => ?_) (fun h => ?_))
  all_goals first
    | (have h := hk _ rfl
       unfold rxBusy at h
       repeat' split at h
       all_goals first | exact h | (exfalso; grind []))
    | exact hk _ (by grind [rxBusy, IntKind.wrap_i64])
    | omega
    | (simp only [LIM] at *; omega)
    | grind [rxBusy, IntKind.wrap_i64]
theorem w_impl_RxBusy : Valid Try.prog 21 c_impl_RxBusy :=
  valid_ctr2 (V := V_impl_RxBusy) (tysB_ok tys_ok) (CallsL.cons w_impl_RxOk (CallsL.cons w_impl_RxState_say (CallsL.cons w_impl_goOrWait (CallsL.cons w_impl_RxState_copyOf (CallsL.nil _))))) mixed 0 3 Try.func21 rfl (by kernel_rfl)
    (fun c hc => by
      obtain rfl := Option.some.inj hc
      exact ⟨trivial, ⟨⟨trivial, ⟨⟨trivial, trivial⟩, trivial⟩⟩, ⟨trivial, ⟨⟨trivial, ⟨⟨trivial, trivial⟩, trivial⟩⟩, ⟨trivial, ⟨trivial, trivial⟩⟩⟩⟩⟩⟩)
    (fun x K hp hk => ⟨_, by kernel_rfl, vF_impl_RxBusy x.1 x.2 K hp (fun q h => hk q h)⟩)
theorem vF_spec_RxAck (r : RxS) (K : List Arg → List (List AC) → Prop) (hp : True) (hk : ∀ (f : Frm), (f = rxAck r) → K ([rFrm.to f]) ([])) :
(true = true) ∧
  (True ∧
   (∀ r1 : Bool,
    (r1 = (decide (RxP r))) →
    (true = true) ∧
    (if ((!r1) = true) then
      ((true = true) ∧
      (K [(Arg.v true [(AC.d (D.i IntKind.i64 (0 : Int))), (AC.d (D.i IntKind.i64 (0 : Int))), (AC.d (D.i IntKind.i64 (0 : Int))), (AC.d (D.b false)), (AC.d (D.b false)), (AC.d (D.i IntKind.i64 (0 : Int))), (AC.d (D.i IntKind.i64 (0 : Int))), (AC.d (D.i IntKind.i64 (0 : Int))), (AC.d (D.r RK.u8 ([] : (List Int))))])] []))
     else
      ((true = true) ∧
      (True ∧
       (∀ r2 : Frm,
        (r2 = (sayF r (goWait r.busy) false)) →
        (true = true) ∧
        ((true = true) ∧
         (K [(Arg.v true [(AC.d (D.i IntKind.i64 r2.kind)), (AC.d (D.i IntKind.i64 r2.seq)), (AC.d (D.i IntKind.i64 r2.ack)), (AC.d (D.b r2.poll)), (AC.d (D.b r2.final)), (AC.d (D.i IntKind.i64 r2.say)), (AC.d (D.i IntKind.i64 r2.seg)), (AC.d (D.i IntKind.i64 r2.len)), (AC.d (D.r RK.u8 r2.data))])] [])))))))) := by
  repeat' first
    | exact rfl
    | trivial
    | apply And.intro
    | (intro r hr; subst hr)
    | intro r
    | exact hp
    | (refine iteI (fun h => ?_) (fun h => ?_))
  all_goals first
    | (have h := hk _ rfl
       unfold rxAck at h
       repeat' split at h
       all_goals first | exact h | (exfalso; grind []))
    | exact hk _ (by grind [rxAck, IntKind.wrap_i64])
    | omega
    | (simp only [LIM] at *; omega)
    | grind [rxAck, IntKind.wrap_i64]
theorem w_spec_RxAck : Valid Try.prog 16 c_spec_RxAck :=
  valid_ctr2 (V := V_spec_RxAck) (tysB_ok tys_ok) (CallsL.cons w_spec_RxOk (CallsL.cons w_spec_l7Say (CallsL.nil _))) mixed 0 2 Try.func16 rfl (by kernel_rfl)
    (fun c hc => by
      obtain rfl := Option.some.inj hc
      exact ⟨trivial, ⟨⟨trivial, ⟨⟨trivial, trivial⟩, trivial⟩⟩, ⟨trivial, trivial⟩⟩⟩)
    (fun x K hp hk => ⟨_, by kernel_rfl, vF_spec_RxAck x K hp (fun f h => hk f h)⟩)
theorem vF_spec_RxBusy (r : RxS) (b : Bool) (K : List Arg → List (List AC) → Prop) (hp : r.join.got.length ≤ LIM) (hk : ∀ (q : BusyR), (q = rxBusy r b) → K ([rRx.to q.r, (rR .frm).to q.says]) ([])) :
(true = true) ∧
  (True ∧
   (∀ r1 : Bool,
    (r1 = (decide (RxP r))) →
    (true = true) ∧
    (if ((!r1) = true) then
      ((true = true) ∧
      (K [(Arg.v true [(AC.d (D.i IntKind.i64 (0 : Int))), (AC.d (D.i IntKind.i64 (0 : Int))), (AC.d (D.i IntKind.i64 (0 : Int))), (AC.d (D.r RK.u8 ([] : (List Int)))), (AC.d (D.b false)), (AC.d (D.b false)), (AC.d (D.b false))]), (aR RK.frm ([] : (List Frm)))] []))
     else
      ((true = true) ∧
      (((List.length r.join.got) ≤ (137438953472 : Nat)) ∧
       (∀ r2 : RxS,
        (r2 = r) →
        (true = true) ∧
        (if ((r.busy == b) = true) then
          ((true = true) ∧
          (K [(Arg.v true [(AC.d (D.i IntKind.i64 r2.expect)), (AC.d (D.i IntKind.i64 r2.count)), (AC.d (D.i IntKind.i64 r2.join.len)), (AC.d (D.r RK.u8 r2.join.got)), (AC.d (D.b r2.again)), (AC.d (D.b r2.busy)), (AC.d (D.b r2.dead))]), (aR RK.frm ([] : (List Frm)))] []))
         else
          (if (r.dead = true) then
           ((true = true) ∧
           (K [(Arg.v true [(AC.d (D.i IntKind.i64 r2.expect)), (AC.d (D.i IntKind.i64 r2.count)), (AC.d (D.i IntKind.i64 r2.join.len)), (AC.d (D.r RK.u8 r2.join.got)), (AC.d (D.b r2.again)), (AC.d (D.b r2.busy)), (AC.d (D.b r2.dead))]), (aR RK.frm ([] : (List Frm)))] []))
          else
           ((true = true) ∧
           (True ∧
            (∀ r3 : Frm,
             (r3 = (sayF (RxS.mk r2.expect r2.count r2.join false b r2.dead) (goWait b) false)) →
             (true = true) ∧
             ((true = true) ∧
              ((true = true) ∧
               ((true = true) ∧
                (K [(Arg.v true [(AC.d (D.i IntKind.i64 r2.expect)), (AC.d (D.i IntKind.i64 r2.count)), (AC.d (D.i IntKind.i64 r2.join.len)), (AC.d (D.r RK.u8 r2.join.got)), (AC.d (D.b false)), (AC.d (D.b b)), (AC.d (D.b r2.dead))]), (aR RK.frm (r3 :: ([] : (List Frm)) : (List Frm)))] []))))))))))))))) := by
  repeat' first
    | exact rfl
    | trivial
    | apply And.intro
    | (intro r hr; subst hr)
    | intro r
    | exact hp
    | (refine iteI (fun h => ?_) (fun h => ?_))
  all_goals first
    | (have h := hk _ rfl
       unfold rxBusy at h
       repeat' split at h
       all_goals first | exact h | (exfalso; grind []))
    | exact hk _ (by grind [rxBusy, IntKind.wrap_i64])
    | omega
    | (simp only [LIM] at *; omega)
    | grind [rxBusy, IntKind.wrap_i64]
theorem w_spec_RxBusy : Valid Try.prog 22 c_spec_RxBusy :=
  valid_ctr2 (V := V_spec_RxBusy) (tysB_ok tys_ok) (CallsL.cons w_spec_RxOk (CallsL.cons w_spec_l7Say (CallsL.cons w_spec_l7Copy (CallsL.nil _)))) mixed 0 3 Try.func22 rfl (by kernel_rfl)
    (fun c hc => by
      obtain rfl := Option.some.inj hc
      exact ⟨trivial, ⟨⟨trivial, ⟨⟨trivial, trivial⟩, trivial⟩⟩, ⟨trivial, ⟨⟨trivial, ⟨⟨trivial, trivial⟩, trivial⟩⟩, ⟨trivial, ⟨trivial, ⟨trivial, trivial⟩⟩⟩⟩⟩⟩⟩)
    (fun x K hp hk => ⟨_, by kernel_rfl, vF_spec_RxBusy x.1 x.2 K hp (fun q h => hk q h)⟩)
end Go.Proofs.YtjladmhjpikdhaaE

/- Calls answer what is promised: C. Conditions: none. -/
set_option linter.unusedVariables false
set_option maxHeartbeats 4000000
namespace Go.Proofs.YtjladmhjpikdhaaE
open Go
theorem vF_spec_l20Open (l : List Int) (K : List Arg → List (List AC) → Prop) (hp : Bytes l) (hk : ∀ (q : RdS), (q = ⟨l.take 2000, 0⟩) → K ([rRd.to q]) ([])) :
if ((decide ((((List.length l) : Nat) : Int) > (2000 : Int))) = true) then
   ((((0 : Int) ≤ (0 : Int)) ∧
    (((0 : Int) ≤ (2000 : Int)) ∧
     ((2000 : Int) ≤ (((List.length l) : Nat) : Int)))) ∧
   ((true = true) ∧
    (K [(Arg.p [(AC.d (D.r RK.u8 (List.take (2000 : Nat) (List.drop (0 : Nat) l)))), (AC.d (D.i IntKind.i64 (0 : Int)))])] [])))
  else
   ((true = true) ∧
   (K [(Arg.p [(AC.d (D.r RK.u8 l)), (AC.d (D.i IntKind.i64 (0 : Int)))])] [])) := by
  split
  · rename_i h
    have h2 : l.length > 2000 := by simp at h; omega
    exact ⟨⟨by omega, by omega, by omega⟩, rfl, hk _ rfl⟩
  · rename_i h
    have h2 : l.length ≤ 2000 := by simp at h; omega
    refine ⟨rfl, hk ⟨l, 0⟩ ?_⟩
    rw [List.take_of_length_le h2]
theorem w_spec_l20Open : Valid Try.prog 55 c_spec_l20Open :=
  valid_ctr2 (V := V_spec_l20Open) (tysB_ok tys_ok) (CallsL.nil _) mixed 0 1 Try.func55 rfl (by kernel_rfl)
    (fun c hc => by
      obtain rfl := Option.some.inj hc
      exact ⟨trivial, ⟨⟨trivial, ⟨trivial, trivial⟩⟩, ⟨trivial, trivial⟩⟩⟩)
    (fun x K hp hk => ⟨_, by kernel_rfl, vF_spec_l20Open x K hp (fun q h => hk q h)⟩)
theorem vF_spec_l20Rd_pick (r : RdS) (n : Int) (K : List Arg → List (List AC) → Prop) (hp : RdOk r 1000000000 ∧ n ≤ 1000000000) (hk : ∀ (x : Int) (q : RdS), (q = ⟨r.b, r.p + 1⟩ ∧ 0 ≤ x ∧ (1 ≤ n → x < n) ∧ (n < 1 → x = 0)) → K ([rInt.to x]) ([(rdC q).map .d])) :
if ((decide (n < (1 : Int))) = true) then
   ((true = true) ∧
   (K [(aI IntKind.i64 (0 : Int))] [[(AC.d (D.r RK.u8 r.b)), (AC.d (D.i IntKind.i64 (IntKind.wrap IntKind.i64 (r.p + (1 : Int)))))]]))
  else
   (if (((((List.length r.b) : Nat) : Int) == (0 : Int)) = true) then
    ((true = true) ∧
    (K [(aI IntKind.i64 (0 : Int))] [[(AC.d (D.r RK.u8 r.b)), (AC.d (D.i IntKind.i64 (IntKind.wrap IntKind.i64 (r.p + (1 : Int)))))]]))
   else
    (if ((decide ((IntKind.wrap IntKind.i64 ((IntKind.wrap IntKind.i64 (r.p + (1 : Int))) - (1 : Int))) < (((List.length r.b) : Nat) : Int))) = true) then
     ((((0 : Int) ≤ (IntKind.wrap IntKind.i64 ((IntKind.wrap IntKind.i64 (r.p + (1 : Int))) - (1 : Int)))) ∧
      ((IntKind.wrap IntKind.i64 ((IntKind.wrap IntKind.i64 (r.p + (1 : Int))) - (1 : Int))) < (((List.length r.b) : Nat) : Int))) ∧
     ((n ≠ (0 : Int)) ∧
      ((true = true) ∧
       (K [(aI IntKind.i64 (Int.tmod (IntKind.wrap IntKind.i64 (at_u8 r.b (Int.toNat (IntKind.wrap IntKind.i64 ((IntKind.wrap IntKind.i64 (r.p + (1 : Int))) - (1 : Int)))))) n))] [[(AC.d (D.r RK.u8 r.b)), (AC.d (D.i IntKind.i64 (IntKind.wrap IntKind.i64 (r.p + (1 : Int)))))]]))))
    else
     (((((List.length r.b) : Nat) : Int) ≠ (0 : Int)) ∧
     ((((0 : Int) ≤ (Int.tmod (IntKind.wrap IntKind.i64 ((IntKind.wrap IntKind.i64 (r.p + (1 : Int))) - (1 : Int))) (((List.length r.b) : Nat) : Int))) ∧
       ((Int.tmod (IntKind.wrap IntKind.i64 ((IntKind.wrap IntKind.i64 (r.p + (1 : Int))) - (1 : Int))) (((List.length r.b) : Nat) : Int)) < (((List.length r.b) : Nat) : Int))) ∧
      (((((List.length r.b) : Nat) : Int) ≠ (0 : Int)) ∧
       ((((0 : Int) ≤ (Int.tmod (IntKind.wrap IntKind.i64 ((IntKind.wrap IntKind.i64 ((IntKind.wrap IntKind.i64 ((IntKind.wrap IntKind.i64 (r.p + (1 : Int))) - (1 : Int))) * (7 : Int))) + (3 : Int))) (((List.length r.b) : Nat) : Int))) ∧
         ((Int.tmod (IntKind.wrap IntKind.i64 ((IntKind.wrap IntKind.i64 ((IntKind.wrap IntKind.i64 ((IntKind.wrap IntKind.i64 (r.p + (1 : Int))) - (1 : Int))) * (7 : Int))) + (3 : Int))) (((List.length r.b) : Nat) : Int)) < (((List.length r.b) : Nat) : Int))) ∧
        (((((List.length r.b) : Nat) : Int) ≠ (0 : Int)) ∧
         (((64 : Int) ≠ (0 : Int)) ∧
          ((n ≠ (0 : Int)) ∧
           ((true = true) ∧
            (K [(aI IntKind.i64 (Int.tmod (bits BinOp.xor IntKind.i64 (IntKind.wrap IntKind.i64 ((IntKind.wrap IntKind.i64 ((IntKind.wrap IntKind.i64 ((IntKind.wrap IntKind.i64 ((IntKind.wrap IntKind.i64 (at_u8 r.b (Int.toNat (Int.tmod (IntKind.wrap IntKind.i64 ((IntKind.wrap IntKind.i64 (r.p + (1 : Int))) - (1 : Int))) (((List.length r.b) : Nat) : Int))))) * (131 : Int))) + (IntKind.wrap IntKind.i64 ((IntKind.wrap IntKind.i64 (at_u8 r.b (Int.toNat (Int.tmod (IntKind.wrap IntKind.i64 ((IntKind.wrap IntKind.i64 ((IntKind.wrap IntKind.i64 ((IntKind.wrap IntKind.i64 (r.p + (1 : Int))) - (1 : Int))) * (7 : Int))) + (3 : Int))) (((List.length r.b) : Nat) : Int))))) * (1117 : Int))))) + (IntKind.wrap IntKind.i64 ((IntKind.wrap IntKind.i64 ((IntKind.wrap IntKind.i64 (r.p + (1 : Int))) - (1 : Int))) * (29 : Int))))) + (IntKind.wrap IntKind.i64 ((IntKind.wrap IntKind.i64 (Int.tdiv (IntKind.wrap IntKind.i64 ((IntKind.wrap IntKind.i64 (r.p + (1 : Int))) - (1 : Int))) (((List.length r.b) : Nat) : Int))) * (53 : Int))))) (IntKind.wrap IntKind.i64 (Int.tdiv (IntKind.wrap IntKind.i64 ((IntKind.wrap IntKind.i64 ((IntKind.wrap IntKind.i64 ((IntKind.wrap IntKind.i64 ((IntKind.wrap IntKind.i64 (at_u8 r.b (Int.toNat (Int.tmod (IntKind.wrap IntKind.i64 ((IntKind.wrap IntKind.i64 (r.p + (1 : Int))) - (1 : Int))) (((List.length r.b) : Nat) : Int))))) * (131 : Int))) + (IntKind.wrap IntKind.i64 ((IntKind.wrap IntKind.i64 (at_u8 r.b (Int.toNat (Int.tmod (IntKind.wrap IntKind.i64 ((IntKind.wrap IntKind.i64 ((IntKind.wrap IntKind.i64 ((IntKind.wrap IntKind.i64 (r.p + (1 : Int))) - (1 : Int))) * (7 : Int))) + (3 : Int))) (((List.length r.b) : Nat) : Int))))) * (1117 : Int))))) + (IntKind.wrap IntKind.i64 ((IntKind.wrap IntKind.i64 ((IntKind.wrap IntKind.i64 (r.p + (1 : Int))) - (1 : Int))) * (29 : Int))))) + (IntKind.wrap IntKind.i64 ((IntKind.wrap IntKind.i64 (Int.tdiv (IntKind.wrap IntKind.i64 ((IntKind.wrap IntKind.i64 (r.p + (1 : Int))) - (1 : Int))) (((List.length r.b) : Nat) : Int))) * (53 : Int))))) (64 : Int)))) n))] [[(AC.d (D.r RK.u8 r.b)), (AC.d (D.i IntKind.i64 (IntKind.wrap IntKind.i64 (r.p + (1 : Int)))))]]))))))))))) := by
  obtain ⟨l, p⟩ := r
  obtain ⟨⟨hb, hl, h0, h1⟩, hn⟩ := hp
  dsimp only at hb hl h0 h1 hk ⊢
  rw [wr (x := p + 1) (by omega) (by omega), wr (x := p + 1 - 1) (by omega) (by omega), show p + 1 - 1 = p by omega]
  by_cases hn1 : n < 1
  · rw [if_pos (by simpa using hn1)]
    exact ⟨rfl, hk 0 ⟨l, p + 1⟩ ⟨rfl, by omega, fun h => by omega, fun _ => rfl⟩⟩
  · rw [if_neg (by simpa using hn1)]
    by_cases he : l.length = 0
    · rw [if_pos (by simp [he])]
      exact ⟨rfl, hk 0 ⟨l, p + 1⟩ ⟨rfl, by omega, fun h => by omega, fun _ => rfl⟩⟩
    · rw [if_neg (by simp; intro h; simp [h] at he)]
      have hr : ∀ i : Int, 0 ≤ at_u8 l i.toNat ∧ at_u8 l i.toNat ≤ 255 := fun i => hb.at_ i
      by_cases hp : p < (l.length : Int)
      · rw [if_pos (by simpa using hp)]
        obtain ⟨r1, r2⟩ := hr p
        rw [wr (by omega) (by omega)]
        exact ⟨⟨h0, hp⟩, by omega, rfl, hk _ ⟨l, p + 1⟩ ⟨rfl, Int.tmod_nonneg _ r1, fun _ => Int.tmod_lt_of_pos _ (by omega), fun h => by omega⟩⟩
      · rw [if_neg (by simpa using hp)]
        have e1 : Int.tmod p (l.length : Int) = p % (l.length : Int) := Int.tmod_eq_emod_of_nonneg h0
        have a1 := Int.emod_nonneg p (show (l.length : Int) ≠ 0 by omega)
        have a2 := Int.emod_lt_of_pos p (show 0 < (l.length : Int) by omega)
        rw [wr (x := p * 7) (by omega) (by omega), wr (x := p * 7 + 3) (by omega) (by omega)]
        have e2 : Int.tmod (p * 7 + 3) (l.length : Int) = (p * 7 + 3) % (l.length : Int) := Int.tmod_eq_emod_of_nonneg (by omega)
        have b1 := Int.emod_nonneg (p * 7 + 3) (show (l.length : Int) ≠ 0 by omega)
        have b2 := Int.emod_lt_of_pos (p * 7 + 3) (show 0 < (l.length : Int) by omega)
        rw [e1, e2]
        refine ⟨by omega, ⟨a1, a2⟩, by omega, ⟨b1, b2⟩, by omega, by omega, by omega, rfl, ?_⟩
        obtain ⟨c1, c2⟩ := hr (p % (l.length : Int))
        obtain ⟨d1, d2⟩ := hr ((p * 7 + 3) % (l.length : Int))
        have e3 : Int.tdiv p (l.length : Int) = p / (l.length : Int) := Int.tdiv_eq_ediv_of_nonneg h0
        have f1 : 0 ≤ p / (l.length : Int) := Int.ediv_nonneg h0 (by omega)
        have f2 : p / (l.length : Int) ≤ p := Int.ediv_le_self _ h0
        rw [e3]
        generalize at_u8 l (p % (l.length : Int)).toNat = x at c1 c2 ⊢
        generalize at_u8 l ((p * 7 + 3) % (l.length : Int)).toNat = y at d1 d2 ⊢
        generalize p / (l.length : Int) = z at f1 f2 ⊢
        rw [wr (x := x) (by omega) (by omega), wr (x := y) (by omega) (by omega), wr (x := z) (by omega) (by omega), wr (x := x * 131) (by omega) (by omega), wr (x := y * 1117) (by omega) (by omega),
          wr (x := x * 131 + y * 1117) (by omega) (by omega), wr (x := p * 29) (by omega) (by omega), wr (x := x * 131 + y * 1117 + p * 29) (by omega) (by omega), wr (x := z * 53) (by omega) (by omega),
          wr (x := x * 131 + y * 1117 + p * 29 + z * 53) (by omega) (by omega)]
        obtain ⟨t, ht⟩ : ∃ t : Nat, x * 131 + y * 1117 + p * 29 + z * 53 = (t : Int) := ⟨(x * 131 + y * 1117 + p * 29 + z * 53).toNat, by omega⟩
        have ht2 : t < 2 ^ 62 := by omega
        rw [ht, Int.tdiv_eq_ediv_of_nonneg (by omega), wr (x := (t : Int) / 64) (by omega) (by omega)]
        have h64 : ((t : Int) / 64) = ((t / 64 : Nat) : Int) := by omega
        rw [h64, xor64 t (t / 64) ht2 (by omega)]
        exact hk _ ⟨l, p + 1⟩ ⟨rfl, Int.tmod_nonneg _ (Int.natCast_nonneg _), fun _ => Int.tmod_lt_of_pos _ (by omega), fun h => by omega⟩
theorem w_spec_l20Rd_pick : Valid Try.prog 67 c_spec_l20Rd_pick :=
  valid_ctr2 (V := V_spec_l20Rd_pick) (tysB_ok tys_ok) (CallsL.nil _) mixed 0 0 Try.func67 rfl (by kernel_rfl)
    (fun c hc => by
      obtain rfl := Option.some.inj hc
      exact ⟨trivial, ⟨trivial, ⟨⟨trivial, ⟨⟨trivial, trivial⟩, trivial⟩⟩, ⟨trivial, ⟨⟨trivial, ⟨⟨trivial, trivial⟩, trivial⟩⟩, ⟨trivial, ⟨trivial, ⟨trivial, trivial⟩⟩⟩⟩⟩⟩⟩⟩)
    (fun x K hp hk => ⟨_, by kernel_rfl, vF_spec_l20Rd_pick x.1 x.2 K hp (fun x q h => hk (x, q) h)⟩)
end Go.Proofs.YtjladmhjpikdhaaE

/- Calls answer what is promised: D. Conditions: none. -/
set_option linter.unusedVariables false
set_option maxHeartbeats 4000000
namespace Go.Proofs.YtjladmhjpikdhaaE
open Go
theorem vF_spec_l20Bytes (r : RdS) (n : Int) (K : List Arg → List (List AC) → Prop) (hp : RdOk r 100000000 ∧ 0 ≤ n ∧ n ≤ 900) (hk : ∀ (l : List Int) (q : RdS), (Bytes l ∧ (l.length : Int) ≤ n ∧ RdOn r q (1 + 3 * n)) → K ([(rO 5 .u8).to l]) ([(rdC q).map .d])) :
(true = true) ∧
  ((((Bytes r.b) ∧
     (((List.length r.b) ≤ (2000 : Nat)) ∧
      (((0 : Int) ≤ r.p) ∧
       (r.p ≤ (1000000000 : Int))))) ∧
    ((IntKind.wrap IntKind.i64 (n + (1 : Int))) ≤ (1000000000 : Int))) ∧
   (∀ r1 : (Prod Int RdS),
    ((r1.snd = (RdS.mk r.b (r.p + (1 : Int)))) ∧ (((0 : Int) ≤ r1.fst) ∧ ((((1 : Int) ≤ (IntKind.wrap IntKind.i64 (n + (1 : Int)))) → (r1.fst < (IntKind.wrap IntKind.i64 (n + (1 : Int))))) ∧ (((IntKind.wrap IntKind.i64 (n + (1 : Int))) < (1 : Int)) → (r1.fst = (0 : Int)))))) →
    (true = true) ∧
    (∃ s : (Prod (List Int) (Prod Int RdS)),
     ((St.mk (mkSlots 30 [(0, (T.pb (0 : Nat) (0 : Nat) (0 : Nat))), (5, (T.v false [(Cm.ref (0 : Nat) (0 : Nat))])), (6, (num IntKind.i64 r1.fst))]) [(Row.mk (0 : Nat) (Option.some (RC.mk (5 : Nat) RK.u8 ([] : (List Int)))))] [(Box.mk (Min.min (0 : Nat) (1 : Nat)) (Option.some [(Cm.d (D.r RK.u8 r1.snd.b)), (Cm.d (D.i IntKind.i64 r1.snd.p))]))]) = (St.mk (mkSlots 30 [(0, (T.pb (0 : Nat) (0 : Nat) (0 : Nat))), (5, (T.v false [(Cm.ref (0 : Nat) (0 : Nat))])), (6, (num IntKind.i64 s.snd.fst))]) [(Row.mk (0 : Nat) (Option.some (RC.mk (5 : Nat) RK.u8 s.fst)))] [(Box.mk (0 : Nat) (Option.some [(Cm.d (D.r RK.u8 s.snd.snd.b)), (Cm.d (D.i IntKind.i64 s.snd.snd.p))]))])) ∧
     (((Bytes s.fst) ∧
       (((List.length s.fst) = (0 : Nat)) ∧
        (((0 : Int) ≤ s.snd.fst) ∧
         ((s.snd.fst ≤ (900 : Int)) ∧
          ((Bytes s.snd.snd.b) ∧
           (((List.length s.snd.snd.b) ≤ (2000 : Nat)) ∧
            (((0 : Int) ≤ s.snd.snd.p) ∧
             (s.snd.snd.p ≤ (200000000 : Int))))))))) ∧
      ((∀ r2 : (Prod (List Int) RdS),
        ((Bytes r2.fst) ∧ (((((List.length r2.fst) : Nat) : Int) = s.snd.fst) ∧ (RdOn s.snd.snd r2.snd ((3 : Int) * s.snd.fst)))) →
        (true = true) ∧
        (K [(Arg.v false [(AC.own (RC.mk (5 : Nat) RK.u8 r2.fst))])] [[(AC.d (D.r RK.u8 r2.snd.b)), (AC.d (D.i IntKind.i64 r2.snd.p))]])) ∧
       (∀ r2 : Empty,
        False →
        False)))))) := by
  obtain ⟨⟨g1, g2, g3, g4⟩, h1, h2⟩ := hp
  obtain ⟨b, p⟩ := r
  dsimp only at *
  rw [wr (x := n + 1) (by omega) (by omega)]
  refine ⟨rfl, ⟨⟨g1, g2, g3, by omega⟩, by omega⟩, fun ⟨x1, q1⟩ ⟨a1, a2, a3, _⟩ => ?_⟩
  dsimp only at a1 a2 a3 ⊢
  subst a1
  have a4 := a3 (by omega)
  refine ⟨rfl, ([], x1, ⟨b, p + 1⟩), rfl, ⟨.nil, rfl, a2, by dsimp only; omega, g1, g2, by dsimp only; omega, by dsimp only; omega⟩, fun ⟨o, q⟩ ⟨b1, b2, b3⟩ => ⟨rfl, hk o q ⟨b1, ?_, ?_⟩⟩, fun r h => h⟩
  · dsimp only at b2; omega
  · obtain ⟨d1, d2, d3⟩ := b3
    dsimp only at d1 d2 d3
    exact ⟨d1, by dsimp only; omega, by dsimp only; omega⟩
theorem vL_spec_l20Bytes_0 (o0 : List Int) (k0 : Int) (r0 : RdS) (o : List Int) (k : Int) (r : RdS) (n : Nat) (hp : (fun (o : List Int) (k : Int) (r : RdS) => (Bytes o ∧ o.length = 0 ∧ 0 ≤ k ∧ k ≤ 900 ∧ RdOk r 200000000)) o0 k0 r0) (hi : Bytes o ∧ (n : Int) = k ∧ (o.length : Int) = k0 - k ∧ k ≤ k0 ∧ k0 ≤ 900 ∧ RdOk r0 200000000 ∧ RdOn r0 r (3 * (k0 - k))) :
if ((decide (k > (0 : Int))) = true) then
   ((true = true) ∧
   ((((Bytes r.b) ∧
      (((List.length r.b) ≤ (2000 : Nat)) ∧
       (((0 : Int) ≤ r.p) ∧
        (r.p ≤ (1000000000 : Int))))) ∧
     ((256 : Int) ≤ (1000000000 : Int))) ∧
    (∀ r1 : (Prod Int RdS),
     ((r1.snd = (RdS.mk r.b (r.p + (1 : Int)))) ∧ (((0 : Int) ≤ r1.fst) ∧ ((((1 : Int) ≤ (256 : Int)) → (r1.fst < (256 : Int))) ∧ (((256 : Int) < (1 : Int)) → (r1.fst = (0 : Int)))))) →
     (true = true) ∧
     ((true = true) ∧
      ((((Bytes r1.snd.b) ∧
         (((List.length r1.snd.b) ≤ (2000 : Nat)) ∧
          (((0 : Int) ≤ r1.snd.p) ∧
           (r1.snd.p ≤ (1000000000 : Int))))) ∧
        ((4 : Int) ≤ (1000000000 : Int))) ∧
       (∀ r2 : (Prod Int RdS),
        ((r2.snd = (RdS.mk r1.snd.b (r1.snd.p + (1 : Int)))) ∧ (((0 : Int) ≤ r2.fst) ∧ ((((1 : Int) ≤ (4 : Int)) → (r2.fst < (4 : Int))) ∧ (((4 : Int) < (1 : Int)) → (r2.fst = (0 : Int)))))) →
        (true = true) ∧
        ((true = true) ∧
         ((((Bytes r2.snd.b) ∧
            (((List.length r2.snd.b) ≤ (2000 : Nat)) ∧
             (((0 : Int) ≤ r2.snd.p) ∧
              (r2.snd.p ≤ (1000000000 : Int))))) ∧
           ((3 : Int) ≤ (1000000000 : Int))) ∧
          (∀ r3 : (Prod Int RdS),
           ((r3.snd = (RdS.mk r2.snd.b (r2.snd.p + (1 : Int)))) ∧ (((0 : Int) ≤ r3.fst) ∧ ((((1 : Int) ≤ (3 : Int)) → (r3.fst < (3 : Int))) ∧ (((3 : Int) < (1 : Int)) → (r3.fst = (0 : Int)))))) →
           (true = true) ∧
           ((((0 : Int) ≤ r3.fst) ∧
             (r3.fst < (((List.length (r1.fst :: (r2.fst :: ((255 : Int) :: ([] : (List Int)) : (List Int)) : (List Int)) : (List Int))) : Nat) : Int))) ∧
            ((((List.length o) + (List.length ((IntKind.wrap IntKind.u8 (at_i64 (r1.fst :: (r2.fst :: ((255 : Int) :: ([] : (List Int)) : (List Int)) : (List Int)) : (List Int)) (Int.toNat r3.fst))) :: ([] : (List Int)) : (List Int)))) ≤ (137438953472 : Nat)) ∧
             (∃ s : (Prod (List Int) (Prod Int RdS)),
              ((St.mk (mkSlots 30 [(0, (T.pb (0 : Nat) (0 : Nat) (0 : Nat))), (5, (T.v false [(Cm.ref (0 : Nat) (0 : Nat))])), (6, (num IntKind.i64 (IntKind.wrap IntKind.i64 (k - (1 : Int)))))]) [(Row.mk (0 : Nat) (Option.some (RC.mk (5 : Nat) RK.u8 (o ++ ((IntKind.wrap IntKind.u8 (at_i64 (r1.fst :: (r2.fst :: ((255 : Int) :: ([] : (List Int)) : (List Int)) : (List Int)) : (List Int)) (Int.toNat r3.fst))) :: ([] : (List Int)) : (List Int)) : (List Int)))))] [(Box.mk (Min.min (0 : Nat) (1 : Nat)) (Option.some [(Cm.d (D.r RK.u8 r3.snd.b)), (Cm.d (D.i IntKind.i64 r3.snd.p))]))]) = (St.mk (mkSlots 30 [(0, (T.pb (0 : Nat) (0 : Nat) (0 : Nat))), (5, (T.v false [(Cm.ref (0 : Nat) (0 : Nat))])), (6, (num IntKind.i64 s.snd.fst))]) [(Row.mk (0 : Nat) (Option.some (RC.mk (5 : Nat) RK.u8 s.fst)))] [(Box.mk (0 : Nat) (Option.some [(Cm.d (D.r RK.u8 s.snd.snd.b)), (Cm.d (D.i IntKind.i64 s.snd.snd.p))]))])) ∧
              (∃ m : Nat,
               (m < n) ∧
               ((Bytes s.fst) ∧
                ((((m : Nat) : Int) = s.snd.fst) ∧
                 (((((List.length s.fst) : Nat) : Int) = (k0 - s.snd.fst)) ∧
                  ((s.snd.fst ≤ k0) ∧
                   ((k0 ≤ (900 : Int)) ∧
                    (((Bytes r0.b) ∧
                      (((List.length r0.b) ≤ (2000 : Nat)) ∧
                       (((0 : Int) ≤ r0.p) ∧
                        (r0.p ≤ (200000000 : Int))))) ∧
                     ((s.snd.snd.b = r0.b) ∧
                      ((r0.p ≤ s.snd.snd.p) ∧
                       (s.snd.snd.p ≤ (r0.p + ((3 : Int) * (k0 - s.snd.fst)))))))))))))))))))))))))
  else
   (∃ r1 : (Prod (List Int) RdS),
   ((St.mk (mkSlots 30 [(0, (T.pb (0 : Nat) (0 : Nat) (0 : Nat))), (5, (T.v false [(Cm.ref (0 : Nat) (0 : Nat))]))]) [(Row.mk (0 : Nat) (Option.some (RC.mk (5 : Nat) RK.u8 o)))] [(Box.mk (Min.min (0 : Nat) (1 : Nat)) (Option.some [(Cm.d (D.r RK.u8 r.b)), (Cm.d (D.i IntKind.i64 r.p))]))]) = (St.mk (mkSlots 30 [(0, (T.pb (0 : Nat) (0 : Nat) (0 : Nat))), (5, (T.v false [(Cm.ref (0 : Nat) (0 : Nat))]))]) [(Row.mk (0 : Nat) (Option.some (RC.mk (5 : Nat) RK.u8 r1.fst)))] [(Box.mk (0 : Nat) (Option.some [(Cm.d (D.r RK.u8 r1.snd.b)), (Cm.d (D.i IntKind.i64 r1.snd.p))]))])) ∧
   ((Bytes r1.fst) ∧
    (((((List.length r1.fst) : Nat) : Int) = k0) ∧
     ((r1.snd.b = r0.b) ∧
      ((r0.p ≤ r1.snd.p) ∧
       (r1.snd.p ≤ (r0.p + ((3 : Int) * k0)))))))) := by
  try dsimp only at hp
  obtain ⟨h1, h2, h3, h4, h5, ⟨g1, g2, g3, g4⟩, e1, e2, e3⟩ := hi
  obtain ⟨b, p⟩ := r
  obtain ⟨b0, p0⟩ := r0
  dsimp only at *
  subst e1
  split
  · rename_i hk
    have hk : 0 < k := by simpa using hk
    refine ⟨rfl, ⟨⟨g1, g2, by omega, by omega⟩, by omega⟩, fun ⟨x1, q1⟩ ⟨a1, a2, a3, _⟩ => ?_⟩
    dsimp only at a1 a2 a3 ⊢
    subst a1
    refine ⟨rfl, rfl, ⟨⟨g1, g2, by dsimp only; omega, by dsimp only; omega⟩, by omega⟩, fun ⟨x2, q2⟩ ⟨b1, b2, b3, _⟩ => ?_⟩
    dsimp only at b1 b2 b3 ⊢
    subst b1
    refine ⟨rfl, rfl, ⟨⟨g1, g2, by dsimp only; omega, by dsimp only; omega⟩, by omega⟩, fun ⟨x3, q3⟩ ⟨c1, c2, c3, _⟩ => ?_⟩
    dsimp only at c1 c2 c3 ⊢
    subst c1
    have c4 := c3 (by omega)
    refine ⟨rfl, ⟨c2, by simp; omega⟩, by simp; omega, ?_⟩
    rw [wr8m, wr (by omega) (by omega)]
    generalize at_i64 [x1, x2, 255] x3.toNat = v
    exact ⟨(o ++ [v % 256], k - 1, ⟨b, p + 1 + 1 + 1⟩), rfl, n - 1, by omega, h1.snoc (by omega) (by omega), by dsimp only; omega, by simp; omega, by dsimp only; omega, h5, ⟨g1, g2, g3, g4⟩, rfl, by dsimp only; omega, by dsimp only; omega⟩
  · rename_i hk
    have hk : ¬ 0 < k := by simpa using hk
    exact ⟨(o, ⟨b, p⟩), rfl, h1, by dsimp only; omega, rfl, by dsimp only; omega, by dsimp only; omega⟩
theorem vS_spec_l20Bytes_0 (o0 : List Int) (k0 : Int) (r0 : RdS) (hp : (fun (o : List Int) (k : Int) (r : RdS) => (Bytes o ∧ o.length = 0 ∧ 0 ≤ k ∧ k ≤ 900 ∧ RdOk r 200000000)) o0 k0 r0) : ∃ n : Nat, (fun (o : List Int) (k : Int) (r : RdS) => (Bytes o ∧ (n : Int) = k ∧ (o.length : Int) = k0 - k ∧ k ≤ k0 ∧ k0 ≤ 900 ∧ RdOk r0 200000000 ∧ RdOn r0 r (3 * (k0 - k)))) o0 k0 r0 := by
  try dsimp only at hp
  try dsimp only
  obtain ⟨h1, h2, h3, h4, h5⟩ := hp
  exact ⟨k0.toNat, h1, by omega, by omega, by omega, by omega, h5, rfl, by omega, by omega⟩
theorem w_spec_l20Bytes : Valid Try.prog 98 c_spec_l20Bytes :=
  valid_ctr2 (V := V_spec_l20Bytes) (tysB_ok tys_ok) (CallsL.cons w_spec_l20Rd_pick (CallsL.nil _)) mixed 1 0 Try.func98 rfl (by kernel_rfl)
    (fun c hc => by
      obtain rfl := Option.some.inj hc
      exact ⟨trivial, ⟨trivial, ⟨⟨trivial, ⟨LoopD.ok2 (V := V_spec_l20Bytes) l_spec_l20Bytes_0 (LoopsM.cons 0 l_spec_l20Bytes_0 LoopsM.nil) 0 _ i_spec_l20Bytes_0 (fun x hx => vS_spec_l20Bytes_0 x.1 x.2.1 x.2.2 hx) (fun x hx n s hi => ⟨_, by kernel_rfl, vL_spec_l20Bytes_0 x.1 x.2.1 x.2.2 s.1 s.2.1 s.2.2 n hx hi⟩), ⟨⟨trivial, ⟨trivial, trivial⟩⟩, ⟨trivial, trivial⟩⟩⟩⟩, ⟨trivial, trivial⟩⟩⟩⟩)
    (fun x K hp hk => ⟨_, by kernel_rfl, vF_spec_l20Bytes x.1 x.2 K hp (fun l q h => hk (l, q) h)⟩)
end Go.Proofs.YtjladmhjpikdhaaE

/- Calls answer what is promised: J. Conditions: none. -/
set_option linter.unusedVariables false
set_option maxHeartbeats 4000000
namespace Go.Proofs.YtjladmhjpikdhaaE
open Go
theorem vF_spec_l20Rd_odd (r : RdS) (n : Int) (K : List Arg → List (List AC) → Prop) (hp : RdOk r 900000000 ∧ n ≤ 1000000000) (hk : ∀ (b : Bool) (q : RdS), (q.b = r.b ∧ r.p ≤ q.p ∧ q.p ≤ r.p + 1) → K ([rB.to b]) ([(rdC q).map .d])) :
if ((decide (n > (0 : Int))) = true) then
   ((true = true) ∧
   ((((Bytes r.b) ∧
      (((List.length r.b) ≤ (2000 : Nat)) ∧
       (((0 : Int) ≤ r.p) ∧
        (r.p ≤ (1000000000 : Int))))) ∧
     (n ≤ (1000000000 : Int))) ∧
    (∀ r1 : (Prod Int RdS),
     ((r1.snd = (RdS.mk r.b (r.p + (1 : Int)))) ∧ (((0 : Int) ≤ r1.fst) ∧ ((((1 : Int) ≤ n) → (r1.fst < n)) ∧ ((n < (1 : Int)) → (r1.fst = (0 : Int)))))) →
     (true = true) ∧
     ((true = true) ∧
      (K [(aB (r1.fst == (IntKind.wrap IntKind.i64 (n - (1 : Int)))))] [[(AC.d (D.r RK.u8 r1.snd.b)), (AC.d (D.i IntKind.i64 r1.snd.p))]])))))
  else
   ((true = true) ∧
   (K [(aB false)] [[(AC.d (D.r RK.u8 r.b)), (AC.d (D.i IntKind.i64 r.p))]])) := by
  repeat' first
    | exact rfl
    | trivial
    | apply And.intro
    | (show Bytes _; grind [RdOk, RdOn, Bytes.cons, Bytes.nil, Bytes.take])
    | (intro r hr; subst hr)
    | intro r
    | exact hp
    | (refine iteI (fun h => ?_) (fun h => ?_))
  all_goals try simp (disch := omega) only [wr] at *
  all_goals first
    | omega
    | exact hk _ ⟨_, _⟩ (by (try dsimp only); grind [RdOk, RdOn, Bytes.cons, Bytes.nil, Bytes.take])
    | grind [RdOk, RdOn, Bytes.cons, Bytes.nil, Bytes.take]
theorem w_spec_l20Rd_odd : Valid Try.prog 92 c_spec_l20Rd_odd :=
  valid_ctr2 (V := V_spec_l20Rd_odd) (tysB_ok tys_ok) (CallsL.cons w_spec_l20Rd_pick (CallsL.nil _)) mixed 0 0 Try.func92 rfl (by kernel_rfl)
    (fun c hc => by
      obtain rfl := Option.some.inj hc
      exact ⟨trivial, ⟨trivial, trivial⟩⟩)
    (fun x K hp hk => ⟨_, by kernel_rfl, vF_spec_l20Rd_odd x.1 x.2 K hp (fun b q h => hk (b, q) h)⟩)
theorem vF_spec_l20Join (r : RdS) (n : Int) (K : List Arg → List (List AC) → Prop) (hp : RdOk r 50000000 ∧ n ≤ 1000) (hk : ∀ (j : JoinS) (q : RdS), (Bytes j.got ∧ j.got.length ≤ 1000 ∧ RdOn r q 500) → K ([rJoin.to j]) ([(rdC q).map .d])) :
(true = true) ∧
  ((((Bytes r.b) ∧
     (((List.length r.b) ≤ (2000 : Nat)) ∧
      (((0 : Int) ≤ r.p) ∧
       (r.p ≤ (1000000000 : Int))))) ∧
    ((2 : Int) ≤ (1000000000 : Int))) ∧
   (∀ r1 : (Prod Int RdS),
    ((r1.snd = (RdS.mk r.b (r.p + (1 : Int)))) ∧ (((0 : Int) ≤ r1.fst) ∧ ((((1 : Int) ≤ (2 : Int)) → (r1.fst < (2 : Int))) ∧ (((2 : Int) < (1 : Int)) → (r1.fst = (0 : Int)))))) →
    (true = true) ∧
    (if ((r1.fst == (0 : Int)) = true) then
      ((true = true) ∧
      ((((Bytes r1.snd.b) ∧
         (((List.length r1.snd.b) ≤ (2000 : Nat)) ∧
          (((0 : Int) ≤ r1.snd.p) ∧
           (r1.snd.p ≤ (1000000000 : Int))))) ∧
        ((23 : Int) ≤ (1000000000 : Int))) ∧
       (∀ r2 : (Prod Int RdS),
        ((r2.snd = (RdS.mk r1.snd.b (r1.snd.p + (1 : Int)))) ∧ (((0 : Int) ≤ r2.fst) ∧ ((((1 : Int) ≤ (23 : Int)) → (r2.fst < (23 : Int))) ∧ (((23 : Int) < (1 : Int)) → (r2.fst = (0 : Int)))))) →
        (true = true) ∧
        ((true = true) ∧
         ((((Bytes r2.snd.b) ∧
            (((List.length r2.snd.b) ≤ (2000 : Nat)) ∧
             (((0 : Int) ≤ r2.snd.p) ∧
              (r2.snd.p ≤ (100000000 : Int))))) ∧
           (((0 : Int) ≤ (IntKind.wrap IntKind.i64 ((IntKind.wrap IntKind.i64 ((2 : Int) + r2.fst)) - (1 : Int)))) ∧
            ((IntKind.wrap IntKind.i64 ((IntKind.wrap IntKind.i64 ((2 : Int) + r2.fst)) - (1 : Int))) ≤ (900 : Int)))) ∧
          (∀ r3 : (Prod (List Int) RdS),
           ((Bytes r3.fst) ∧ (((((List.length r3.fst) : Nat) : Int) ≤ (IntKind.wrap IntKind.i64 ((IntKind.wrap IntKind.i64 ((2 : Int) + r2.fst)) - (1 : Int)))) ∧ (RdOn r2.snd r3.snd ((1 : Int) + ((3 : Int) * (IntKind.wrap IntKind.i64 ((IntKind.wrap IntKind.i64 ((2 : Int) + r2.fst)) - (1 : Int)))))))) →
           (true = true) ∧
           (if (((((List.length r3.fst) : Nat) : Int) == (0 : Int)) = true) then
             ((true = true) ∧
             ((((Bytes r3.snd.b) ∧
                (((List.length r3.snd.b) ≤ (2000 : Nat)) ∧
                 (((0 : Int) ≤ r3.snd.p) ∧
                  (r3.snd.p ≤ (900000000 : Int))))) ∧
               (n ≤ (1000000000 : Int))) ∧
              (∀ r4 : (Prod Bool RdS),
               ((r4.snd.b = r3.snd.b) ∧ ((r3.snd.p ≤ r4.snd.p) ∧ (r4.snd.p ≤ (r3.snd.p + (1 : Int))))) →
               (true = true) ∧
               (if (r4.fst = true) then
                 ((true = true) ∧
                 ((((Bytes r4.snd.b) ∧
                    (((List.length r4.snd.b) ≤ (2000 : Nat)) ∧
                     (((0 : Int) ≤ r4.snd.p) ∧
                      (r4.snd.p ≤ (1000000000 : Int))))) ∧
                   ((3 : Int) ≤ (1000000000 : Int))) ∧
                  (∀ r5 : (Prod Int RdS),
                   ((r5.snd = (RdS.mk r4.snd.b (r4.snd.p + (1 : Int)))) ∧ (((0 : Int) ≤ r5.fst) ∧ ((((1 : Int) ≤ (3 : Int)) → (r5.fst < (3 : Int))) ∧ (((3 : Int) < (1 : Int)) → (r5.fst = (0 : Int)))))) →
                   (true = true) ∧
                   (if ((r5.fst == (0 : Int)) = true) then
                     ((true = true) ∧
                     ((((Bytes r5.snd.b) ∧
                        (((List.length r5.snd.b) ≤ (2000 : Nat)) ∧
                         (((0 : Int) ≤ r5.snd.p) ∧
                          (r5.snd.p ≤ (1000000000 : Int))))) ∧
                       ((3 : Int) ≤ (1000000000 : Int))) ∧
                      (∀ r6 : (Prod Int RdS),
                       ((r6.snd = (RdS.mk r5.snd.b (r5.snd.p + (1 : Int)))) ∧ (((0 : Int) ≤ r6.fst) ∧ ((((1 : Int) ≤ (3 : Int)) → (r6.fst < (3 : Int))) ∧ (((3 : Int) < (1 : Int)) → (r6.fst = (0 : Int)))))) →
                       (true = true) ∧
                       ((((0 : Int) ≤ r6.fst) ∧
                         (r6.fst < (3 : Int))) ∧
                        ((true = true) ∧
                         (K [(Arg.v true [(AC.d (D.i IntKind.i64 (at_i64 ((-1 : Int) :: ((1 : Int) :: ((25 : Int) :: ([] : (List Int)) : (List Int)) : (List Int)) : (List Int)) (Int.toNat r6.fst)))), (AC.d (D.r RK.u8 ((1 : Int) :: ([] : (List Int)) : (List Int))))])] [[(AC.d (D.r RK.u8 r6.snd.b)), (AC.d (D.i IntKind.i64 r6.snd.p))]]))))))
                    else
                     (if ((r5.fst == (1 : Int)) = true) then
                      ((true = true) ∧
                      (K [(Arg.v true [(AC.d (D.i IntKind.i64 (IntKind.wrap IntKind.i64 ((2 : Int) + r2.fst)))), (AC.d (D.r RK.u8 ([] : (List Int))))])] [[(AC.d (D.r RK.u8 r5.snd.b)), (AC.d (D.i IntKind.i64 r5.snd.p))]]))
                     else
                      ((true = true) ∧
                      ((((Bytes r5.snd.b) ∧
                         (((List.length r5.snd.b) ≤ (2000 : Nat)) ∧
                          (((0 : Int) ≤ r5.snd.p) ∧
                           (r5.snd.p ≤ (100000000 : Int))))) ∧
                        (((0 : Int) ≤ (25 : Int)) ∧
                         ((25 : Int) ≤ (900 : Int)))) ∧
                       (∀ r6 : (Prod (List Int) RdS),
                        ((Bytes r6.fst) ∧ (((((List.length r6.fst) : Nat) : Int) ≤ (25 : Int)) ∧ (RdOn r5.snd r6.snd ((1 : Int) + ((3 : Int) * (25 : Int)))))) →
                        (true = true) ∧
                        ((true = true) ∧
                         (K [(Arg.v true [(AC.d (D.i IntKind.i64 (IntKind.wrap IntKind.i64 ((2 : Int) + r2.fst)))), (AC.d (D.r RK.u8 r6.fst))])] [[(AC.d (D.r RK.u8 r6.snd.b)), (AC.d (D.i IntKind.i64 r6.snd.p))]]))))))))))
                else
                 ((true = true) ∧
                 (K [(Arg.v true [(AC.d (D.i IntKind.i64 (IntKind.wrap IntKind.i64 ((2 : Int) + r2.fst)))), (AC.d (D.r RK.u8 ((1 : Int) :: ([] : (List Int)) : (List Int))))])] [[(AC.d (D.r RK.u8 r4.snd.b)), (AC.d (D.i IntKind.i64 r4.snd.p))]]))))))
            else
             ((true = true) ∧
             ((((Bytes r3.snd.b) ∧
                (((List.length r3.snd.b) ≤ (2000 : Nat)) ∧
                 (((0 : Int) ≤ r3.snd.p) ∧
                  (r3.snd.p ≤ (900000000 : Int))))) ∧
               (n ≤ (1000000000 : Int))) ∧
              (∀ r4 : (Prod Bool RdS),
               ((r4.snd.b = r3.snd.b) ∧ ((r3.snd.p ≤ r4.snd.p) ∧ (r4.snd.p ≤ (r3.snd.p + (1 : Int))))) →
               (true = true) ∧
               (if (r4.fst = true) then
                 ((true = true) ∧
                 ((((Bytes r4.snd.b) ∧
                    (((List.length r4.snd.b) ≤ (2000 : Nat)) ∧
                     (((0 : Int) ≤ r4.snd.p) ∧
                      (r4.snd.p ≤ (1000000000 : Int))))) ∧
                   ((3 : Int) ≤ (1000000000 : Int))) ∧
                  (∀ r5 : (Prod Int RdS),
                   ((r5.snd = (RdS.mk r4.snd.b (r4.snd.p + (1 : Int)))) ∧ (((0 : Int) ≤ r5.fst) ∧ ((((1 : Int) ≤ (3 : Int)) → (r5.fst < (3 : Int))) ∧ (((3 : Int) < (1 : Int)) → (r5.fst = (0 : Int)))))) →
                   (true = true) ∧
                   (if ((r5.fst == (0 : Int)) = true) then
                     ((true = true) ∧
                     ((((Bytes r5.snd.b) ∧
                        (((List.length r5.snd.b) ≤ (2000 : Nat)) ∧
                         (((0 : Int) ≤ r5.snd.p) ∧
                          (r5.snd.p ≤ (1000000000 : Int))))) ∧
                       ((3 : Int) ≤ (1000000000 : Int))) ∧
                      (∀ r6 : (Prod Int RdS),
                       ((r6.snd = (RdS.mk r5.snd.b (r5.snd.p + (1 : Int)))) ∧ (((0 : Int) ≤ r6.fst) ∧ ((((1 : Int) ≤ (3 : Int)) → (r6.fst < (3 : Int))) ∧ (((3 : Int) < (1 : Int)) → (r6.fst = (0 : Int)))))) →
                       (true = true) ∧
                       ((((0 : Int) ≤ r6.fst) ∧
                         (r6.fst < (3 : Int))) ∧
                        ((true = true) ∧
                         (K [(Arg.v true [(AC.d (D.i IntKind.i64 (at_i64 ((-1 : Int) :: ((1 : Int) :: ((25 : Int) :: ([] : (List Int)) : (List Int)) : (List Int)) : (List Int)) (Int.toNat r6.fst)))), (AC.d (D.r RK.u8 r3.fst))])] [[(AC.d (D.r RK.u8 r6.snd.b)), (AC.d (D.i IntKind.i64 r6.snd.p))]]))))))
                    else
                     (if ((r5.fst == (1 : Int)) = true) then
                      ((true = true) ∧
                      (K [(Arg.v true [(AC.d (D.i IntKind.i64 (IntKind.wrap IntKind.i64 ((2 : Int) + r2.fst)))), (AC.d (D.r RK.u8 ([] : (List Int))))])] [[(AC.d (D.r RK.u8 r5.snd.b)), (AC.d (D.i IntKind.i64 r5.snd.p))]]))
                     else
                      ((true = true) ∧
                      ((((Bytes r5.snd.b) ∧
                         (((List.length r5.snd.b) ≤ (2000 : Nat)) ∧
                          (((0 : Int) ≤ r5.snd.p) ∧
                           (r5.snd.p ≤ (100000000 : Int))))) ∧
                        (((0 : Int) ≤ (25 : Int)) ∧
                         ((25 : Int) ≤ (900 : Int)))) ∧
                       (∀ r6 : (Prod (List Int) RdS),
                        ((Bytes r6.fst) ∧ (((((List.length r6.fst) : Nat) : Int) ≤ (25 : Int)) ∧ (RdOn r5.snd r6.snd ((1 : Int) + ((3 : Int) * (25 : Int)))))) →
                        (true = true) ∧
                        ((true = true) ∧
                         (K [(Arg.v true [(AC.d (D.i IntKind.i64 (IntKind.wrap IntKind.i64 ((2 : Int) + r2.fst)))), (AC.d (D.r RK.u8 r6.fst))])] [[(AC.d (D.r RK.u8 r6.snd.b)), (AC.d (D.i IntKind.i64 r6.snd.p))]]))))))))))
                else
                 ((true = true) ∧
                 (K [(Arg.v true [(AC.d (D.i IntKind.i64 (IntKind.wrap IntKind.i64 ((2 : Int) + r2.fst)))), (AC.d (D.r RK.u8 r3.fst))])] [[(AC.d (D.r RK.u8 r4.snd.b)), (AC.d (D.i IntKind.i64 r4.snd.p))]])))))))))))))
     else
      ((true = true) ∧
      ((((Bytes r1.snd.b) ∧
         (((List.length r1.snd.b) ≤ (2000 : Nat)) ∧
          (((0 : Int) ≤ r1.snd.p) ∧
           (r1.snd.p ≤ (900000000 : Int))))) ∧
        (n ≤ (1000000000 : Int))) ∧
       (∀ r2 : (Prod Bool RdS),
        ((r2.snd.b = r1.snd.b) ∧ ((r1.snd.p ≤ r2.snd.p) ∧ (r2.snd.p ≤ (r1.snd.p + (1 : Int))))) →
        (true = true) ∧
        (if (r2.fst = true) then
          ((true = true) ∧
          ((((Bytes r2.snd.b) ∧
             (((List.length r2.snd.b) ≤ (2000 : Nat)) ∧
              (((0 : Int) ≤ r2.snd.p) ∧
               (r2.snd.p ≤ (1000000000 : Int))))) ∧
            ((3 : Int) ≤ (1000000000 : Int))) ∧
           (∀ r3 : (Prod Int RdS),
            ((r3.snd = (RdS.mk r2.snd.b (r2.snd.p + (1 : Int)))) ∧ (((0 : Int) ≤ r3.fst) ∧ ((((1 : Int) ≤ (3 : Int)) → (r3.fst < (3 : Int))) ∧ (((3 : Int) < (1 : Int)) → (r3.fst = (0 : Int)))))) →
            (true = true) ∧
            (if ((r3.fst == (0 : Int)) = true) then
              ((true = true) ∧
              ((((Bytes r3.snd.b) ∧
                 (((List.length r3.snd.b) ≤ (2000 : Nat)) ∧
                  (((0 : Int) ≤ r3.snd.p) ∧
                   (r3.snd.p ≤ (1000000000 : Int))))) ∧
                ((3 : Int) ≤ (1000000000 : Int))) ∧
               (∀ r4 : (Prod Int RdS),
                ((r4.snd = (RdS.mk r3.snd.b (r3.snd.p + (1 : Int)))) ∧ (((0 : Int) ≤ r4.fst) ∧ ((((1 : Int) ≤ (3 : Int)) → (r4.fst < (3 : Int))) ∧ (((3 : Int) < (1 : Int)) → (r4.fst = (0 : Int)))))) →
                (true = true) ∧
                ((((0 : Int) ≤ r4.fst) ∧
                  (r4.fst < (3 : Int))) ∧
                 ((true = true) ∧
                  (K [(Arg.v true [(AC.d (D.i IntKind.i64 (at_i64 ((-1 : Int) :: ((1 : Int) :: ((25 : Int) :: ([] : (List Int)) : (List Int)) : (List Int)) : (List Int)) (Int.toNat r4.fst)))), (AC.d (D.r RK.u8 ([] : (List Int))))])] [[(AC.d (D.r RK.u8 r4.snd.b)), (AC.d (D.i IntKind.i64 r4.snd.p))]]))))))
             else
              (if ((r3.fst == (1 : Int)) = true) then
               ((true = true) ∧
               (K [(Arg.v true [(AC.d (D.i IntKind.i64 (0 : Int))), (AC.d (D.r RK.u8 ([] : (List Int))))])] [[(AC.d (D.r RK.u8 r3.snd.b)), (AC.d (D.i IntKind.i64 r3.snd.p))]]))
              else
               ((true = true) ∧
               ((((Bytes r3.snd.b) ∧
                  (((List.length r3.snd.b) ≤ (2000 : Nat)) ∧
                   (((0 : Int) ≤ r3.snd.p) ∧
                    (r3.snd.p ≤ (100000000 : Int))))) ∧
                 (((0 : Int) ≤ (25 : Int)) ∧
                  ((25 : Int) ≤ (900 : Int)))) ∧
                (∀ r4 : (Prod (List Int) RdS),
                 ((Bytes r4.fst) ∧ (((((List.length r4.fst) : Nat) : Int) ≤ (25 : Int)) ∧ (RdOn r3.snd r4.snd ((1 : Int) + ((3 : Int) * (25 : Int)))))) →
                 (true = true) ∧
                 ((true = true) ∧
                  (K [(Arg.v true [(AC.d (D.i IntKind.i64 (0 : Int))), (AC.d (D.r RK.u8 r4.fst))])] [[(AC.d (D.r RK.u8 r4.snd.b)), (AC.d (D.i IntKind.i64 r4.snd.p))]]))))))))))
         else
          ((true = true) ∧
          (K [(Arg.v true [(AC.d (D.i IntKind.i64 (0 : Int))), (AC.d (D.r RK.u8 ([] : (List Int))))])] [[(AC.d (D.r RK.u8 r2.snd.b)), (AC.d (D.i IntKind.i64 r2.snd.p))]]))))))))) := by
  repeat' first
    | exact rfl
    | trivial
    | apply And.intro
    | (show Bytes _; grind [RdOk, RdOn, Bytes.cons, Bytes.nil, Bytes.take])
    | (intro r hr; subst hr)
    | intro r
    | exact hp
    | (refine iteI (fun h => ?_) (fun h => ?_))
  all_goals try simp (disch := omega) only [wr] at *
  all_goals first
    | omega
    | exact hk ⟨_, _⟩ ⟨_, _⟩ (by (try dsimp only); grind [RdOk, RdOn, Bytes.cons, Bytes.nil, Bytes.take])
    | grind [RdOk, RdOn, Bytes.cons, Bytes.nil, Bytes.take]
theorem w_spec_l20Join : Valid Try.prog 91 c_spec_l20Join :=
  valid_ctr2 (V := V_spec_l20Join) (tysB_ok tys_ok) (CallsL.cons w_spec_l20Rd_pick (CallsL.cons w_spec_l20Rd_odd (CallsL.cons w_spec_l20Bytes (CallsL.nil _)))) mixed 0 2 Try.func91 rfl (by kernel_rfl)
    (fun c hc => by
      obtain rfl := Option.some.inj hc
      exact ⟨trivial, ⟨trivial, ⟨⟨trivial, ⟨⟨trivial, ⟨trivial, ⟨⟨trivial, ⟨trivial, trivial⟩⟩, trivial⟩⟩⟩, trivial⟩⟩, ⟨⟨trivial, ⟨⟨trivial, ⟨trivial, ⟨trivial, ⟨trivial, ⟨trivial, trivial⟩⟩⟩⟩⟩, trivial⟩⟩, ⟨trivial, trivial⟩⟩⟩⟩⟩)
    (fun x K hp hk => ⟨_, by kernel_rfl, vF_spec_l20Join x.1 x.2 K hp (fun j q h => hk (j, q) h)⟩)
theorem vF_spec_l20Rx (r : RdS) (n : Int) (K : List Arg → List (List AC) → Prop) (hp : RdOk r 40000000 ∧ n ≤ 1000) (hk : ∀ (x : RxS) (q : RdS), (Bytes x.join.got ∧ x.join.got.length ≤ 1000 ∧ RdOn r q 2000) → K ([rRx.to x]) ([(rdC q).map .d])) :
(true = true) ∧
  ((((Bytes r.b) ∧
     (((List.length r.b) ≤ (2000 : Nat)) ∧
      (((0 : Int) ≤ r.p) ∧
       (r.p ≤ (1000000000 : Int))))) ∧
    ((40 : Int) ≤ (1000000000 : Int))) ∧
   (∀ r1 : (Prod Int RdS),
    ((r1.snd = (RdS.mk r.b (r.p + (1 : Int)))) ∧ (((0 : Int) ≤ r1.fst) ∧ ((((1 : Int) ≤ (40 : Int)) → (r1.fst < (40 : Int))) ∧ (((40 : Int) < (1 : Int)) → (r1.fst = (0 : Int)))))) →
    (true = true) ∧
    (((8 : Int) ≠ (0 : Int)) ∧
     ((true = true) ∧
      ((((Bytes r1.snd.b) ∧
         (((List.length r1.snd.b) ≤ (2000 : Nat)) ∧
          (((0 : Int) ≤ r1.snd.p) ∧
           (r1.snd.p ≤ (50000000 : Int))))) ∧
        ((0 : Int) ≤ (1000 : Int))) ∧
       (∀ r2 : (Prod JoinS RdS),
        ((Bytes r2.fst.got) ∧ (((List.length r2.fst.got) ≤ (1000 : Nat)) ∧ (RdOn r1.snd r2.snd (500 : Int)))) →
        (true = true) ∧
        ((true = true) ∧
         ((((Bytes r2.snd.b) ∧
            (((List.length r2.snd.b) ≤ (2000 : Nat)) ∧
             (((0 : Int) ≤ r2.snd.p) ∧
              (r2.snd.p ≤ (1000000000 : Int))))) ∧
           ((3 : Int) ≤ (1000000000 : Int))) ∧
          (∀ r3 : (Prod Int RdS),
           ((r3.snd = (RdS.mk r2.snd.b (r2.snd.p + (1 : Int)))) ∧ (((0 : Int) ≤ r3.fst) ∧ ((((1 : Int) ≤ (3 : Int)) → (r3.fst < (3 : Int))) ∧ (((3 : Int) < (1 : Int)) → (r3.fst = (0 : Int)))))) →
           (true = true) ∧
           ((true = true) ∧
            ((((Bytes r3.snd.b) ∧
               (((List.length r3.snd.b) ≤ (2000 : Nat)) ∧
                (((0 : Int) ≤ r3.snd.p) ∧
                 (r3.snd.p ≤ (1000000000 : Int))))) ∧
              ((4 : Int) ≤ (1000000000 : Int))) ∧
             (∀ r4 : (Prod Int RdS),
              ((r4.snd = (RdS.mk r3.snd.b (r3.snd.p + (1 : Int)))) ∧ (((0 : Int) ≤ r4.fst) ∧ ((((1 : Int) ≤ (4 : Int)) → (r4.fst < (4 : Int))) ∧ (((4 : Int) < (1 : Int)) → (r4.fst = (0 : Int)))))) →
              (true = true) ∧
              ((true = true) ∧
               ((((Bytes r4.snd.b) ∧
                  (((List.length r4.snd.b) ≤ (2000 : Nat)) ∧
                   (((0 : Int) ≤ r4.snd.p) ∧
                    (r4.snd.p ≤ (1000000000 : Int))))) ∧
                 ((12 : Int) ≤ (1000000000 : Int))) ∧
                (∀ r5 : (Prod Int RdS),
                 ((r5.snd = (RdS.mk r4.snd.b (r4.snd.p + (1 : Int)))) ∧ (((0 : Int) ≤ r5.fst) ∧ ((((1 : Int) ≤ (12 : Int)) → (r5.fst < (12 : Int))) ∧ (((12 : Int) < (1 : Int)) → (r5.fst = (0 : Int)))))) →
                 (true = true) ∧
                 ((true = true) ∧
                  ((((Bytes r5.snd.b) ∧
                     (((List.length r5.snd.b) ≤ (2000 : Nat)) ∧
                      (((0 : Int) ≤ r5.snd.p) ∧
                       (r5.snd.p ≤ (900000000 : Int))))) ∧
                    (n ≤ (1000000000 : Int))) ∧
                   (∀ r6 : (Prod Bool RdS),
                    ((r6.snd.b = r5.snd.b) ∧ ((r5.snd.p ≤ r6.snd.p) ∧ (r6.snd.p ≤ (r5.snd.p + (1 : Int))))) →
                    (true = true) ∧
                    (if (r6.fst = true) then
                      ((true = true) ∧
                      ((((Bytes r6.snd.b) ∧
                         (((List.length r6.snd.b) ≤ (2000 : Nat)) ∧
                          (((0 : Int) ≤ r6.snd.p) ∧
                           (r6.snd.p ≤ (1000000000 : Int))))) ∧
                        ((3 : Int) ≤ (1000000000 : Int))) ∧
                       (∀ r7 : (Prod Int RdS),
                        ((r7.snd = (RdS.mk r6.snd.b (r6.snd.p + (1 : Int)))) ∧ (((0 : Int) ≤ r7.fst) ∧ ((((1 : Int) ≤ (3 : Int)) → (r7.fst < (3 : Int))) ∧ (((3 : Int) < (1 : Int)) → (r7.fst = (0 : Int)))))) →
                        (true = true) ∧
                        (if ((r7.fst == (0 : Int)) = true) then
                          ((true = true) ∧
                          ((((0 : Int) ≤ (Int.tmod r1.fst (8 : Int))) ∧
                            ((Int.tmod r1.fst (8 : Int)) ≤ (100000 : Int))) ∧
                           (∀ r8 : Int,
                            (r8 = (((Int.tmod r1.fst (8 : Int)) + (1 : Int)) % (8 : Int))) →
                            (true = true) ∧
                            ((true = true) ∧
                             ((((Bytes r7.snd.b) ∧
                                (((List.length r7.snd.b) ≤ (2000 : Nat)) ∧
                                 (((0 : Int) ≤ r7.snd.p) ∧
                                  (r7.snd.p ≤ (1000000000 : Int))))) ∧
                               ((3 : Int) ≤ (1000000000 : Int))) ∧
                              (∀ r9 : (Prod Int RdS),
                               ((r9.snd = (RdS.mk r7.snd.b (r7.snd.p + (1 : Int)))) ∧ (((0 : Int) ≤ r9.fst) ∧ ((((1 : Int) ≤ (3 : Int)) → (r9.fst < (3 : Int))) ∧ (((3 : Int) < (1 : Int)) → (r9.fst = (0 : Int)))))) →
                               (true = true) ∧
                               ((((0 : Int) ≤ r9.fst) ∧
                                 (r9.fst < (((List.length ((-1 : Int) :: ((8 : Int) :: (r8 :: ([] : (List Int)) : (List Int)) : (List Int)) : (List Int))) : Nat) : Int))) ∧
                                ((true = true) ∧
                                 (K [(Arg.v true [(AC.d (D.i IntKind.i64 (at_i64 ((-1 : Int) :: ((8 : Int) :: (r8 :: ([] : (List Int)) : (List Int)) : (List Int)) : (List Int)) (Int.toNat r9.fst)))), (AC.d (D.i IntKind.i64 r1.fst)), (AC.d (D.i IntKind.i64 r2.fst.len)), (AC.d (D.r RK.u8 r2.fst.got)), (AC.d (D.b (r3.fst == (0 : Int)))), (AC.d (D.b (r4.fst == (0 : Int)))), (AC.d (D.b (r5.fst == (0 : Int))))])] [[(AC.d (D.r RK.u8 r9.snd.b)), (AC.d (D.i IntKind.i64 r9.snd.p))]])))))))))
                         else
                          (if ((r7.fst == (1 : Int)) = true) then
                           (((true = true) ∧
                            (((true = true) ∧
                              ((true = true) ∧
                               ((((Bytes r7.snd.b) ∧
                                  (((List.length r7.snd.b) ≤ (2000 : Nat)) ∧
                                   (((0 : Int) ≤ r7.snd.p) ∧
                                    (r7.snd.p ≤ (1000000000 : Int))))) ∧
                                 ((3 : Int) ≤ (1000000000 : Int))) ∧
                                (∀ r8 : (Prod Int RdS),
                                 ((r8.snd = (RdS.mk r7.snd.b (r7.snd.p + (1 : Int)))) ∧ (((0 : Int) ≤ r8.fst) ∧ ((((1 : Int) ≤ (3 : Int)) → (r8.fst < (3 : Int))) ∧ (((3 : Int) < (1 : Int)) → (r8.fst = (0 : Int)))))) →
                                 (true = true) ∧
                                 ((true = true) ∧
                                  ((((0 : Int) ≤ r8.fst) ∧
                                    (r8.fst < (((List.length ((-1 : Int) :: ((10000 : Int) :: ((IntKind.wrap IntKind.i64 (r1.fst + (8 : Int))) :: ([] : (List Int)) : (List Int)) : (List Int)) : (List Int))) : Nat) : Int))) ∧
                                   ((true = true) ∧
                                    ((true = true) ∧
                                     ((true = true) ∧
                                      (K [(Arg.v true [(AC.d (D.i IntKind.i64 (Int.tmod r1.fst (8 : Int)))), (AC.d (D.i IntKind.i64 (at_i64 ((-1 : Int) :: ((10000 : Int) :: ((IntKind.wrap IntKind.i64 (r1.fst + (8 : Int))) :: ([] : (List Int)) : (List Int)) : (List Int)) : (List Int)) (Int.toNat r8.fst)))), (AC.d (D.i IntKind.i64 r2.fst.len)), (AC.d (D.r RK.u8 r2.fst.got)), (AC.d (D.b (r3.fst == (0 : Int)))), (AC.d (D.b (r4.fst == (0 : Int)))), (AC.d (D.b (r5.fst == (0 : Int))))])] [[(AC.d (D.r RK.u8 r8.snd.b)), (AC.d (D.i IntKind.i64 r8.snd.p))]])))))))))) ∧
                             ((true = true) ∧
                              ((((Bytes r7.snd.b) ∧
                                 (((List.length r7.snd.b) ≤ (2000 : Nat)) ∧
                                  (((0 : Int) ≤ r7.snd.p) ∧
                                   (r7.snd.p ≤ (1000000000 : Int))))) ∧
                                ((3 : Int) ≤ (1000000000 : Int))) ∧
                               (∀ r8 : (Prod Int RdS),
                                ((r8.snd = (RdS.mk r7.snd.b (r7.snd.p + (1 : Int)))) ∧ (((0 : Int) ≤ r8.fst) ∧ ((((1 : Int) ≤ (3 : Int)) → (r8.fst < (3 : Int))) ∧ (((3 : Int) < (1 : Int)) → (r8.fst = (0 : Int)))))) →
                                (true = true) ∧
                                ((true = true) ∧
                                 ((true = true) ∧
                                  ((((0 : Int) ≤ r8.fst) ∧
                                    (r8.fst < (((List.length ((-1 : Int) :: ((10000 : Int) :: ((IntKind.wrap IntKind.i64 (r1.fst + (8 : Int))) :: ([] : (List Int)) : (List Int)) : (List Int)) : (List Int))) : Nat) : Int))) ∧
                                   ((true = true) ∧
                                    ((true = true) ∧
                                     ((true = true) ∧
                                      (K [(Arg.v true [(AC.d (D.i IntKind.i64 (Int.tmod r1.fst (8 : Int)))), (AC.d (D.i IntKind.i64 (at_i64 ((-1 : Int) :: ((10000 : Int) :: ((IntKind.wrap IntKind.i64 (r1.fst + (8 : Int))) :: ([] : (List Int)) : (List Int)) : (List Int)) : (List Int)) (Int.toNat r8.fst)))), (AC.d (D.i IntKind.i64 r2.fst.len)), (AC.d (D.r RK.u8 r2.fst.got)), (AC.d (D.b (r3.fst == (0 : Int)))), (AC.d (D.b (r4.fst == (0 : Int)))), (AC.d (D.b (r5.fst == (0 : Int))))])] [[(AC.d (D.r RK.u8 r8.snd.b)), (AC.d (D.i IntKind.i64 r8.snd.p))]])))))))))))) ∧
                           ((true = true) ∧
                            ((((Bytes r7.snd.b) ∧
                               (((List.length r7.snd.b) ≤ (2000 : Nat)) ∧
                                (((0 : Int) ≤ r7.snd.p) ∧
                                 (r7.snd.p ≤ (1000000000 : Int))))) ∧
                              ((3 : Int) ≤ (1000000000 : Int))) ∧
                             (∀ r8 : (Prod Int RdS),
                              ((r8.snd = (RdS.mk r7.snd.b (r7.snd.p + (1 : Int)))) ∧ (((0 : Int) ≤ r8.fst) ∧ ((((1 : Int) ≤ (3 : Int)) → (r8.fst < (3 : Int))) ∧ (((3 : Int) < (1 : Int)) → (r8.fst = (0 : Int)))))) →
                              (true = true) ∧
                              ((true = true) ∧
                               ((true = true) ∧
                                ((true = true) ∧
                                 ((((0 : Int) ≤ r8.fst) ∧
                                   (r8.fst < (((List.length ((-1 : Int) :: ((10000 : Int) :: ((IntKind.wrap IntKind.i64 (r1.fst + (8 : Int))) :: ([] : (List Int)) : (List Int)) : (List Int)) : (List Int))) : Nat) : Int))) ∧
                                  ((true = true) ∧
                                   ((true = true) ∧
                                    ((true = true) ∧
                                     (K [(Arg.v true [(AC.d (D.i IntKind.i64 (Int.tmod r1.fst (8 : Int)))), (AC.d (D.i IntKind.i64 (at_i64 ((-1 : Int) :: ((10000 : Int) :: ((IntKind.wrap IntKind.i64 (r1.fst + (8 : Int))) :: ([] : (List Int)) : (List Int)) : (List Int)) : (List Int)) (Int.toNat r8.fst)))), (AC.d (D.i IntKind.i64 r2.fst.len)), (AC.d (D.r RK.u8 r2.fst.got)), (AC.d (D.b (r3.fst == (0 : Int)))), (AC.d (D.b (r4.fst == (0 : Int)))), (AC.d (D.b (r5.fst == (0 : Int))))])] [[(AC.d (D.r RK.u8 r8.snd.b)), (AC.d (D.i IntKind.i64 r8.snd.p))]]))))))))))))
                          else
                           ((true = true) ∧
                           ((((Bytes r7.snd.b) ∧
                              (((List.length r7.snd.b) ≤ (2000 : Nat)) ∧
                               (((0 : Int) ≤ r7.snd.p) ∧
                                (r7.snd.p ≤ (50000000 : Int))))) ∧
                             ((1 : Int) ≤ (1000 : Int))) ∧
                            (∀ r8 : (Prod JoinS RdS),
                             ((Bytes r8.fst.got) ∧ (((List.length r8.fst.got) ≤ (1000 : Nat)) ∧ (RdOn r7.snd r8.snd (500 : Int)))) →
                             (true = true) ∧
                             ((true = true) ∧
                              (K [(Arg.v true [(AC.d (D.i IntKind.i64 (Int.tmod r1.fst (8 : Int)))), (AC.d (D.i IntKind.i64 r1.fst)), (AC.d (D.i IntKind.i64 r8.fst.len)), (AC.d (D.r RK.u8 r8.fst.got)), (AC.d (D.b (r3.fst == (0 : Int)))), (AC.d (D.b (r4.fst == (0 : Int)))), (AC.d (D.b (r5.fst == (0 : Int))))])] [[(AC.d (D.r RK.u8 r8.snd.b)), (AC.d (D.i IntKind.i64 r8.snd.p))]]))))))))))
                     else
                      ((true = true) ∧
                      (K [(Arg.v true [(AC.d (D.i IntKind.i64 (Int.tmod r1.fst (8 : Int)))), (AC.d (D.i IntKind.i64 r1.fst)), (AC.d (D.i IntKind.i64 r2.fst.len)), (AC.d (D.r RK.u8 r2.fst.got)), (AC.d (D.b (r3.fst == (0 : Int)))), (AC.d (D.b (r4.fst == (0 : Int)))), (AC.d (D.b (r5.fst == (0 : Int))))])] [[(AC.d (D.r RK.u8 r6.snd.b)), (AC.d (D.i IntKind.i64 r6.snd.p))]]))))))))))))))))))))) := by
  repeat' first
    | exact rfl
    | trivial
    | apply And.intro
    | (show Bytes _; grind [RdOk, RdOn, Bytes.cons, Bytes.nil, Bytes.take])
    | (intro r hr; subst hr)
    | intro r
    | exact hp
    | (refine iteI (fun h => ?_) (fun h => ?_))
  all_goals try simp (disch := omega) only [wr] at *
  all_goals first
    | omega
    | exact hk ⟨_, _, ⟨_, _⟩, _, _, _⟩ ⟨_, _⟩ (by (try dsimp only); grind [RdOk, RdOn, Bytes.cons, Bytes.nil, Bytes.take])
    | grind [RdOk, RdOn, Bytes.cons, Bytes.nil, Bytes.take]
theorem w_spec_l20Rx : Valid Try.prog 54 c_spec_l20Rx :=
  valid_ctr2 (V := V_spec_l20Rx) (tysB_ok tys_ok) (CallsL.cons w_spec_l20Rd_pick (CallsL.cons w_spec_l20Join (CallsL.cons w_spec_l20Rd_odd (CallsL.cons w_spec_NumNext (CallsL.nil _))))) mixed 0 2 Try.func54 rfl (by kernel_rfl)
    (fun c hc => by
      obtain rfl := Option.some.inj hc
      exact ⟨trivial, ⟨trivial, ⟨trivial, ⟨⟨trivial, ⟨⟨trivial, ⟨trivial, ⟨trivial, ⟨trivial, ⟨trivial, trivial⟩⟩⟩⟩⟩, trivial⟩⟩, ⟨trivial, trivial⟩⟩⟩⟩⟩)
    (fun x K hp hk => ⟨_, by kernel_rfl, vF_spec_l20Rx x.1 x.2 K hp (fun x q h => hk (x, q) h)⟩)
theorem vF_spec_DrawRxAck (l : List Int) (K : List Arg → List (List AC) → Prop) (hp : Bytes l) (hk : ∀ (x : RxS), (Bytes x.join.got ∧ x.join.got.length ≤ 1000) → K ([rRx.to x]) ([])) :
(true = true) ∧
  ((Bytes l) ∧
   (∀ r : RdS,
    (r = (RdS.mk (List.take (2000 : Nat) l) (0 : Int))) →
    (true = true) ∧
    ((true = true) ∧
     ((((Bytes r.b) ∧
        (((List.length r.b) ≤ (2000 : Nat)) ∧
         (((0 : Int) ≤ r.p) ∧
          (r.p ≤ (40000000 : Int))))) ∧
       ((6 : Int) ≤ (1000 : Int))) ∧
      (∀ r1 : (Prod RxS RdS),
       ((Bytes r1.fst.join.got) ∧ (((List.length r1.fst.join.got) ≤ (1000 : Nat)) ∧ (RdOn r r1.snd (2000 : Int)))) →
       (true = true) ∧
       ((true = true) ∧
        (K [(Arg.v true [(AC.d (D.i IntKind.i64 r1.fst.expect)), (AC.d (D.i IntKind.i64 r1.fst.count)), (AC.d (D.i IntKind.i64 r1.fst.join.len)), (AC.d (D.r RK.u8 r1.fst.join.got)), (AC.d (D.b r1.fst.again)), (AC.d (D.b r1.fst.busy)), (AC.d (D.b r1.fst.dead))])] []))))))) := by
  repeat' first
    | exact rfl
    | trivial
    | apply And.intro
    | (show Bytes _; grind [RdOk, RdOn, Bytes.cons, Bytes.nil, Bytes.take])
    | (intro r hr; subst hr)
    | intro r
    | exact hp
    | (refine iteI (fun h => ?_) (fun h => ?_))
  all_goals try simp (disch := omega) only [wr] at *
  all_goals first
    | omega
    | exact hk ⟨_, _, ⟨_, _⟩, _, _, _⟩ (by (try dsimp only); grind [RdOk, RdOn, Bytes.cons, Bytes.nil, Bytes.take])
    | grind [RdOk, RdOn, Bytes.cons, Bytes.nil, Bytes.take]
theorem w_spec_DrawRxAck : Valid Try.prog 13 c_spec_DrawRxAck :=
  valid_ctr2 (V := V_spec_DrawRxAck) (tysB_ok tys_ok) (CallsL.cons w_spec_l20Rx (CallsL.cons w_spec_l20Open (CallsL.nil _))) mixed 0 2 Try.func13 rfl (by kernel_rfl)
    (fun c hc => by
      obtain rfl := Option.some.inj hc
      exact ⟨trivial, ⟨trivial, trivial⟩⟩)
    (fun x K hp hk => ⟨_, by kernel_rfl, vF_spec_DrawRxAck x K hp (fun x h => hk x h)⟩)
theorem vF_spec_DrawRxBusy (l : List Int) (K : List Arg → List (List AC) → Prop) (hp : Bytes l) (hk : ∀ (x : RxS) (b : Bool), (Bytes x.join.got ∧ x.join.got.length ≤ 1000) → K ([rRx.to x, rB.to b]) ([])) :
(true = true) ∧
  ((Bytes l) ∧
   (∀ r : RdS,
    (r = (RdS.mk (List.take (2000 : Nat) l) (0 : Int))) →
    (true = true) ∧
    ((true = true) ∧
     ((((Bytes r.b) ∧
        (((List.length r.b) ≤ (2000 : Nat)) ∧
         (((0 : Int) ≤ r.p) ∧
          (r.p ≤ (40000000 : Int))))) ∧
       ((9 : Int) ≤ (1000 : Int))) ∧
      (∀ r1 : (Prod RxS RdS),
       ((Bytes r1.fst.join.got) ∧ (((List.length r1.fst.join.got) ≤ (1000 : Nat)) ∧ (RdOn r r1.snd (2000 : Int)))) →
       (true = true) ∧
       ((true = true) ∧
        ((((Bytes r1.snd.b) ∧
           (((List.length r1.snd.b) ≤ (2000 : Nat)) ∧
            (((0 : Int) ≤ r1.snd.p) ∧
             (r1.snd.p ≤ (1000000000 : Int))))) ∧
          ((2 : Int) ≤ (1000000000 : Int))) ∧
         (∀ r2 : (Prod Int RdS),
          ((r2.snd = (RdS.mk r1.snd.b (r1.snd.p + (1 : Int)))) ∧ (((0 : Int) ≤ r2.fst) ∧ ((((1 : Int) ≤ (2 : Int)) → (r2.fst < (2 : Int))) ∧ (((2 : Int) < (1 : Int)) → (r2.fst = (0 : Int)))))) →
          (true = true) ∧
          ((true = true) ∧
           (K [(Arg.v true [(AC.d (D.i IntKind.i64 r1.fst.expect)), (AC.d (D.i IntKind.i64 r1.fst.count)), (AC.d (D.i IntKind.i64 r1.fst.join.len)), (AC.d (D.r RK.u8 r1.fst.join.got)), (AC.d (D.b r1.fst.again)), (AC.d (D.b r1.fst.busy)), (AC.d (D.b r1.fst.dead))]), (aB (r2.fst == (0 : Int)))] [])))))))))) := by
  repeat' first
    | exact rfl
    | trivial
    | apply And.intro
    | (show Bytes _; grind [RdOk, RdOn, Bytes.cons, Bytes.nil, Bytes.take])
    | (intro r hr; subst hr)
    | intro r
    | exact hp
    | (refine iteI (fun h => ?_) (fun h => ?_))
  all_goals try simp (disch := omega) only [wr] at *
  all_goals first
    | omega
    | exact hk ⟨_, _, ⟨_, _⟩, _, _, _⟩ _ (by (try dsimp only); grind [RdOk, RdOn, Bytes.cons, Bytes.nil, Bytes.take])
    | grind [RdOk, RdOn, Bytes.cons, Bytes.nil, Bytes.take]
theorem w_spec_DrawRxBusy : Valid Try.prog 20 c_spec_DrawRxBusy :=
  valid_ctr2 (V := V_spec_DrawRxBusy) (tysB_ok tys_ok) (CallsL.cons w_spec_l20Rx (CallsL.cons w_spec_l20Open (CallsL.cons w_spec_l20Rd_pick (CallsL.nil _)))) mixed 0 2 Try.func20 rfl (by kernel_rfl)
    (fun c hc => by
      obtain rfl := Option.some.inj hc
      exact ⟨trivial, ⟨trivial, ⟨trivial, trivial⟩⟩⟩)
    (fun x K hp hk => ⟨_, by kernel_rfl, vF_spec_DrawRxBusy x K hp (fun x b h => hk (x, b) h)⟩)
end Go.Proofs.YtjladmhjpikdhaaE
